import PyProof.Rows.All
import Wide.All
import OpenK.AllK
import Wide.FinOn
import HandS.ForMost
import HandS.Walk
import HandS.Wide
import HandS.Flow
import HandS.IsInst
import HandS.TupAny
import HandS.TupMul
import HandS.Lambda
import HandS.Conv
import HandS.Zip
import HandS.Deep
import KE.GoesEnum
import KE.KTupSum
import HandS.Codes
import HandS.Style
import HandS.CallLocal
import HandS.More
import HandS.Exc
import HandS.ExcInit
import HandS.ExcOwn
import HandS.ExcField
import HandS.ExcIs
import HandS.CallSlots
import HandS.TryOnly
import HandS.WordsExc
import HandS.Nested
import HandS.NestedK
import KE.KExcSuper
import KE.KExcIs
import KE.SortKeyHeap
import HandS.ExcValue
import HandS.EndTab
import HandS.Star
import HandS.MethStar
import KE.KSuper
import PySem.Challenge.RW_lasttext_k11_plan_of_a_program
set_option Elab.async false
set_option linter.all false
set_option maxRecDepth 100000
set_option maxHeartbeats 4000000
namespace L2
open PySem PySem.Spec PyProof.Rows
theorem tuple_mul1 (l : Addr) (items : Array Value) (n : Nat) (dd : Option Addr) (sl : Array (Option Value)) (u : Tok) :
    Meets (Builtin.«tuple.__mul__» ⟨[.ref l, .int 1 u], []⟩) (fun _ R s => s.heap.get? l = some { cls := .type "tuple", dict := dd, data := .seq items n, slots := sl } ∧
      R (.ok (.ret (Value.ref l))) s) :=
  .of_wp fun prog w A R s h => by
    obtain ⟨hp, g, d, tk, os⟩ := s
    obtain ⟨hl, h⟩ := h
    have f1 := AutoSeq1.idx_int
    have c0 : (decide ((1 : Int) < -(2 ^ 63)) || decide ((1 : Int) ≥ 2 ^ 63)) = false := by decide
    have c1 : (items.isEmpty || (1 : Int) == 1) = true := by simp
    wp_walk using wpAny_loadPart' hl
    repeat (first
      | (refine wpAny_ite_false (decide_eq_false (by rw [c0]; exact Bool.false_ne_true)) ?_; wp_walk using wpAny_loadPart' hl)
      | (refine wpAny_ite_true (decide_eq_true c1) ?_; wp_walk using wpAny_loadPart' hl))
    exact ⟨_, rfl, h⟩
def rRepT1 (K : PySem.W.Frag) : R2 := fun x y H Q => ∃ l xs, x = .ref l ∧ y = .int 1 ∧ SqT K H l xs ∧ Q (.ref l) H
theorem op_repT1 {X : Cx} : OpR X (binaryOp .Mult) (rRepT1 X.K) := by
  intro pins s σ H x y v u Q I rx ry h
  obtain ⟨l, xs, rfl, rfl, hT, q⟩ := h
  cases rx
  obtain ⟨t, rfl⟩ := ry
  obtain ⟨its, r, ⟨⟨cls, dd, data, sl⟩, ho, hc, n, hd⟩, hs⟩ := I.tuple hT
  simp only at hc hd
  subst hc hd
  exact wpAny_binaryOp_repeat_ref (T := "tuple") (U := "int") (by decide) ⟨_, ho, rfl⟩ (fun s' => typeIs_int s' 1 t) noFill_tuple_mul F.fills_int_mul F.slot_int_rmul repeat_tuple F.slot_int_index.lookup
    (call_meets F.slot_int_rmul (typeIs_int s 1 t) F.entry_int_rmul (F.args_int_rmul_2 _ _) (int_rmul_tuple 1 t l its.toArray n dd sl)
      ⟨ho, rfl, ⟨_, ho, rfl⟩, call_meets F.slot_tuple_mul ⟨_, ho, rfl⟩ F.entry_tuple_mul (F.args_tuple_mul_2 _ _) (tuple_mul1 l its.toArray n dd sl t) ⟨ho, ⟨.ref l, H, I, rfl, q⟩⟩⟩)
end L2
namespace ML
open PySem PySem.Spec PyProof.Rows L2

/-! ## data, the store, what stands for what -/
inductive D where
  | non | bl (b : Bool) | int (i : Int) | str (s : PySem.Str) | tup (ds : List D) | lst (ds : List D) | sq (ds : List D) | ref (n : Nat) | adr (n : PySem.Str) | ty (n : String) | exc (a C dx : Addr) (cn fld : PySem.Str) (v : D)
inductive O where
  | lst (ds : List D)
  /-- an instance: its class's name, its attributes' names and what they hold -/
  | ins (cn : PySem.Str) (ns : List PySem.Str) (ds : List D)
  /-- a dict: its keys and what they lead to -/
  | dct (ks : List Key) (ds : List D)
abbrev Env := List (Option D)
abbrev Sto := List O
abbrev Frag := PySem.W.Frag
mutual
inductive Rep (K : Frag) (θ : List Addr) (G : Hp) : V → D → Prop
  | non : Rep K θ G .non .non
  | bl (b : Bool) : Rep K θ G (.bl b) (.bl b)
  | int (i : Int) : Rep K θ G (.int i) (.int i)
  | str (x : PySem.Str) : Rep K θ G (.str x) (.str x)
  | tup {a : Addr} {vs : List V} {ds : List D} : SqT K G a vs → Reps K θ G vs ds → Rep K θ G (.ref a) (.tup ds)
  | lst {a : Addr} {vs : List V} {ds : List D} : G a = some (.lst vs) → Reps K θ G vs ds → Rep K θ G (.ref a) (.lst ds)
  | sq {a : Addr} {vs : List V} {ds : List D} : SqL K G a vs → Reps K θ G vs ds → Rep K θ G (.ref a) (.sq ds)
  | ref {n : Nat} {a : Addr} : θ[n]? = some a → Rep K θ G (.ref a) (.ref n)
  | adr {a : Addr} {n : PySem.Str} : PySem.W.nsIn K PySem.mainGlobals n = some (some (.ref a)) → Rep K θ G (.ref a) (.adr n)
  | ty (n : String) : Rep K θ G (.ty n) (.ty n)
  | exc {a C dx : Addr} {cn fld : PySem.Str} {v : V} {d : D} : PySem.W.nsIn K PySem.mainGlobals cn = some (some (.ref C)) → G dx = some (.xd [(fld, v)]) → Rep K θ G v d → Rep K θ G (.ref a) (.exc a C dx cn fld d)
inductive Reps (K : Frag) (θ : List Addr) (G : Hp) : List V → List D → Prop
  | nil : Reps K θ G [] []
  | cons {v : V} {vs : List V} {d : D} {ds : List D} : Rep K θ G v d → Reps K θ G vs ds → Reps K θ G (v :: vs) (d :: ds)
end
def Gle (G G' : Hp) : Prop := ∀ a o, G a = some o → G' a = some o
theorem Gle.rd {G G' : Hp} (g : Gle G G') {a : Addr} {u : HO} (h : Rd G a u) : Rd G' a u := by
  rcases h with h | ⟨o, h⟩
  · exact .inl (g _ _ h)
  · exact .inr ⟨o, g _ _ h⟩
theorem Gle.t {K : Frag} {G G' : Hp} (g : Gle G G') {a : Addr} {vs : List V} (h : SqT K G a vs) : SqT K G' a vs := by
  rcases h with h | h
  · exact .inl (g.rd h)
  · exact .inr h
theorem Gle.l {K : Frag} {G G' : Hp} (g : Gle G G') {a : Addr} {vs : List V} (h : SqL K G a vs) : SqL K G' a vs := by
  rcases h with h | h
  · exact .inl (g.rd h)
  · exact .inr h
theorem pre_at {θ θ' : List Addr} (p : ∃ l, θ' = θ ++ l) {n : Nat} {a : Addr} (h : θ[n]? = some a) : θ'[n]? = some a := by
  obtain ⟨l, rfl⟩ := p
  obtain ⟨hn, _⟩ := List.getElem?_eq_some_iff.mp h
  rw [List.getElem?_append_left hn]
  exact h
section
variable {K : Frag} {θ θ' : List Addr} {G G' : Hp}
mutual
theorem Rep.mono (p : ∃ l, θ' = θ ++ l) (g : Gle G G') : ∀ (d : D) (v : V), Rep K θ G v d → Rep K θ' G' v d
  | .non, _, h => by cases h; exact .non
  | .bl b, _, h => by cases h; exact .bl b
  | .int i, _, h => by cases h; exact .int i
  | .str x, _, h => by cases h; exact .str x
  | .tup ds, _, h => by
    cases h with
    | tup h1 h2 => exact .tup (g.t h1) (Reps.mono p g ds _ h2)
  | .lst ds, _, h => by
    cases h with
    | lst h1 h2 => exact .lst (g _ _ h1) (Reps.mono p g ds _ h2)
  | .sq ds, _, h => by
    cases h with
    | sq h1 h2 => exact .sq (g.l h1) (Reps.mono p g ds _ h2)
  | .ref n, _, h => by
    cases h with
    | ref h1 => exact .ref (pre_at p h1)
  | .adr _, _, h => by cases h with | adr e => exact .adr e
  | .ty n, _, h => by cases h; exact .ty n
  | .exc a C dx cn fld d, _, h => by cases h with | exc e h1 h2 => exact .exc e (g _ _ h1) (Rep.mono p g d _ h2)
theorem Reps.mono (p : ∃ l, θ' = θ ++ l) (g : Gle G G') : ∀ (ds : List D) (vs : List V), Reps K θ G vs ds → Reps K θ' G' vs ds
  | [], _, h => by cases h; exact .nil
  | d :: ds, _, h => by
    cases h with
    | cons h1 h2 => exact .cons (Rep.mono p g d _ h1) (Reps.mono p g ds _ h2)
end
theorem Reps.len {vs : List V} {ds : List D} (h : Reps K θ G vs ds) : vs.length = ds.length := by
  induction ds generalizing vs with
  | nil => cases h; rfl
  | cons d ds ih =>
    cases h with
    | cons h1 h2 => simp [ih h2]
theorem Reps.at {vs : List V} {ds : List D} (h : Reps K θ G vs ds) {i : Nat} {d : D} (e : ds[i]? = some d) : ∃ v, vs[i]? = some v ∧ Rep K θ G v d := by
  induction ds generalizing vs i with
  | nil => simp at e
  | cons x ds ih =>
    cases h with
    | cons h1 h2 =>
      cases i with
      | zero =>
        simp at e
        subst e
        exact ⟨_, rfl, h1⟩
      | succ i => simpa using ih h2 (i := i) (by simpa using e)
theorem Reps.at' {vs : List V} {ds : List D} (h : Reps K θ G vs ds) {i : Nat} {v : V} (e : vs[i]? = some v) : ∃ d, ds[i]? = some d ∧ Rep K θ G v d := by
  induction ds generalizing vs i with
  | nil => cases h; simp at e
  | cons x ds ih =>
    cases h with
    | cons h1 h2 =>
      cases i with
      | zero =>
        simp at e
        subst e
        exact ⟨_, rfl, h1⟩
      | succ i => simpa using ih h2 (i := i) (by simpa using e)
theorem Reps.append {vs ws : List V} {ds es : List D} (h : Reps K θ G vs ds) (h' : Reps K θ G ws es) : Reps K θ G (vs ++ ws) (ds ++ es) := by
  induction ds generalizing vs with
  | nil => cases h; exact h'
  | cons x ds ih =>
    cases h with
    | cons h1 h2 => exact .cons h1 (ih h2)
theorem Reps.set {vs : List V} {ds : List D} (h : Reps K θ G vs ds) {v : V} {d : D} (r : Rep K θ G v d) (i : Nat) : Reps K θ G (vs.set i v) (ds.set i d) := by
  induction ds generalizing vs i with
  | nil => cases h; exact .nil
  | cons x ds ih =>
    cases h with
    | cons h1 h2 =>
      cases i with
      | zero => exact .cons r h2
      | succ i => exact .cons h1 (ih h2 i)
theorem Reps.take {vs : List V} {ds : List D} (h : Reps K θ G vs ds) (i : Nat) : Reps K θ G (vs.take i) (ds.take i) := by
  induction ds generalizing vs i with
  | nil => cases h; simp; exact .nil
  | cons x ds ih =>
    cases h with
    | cons h1 h2 =>
      cases i with
      | zero => exact .nil
      | succ i => exact .cons h1 (ih h2 i)
theorem Reps.drop {vs : List V} {ds : List D} (h : Reps K θ G vs ds) (i : Nat) : Reps K θ G (vs.drop i) (ds.drop i) := by
  induction ds generalizing vs i with
  | nil => cases h; simp; exact .nil
  | cons x ds ih =>
    cases h with
    | cons h1 h2 =>
      cases i with
      | zero => exact .cons h1 h2
      | succ i => exact ih h2 i
theorem Reps.ints {vs : List V} {ns : List Int} (h : Reps K θ G vs (ns.map D.int)) : vs = ns.map V.int := by
  induction ns generalizing vs with
  | nil => cases h; rfl
  | cons n ns ih =>
    cases h with
    | cons h1 h2 =>
      cases h1
      rw [ih h2]
      rfl
theorem Reps.of_ints (ns : List Int) : Reps K θ G (ns.map V.int) (ns.map D.int) := by
  induction ns with
  | nil => exact .nil
  | cons n ns ih => exact .cons (.int n) ih
end
/-- an object of the store stands at a -/
def OR (K : Frag) (θ : List Addr) (G H : Hp) (a : Addr) : O → Prop
  | .lst ds => ∃ vs, H a = some (.lst vs) ∧ Reps K θ G vs ds
  | .ins cn ns ds => ∃ C dx vs, PySem.W.nsIn K PySem.mainGlobals cn = some (some (.ref C)) ∧ H a = some (.ins C dx (ns.zip vs)) ∧ vs.length = ns.length ∧ Reps K θ G vs ds
  | .dct ks ds => ∃ vs, H a = some (.dK (ks.zip vs)) ∧ vs.length = ks.length ∧ Reps K θ G vs ds
/-- the tables of code objects that a law's lambdas write: the table and the name of what stands in it -/
class Tbs where
  T : List (Addr × PySem.Str)
def tbA [Tbs] : List Addr := Tbs.T.map (·.1)
structure Sim [Tbs] (K : Frag) (θ : List Addr) (G H : Hp) (st : Sto) : Prop where
  sub : Gle G H
  len : θ.length = st.length
  nd : θ.Nodup
  off : ∀ a, a ∈ θ → G a = none
  obj : ∀ (i : Nat) a o, θ[i]? = some a → st[i]? = some o → OR K θ G H a o
  tb : LamX.Tabs Tbs.T H
  tg : ∀ a, a ∈ tbA → G a = none
structure Ext [Tbs] (θ θ' : List Addr) (G G' H H' : Hp) : Prop where
  pre : ∃ l, θ' = θ ++ l
  im : Gle G G'
  fr : ∀ a o, H a = some o → a ∉ θ → a ∉ tbA → H' a = some o
  nθ : ∀ a, a ∈ θ' → a ∉ θ → H a = none
  nG : ∀ a o, G' a = some o → G a = none → H a = none
/-- what the tables lean on -/
def TbO : HO → Prop
  | .tbl _ => True
  | .ext _ => True
  | _ => False
theorem tab_keep {H H' : Hp} {P : Addr} {q : PySem.Str} (t : LamX.TabS H P q) (e : ∀ b o, H b = some o → TbO o → H' b = some o) : LamX.TabS H' P q := by
  obtain ⟨ps, h1, h2, h3⟩ := t
  refine ⟨ps, e _ _ h1 trivial, h2, fun pos cv hc => ?_⟩
  obtain ⟨c, h4, h5⟩ := h3 pos cv hc
  exact ⟨c, h4, e _ _ h5 trivial⟩
theorem tabs_keep {T : List (Addr × PySem.Str)} {H H' : Hp} (t : LamX.Tabs T H) (e : ∀ b o, H b = some o → TbO o → H' b = some o) : LamX.Tabs T H' := fun p hp => tab_keep (t p hp) e
theorem Sim.isT [Tbs] {K : Frag} {θ : List Addr} {G H : Hp} {st : Sto} (S : Sim K θ G H st) {a : Addr} (h : a ∈ tbA) : ∃ ps, H a = some (.tbl ps) := by
  obtain ⟨p, hp, rfl⟩ := List.mem_map.mp h
  obtain ⟨ps, h1, _⟩ := S.tb p hp
  exact ⟨ps, h1⟩
theorem Sim.notT [Tbs] {K : Frag} {θ : List Addr} {G H : Hp} {st : Sto} (S : Sim K θ G H st) {a : Addr} {vs : List V} (h : H a = some (.lst vs)) : a ∉ tbA := fun z => by
  obtain ⟨ps, h1⟩ := S.isT z
  rw [h] at h1
  cases h1
theorem Sim.noT [Tbs] {K : Frag} {θ : List Addr} {G H : Hp} {st : Sto} (S : Sim K θ G H st) {a : Addr} (h : H a = none) : a ∉ tbA := fun z => by
  obtain ⟨ps, h1⟩ := S.isT z
  rw [h] at h1
  cases h1
def EnvR (K : Frag) (θ : List Addr) (G : Hp) (σ : L2.St) (env : Env) : Prop :=
  σ.length = env.length ∧ ∀ (i : Nat) d, env[i]? = some (some d) → ∃ v, σ[i]? = some (some v) ∧ Rep K θ G v d
section
variable {K : Frag} {θ θ' θ1 θ2 : List Addr} {G G' G1 G2 H H' H1 H2 : Hp} {st st1 st2 : Sto} {σ : L2.St} {env : Env} {v w : V} {d e : D} {a p : Addr}
theorem Ext.refl [Tbs] : Ext θ θ G G H H := ⟨⟨[], by simp⟩, fun _ _ h => h, fun _ _ h _ _ => h, fun _ h n => absurd h n, fun _ _ h n => by rw [h] at n; cases n⟩
theorem OR.there {o : O} (h : OR K θ G H a o) : ∃ u, H a = some u := by
  cases o with
  | lst ds => obtain ⟨vs, h, _⟩ := h; exact ⟨_, h⟩
  | ins cn ns ds => obtain ⟨C, dx, vs, _, h, _⟩ := h; exact ⟨_, h⟩
  | dct ks ds => obtain ⟨vs, h, _⟩ := h; exact ⟨_, h⟩
theorem Sim.at [Tbs] (S : Sim K θ G H st) {i : Nat} (h : θ[i]? = some a) : ∃ o, st[i]? = some o ∧ OR K θ G H a o := by
  obtain ⟨hi, _⟩ := List.getElem?_eq_some_iff.mp h
  have hi' : i < st.length := by rw [← S.len]; exact hi
  exact ⟨st[i], List.getElem?_eq_getElem hi', S.obj i a _ h (List.getElem?_eq_getElem hi')⟩
theorem Sim.there [Tbs] (S : Sim K θ G H st) (h : a ∈ θ) : ∃ u, H a = some u := by
  obtain ⟨i, hi⟩ := List.mem_iff_getElem?.mp h
  obtain ⟨o, _, r⟩ := S.at hi
  exact r.there
theorem Ext.trans [Tbs] (e1 : Ext θ θ1 G G1 H H1) (S : Sim K θ1 G1 H1 st1) (e2 : Ext θ1 θ2 G1 G2 H1 H2) : Ext θ θ2 G G2 H H2 := by
  obtain ⟨l1, p1⟩ := e1.pre
  obtain ⟨l2, p2⟩ := e2.pre
  have back : ∀ a, H1 a = none → H a = none := fun a h => by
    cases q : H a with
    | none => rfl
    | some o =>
      by_cases m : a ∈ θ
      · obtain ⟨u, hu⟩ := S.there (a := a) (by rw [p1]; exact List.mem_append_left _ m)
        rw [hu] at h
        cases h
      · by_cases mt : a ∈ tbA
        · obtain ⟨ps, hps⟩ := S.isT mt
          rw [hps] at h
          cases h
        · rw [e1.fr a o q m mt] at h
          cases h
  refine ⟨⟨l1 ++ l2, by rw [p2, p1, List.append_assoc]⟩, fun a o h => e2.im a o (e1.im a o h), fun a o h n nt => ?_, fun a h n => ?_, fun a o h n => ?_⟩
  · refine e2.fr a o (e1.fr a o h n nt) (fun m => ?_) nt
    have := e1.nθ a m n
    rw [h] at this
    cases this
  · by_cases m : a ∈ θ1
    · exact e1.nθ a m n
    · exact back a (e2.nθ a h m)
  · cases q : G1 a with
    | some u => exact e1.nG a u q n
    | none => exact back a (e2.nG a o h q)
theorem Rep.ext [Tbs] (r : Rep K θ G v d) (x : Ext θ θ' G G' H H') : Rep K θ' G' v d := r.mono x.pre x.im _ _
theorem Reps.ext [Tbs] {vs : List V} {ds : List D} (r : Reps K θ G vs ds) (x : Ext θ θ' G G' H H') : Reps K θ' G' vs ds := r.mono x.pre x.im _ _
theorem EnvR.ext [Tbs] (r : EnvR K θ G σ env) (x : Ext θ θ' G G' H H') : EnvR K θ' G' σ env := ⟨r.1, fun i d h => by
  obtain ⟨v, h1, h2⟩ := r.2 i d h
  exact ⟨v, h1, h2.ext x⟩⟩
theorem EnvR.set (r : EnvR K θ G σ env) (h : Rep K θ G v d) (i : Nat) : EnvR K θ G (σ.set i (some v)) (env.set i (some d)) := by
  refine ⟨by simp [r.1], fun j e he => ?_⟩
  by_cases hj : i = j
  · subst hj
    obtain ⟨hl, _⟩ := List.getElem?_eq_some_iff.mp he
    rw [List.length_set] at hl
    rw [List.getElem?_set_self hl] at he
    cases he
    exact ⟨v, List.getElem?_set_self (by rw [r.1]; exact hl), h⟩
  · rw [List.getElem?_set_ne hj] at he
    obtain ⟨w, h1, h2⟩ := r.2 j e he
    exact ⟨w, by rw [List.getElem?_set_ne hj]; exact h1, h2⟩
theorem OR.mono {o : O} (h : OR K θ G H a o) (p : ∃ l, θ' = θ ++ l) (g : Gle G G') (e : H' a = H a) : OR K θ' G' H' a o := by
  cases o with
  | lst ds => obtain ⟨vs, h, r⟩ := h; exact ⟨vs, by rw [e]; exact h, r.mono p g _ _⟩
  | ins cn ns ds => obtain ⟨C, dx, vs, hc, h, hl, r⟩ := h; exact ⟨C, dx, vs, hc, by rw [e]; exact h, hl, r.mono p g _ _⟩
  | dct ks ds => obtain ⟨vs, h, hl, r⟩ := h; exact ⟨vs, by rw [e]; exact h, hl, r.mono p g _ _⟩
theorem Sim.ne [Tbs] (S : Sim K θ G H st) (h : H p = none) (m : a ∈ θ) : a ≠ p := fun z => by
  obtain ⟨u, hu⟩ := S.there m
  rw [z, h] at hu
  cases hu
theorem Sim.gnone [Tbs] (S : Sim K θ G H st) (h : H p = none) : G p = none := by
  cases q : G p with
  | none => rfl
  | some o => rw [S.sub p o q] at h; cases h
/-- a new object that never changes -/
theorem Sim.newG [Tbs] (S : Sim K θ G H st) (h : H p = none) (o : HO) : Sim K θ (upd G p o) (upd H p o) st where
  sub := fun a u e => by
    by_cases z : a = p
    · subst z; rw [upd_same] at e ⊢; exact e
    · rw [upd_ne z] at e ⊢; exact S.sub a u e
  len := S.len
  nd := S.nd
  off := fun a m => by rw [upd_ne (S.ne h m)]; exact S.off a m
  obj := fun i a u e1 e2 => (S.obj i a u e1 e2).mono ⟨[], by simp⟩ (fun b x e => by
    have z : b ≠ p := fun z => by rw [z, S.gnone h] at e; cases e
    rw [upd_ne z]; exact e) (upd_ne (S.ne h (List.mem_of_getElem? e1)))
  tb := tabs_keep S.tb fun b u e _ => by
    have z : b ≠ p := fun z => by rw [z, h] at e; cases e
    rw [upd_ne z]; exact e
  tg := fun a m => by
    have z : a ≠ p := fun z => S.noT h (z ▸ m)
    rw [upd_ne z]; exact S.tg a m
theorem Ext.newG [Tbs] (S : Sim K θ G H st) (h : H p = none) (o : HO) : Ext θ θ G (upd G p o) H (upd H p o) where
  pre := ⟨[], by simp⟩
  im := fun b x e => by
    have z : b ≠ p := fun z => by rw [z, S.gnone h] at e; cases e
    rw [upd_ne z]; exact e
  fr := fun a u e _ _ => by
    have z : a ≠ p := fun z => by rw [z, h] at e; cases e
    rw [upd_ne z]; exact e
  nθ := fun a m n => absurd m n
  nG := fun a u e n => by
    by_cases z : a = p
    · rw [z]; exact h
    · rw [upd_ne z, n] at e; cases e
/-- a new list that may change -/
theorem Sim.newM [Tbs] (S : Sim K θ G H st) (h : H p = none) {vs : List V} {ds : List D} (r : Reps K θ G vs ds) : Sim K (θ ++ [p]) G (upd H p (.lst vs)) (st ++ [.lst ds]) where
  sub := fun a u e => by
    have z : a ≠ p := fun z => by rw [z, S.gnone h] at e; cases e
    rw [upd_ne z]; exact S.sub a u e
  len := by simp [S.len]
  nd := by
    rw [List.nodup_append]
    refine ⟨S.nd, by simp, fun a ha b hb => ?_⟩
    rw [List.mem_singleton] at hb
    subst hb
    exact S.ne h ha
  off := fun a m => by
    rcases List.mem_append.mp m with m | m
    · exact S.off a m
    · rw [List.mem_singleton] at m
      subst m
      exact S.gnone h
  obj := fun i a o e1 e2 => by
    by_cases hi : i < θ.length
    · rw [List.getElem?_append_left hi] at e1
      rw [List.getElem?_append_left (by rw [← S.len]; exact hi)] at e2
      exact (S.obj i a o e1 e2).mono ⟨_, rfl⟩ (fun _ _ e => e) (upd_ne (S.ne h (List.mem_of_getElem? e1)))
    · have hi2 : i = θ.length := by
        obtain ⟨hl, _⟩ := List.getElem?_eq_some_iff.mp e1
        simp at hl
        omega
      subst hi2
      rw [List.getElem?_append_right (Nat.le_refl _)] at e1
      rw [List.getElem?_append_right (by rw [S.len]; exact Nat.le_refl _), S.len] at e2
      simp at e1 e2
      subst e1
      subst e2
      exact ⟨vs, upd_same, r.mono ⟨_, rfl⟩ (fun _ _ e => e) _ _⟩
  tb := tabs_keep S.tb fun b u e _ => by
    have z : b ≠ p := fun z => by rw [z, h] at e; cases e
    rw [upd_ne z]; exact e
  tg := S.tg
theorem Ext.newM [Tbs] (S : Sim K θ G H st) (h : H p = none) (o : HO) : Ext θ (θ ++ [p]) G G H (upd H p o) where
  pre := ⟨[p], rfl⟩
  im := fun _ _ e => e
  fr := fun a u e _ _ => by
    have z : a ≠ p := fun z => by rw [z, h] at e; cases e
    rw [upd_ne z]; exact e
  nθ := fun a m n => by
    rcases List.mem_append.mp m with m | m
    · exact absurd m n
    · rw [List.mem_singleton] at m
      rw [m]
      exact h
  nG := fun a u e n => by rw [n] at e; cases e
/-- a list of the store changes -/
theorem Sim.set [Tbs] (S : Sim K θ G H st) {n : Nat} (ha : θ[n]? = some a) {vs : List V} {ds : List D} (r : Reps K θ G vs ds) : Sim K θ G (upd H a (.lst vs)) (st.set n (.lst ds)) where
  sub := fun b u e => by
    have z : b ≠ a := fun z => by
      have := S.off a (List.mem_of_getElem? ha)
      rw [z, this] at e
      cases e
    rw [upd_ne z]; exact S.sub b u e
  len := by simp [S.len]
  nd := S.nd
  off := S.off
  obj := fun i b o e1 e2 => by
    by_cases hi : n = i
    · subst hi
      rw [ha] at e1
      cases e1
      obtain ⟨hl, _⟩ := List.getElem?_eq_some_iff.mp e2
      rw [List.length_set] at hl
      rw [List.getElem?_set_self hl] at e2
      cases e2
      exact ⟨vs, upd_same, r⟩
    · rw [List.getElem?_set_ne hi] at e2
      have z : b ≠ a := fun z => by
        subst z
        obtain ⟨l1, q1⟩ := List.getElem?_eq_some_iff.mp ha
        obtain ⟨l2, q2⟩ := List.getElem?_eq_some_iff.mp e1
        exact hi ((List.getElem_inj S.nd).mp (q1.trans q2.symm))
      exact (S.obj i b o e1 e2).mono ⟨[], by simp⟩ (fun _ _ e => e) (upd_ne z)
  tb := tabs_keep S.tb fun b u e hu => by
    have z : b ≠ a := fun z => by
      obtain ⟨o, _, r⟩ := S.at ha
      cases o with
      | lst ds =>
        obtain ⟨ws, h1, _⟩ := r
        rw [z, h1] at e
        cases e
        exact hu
      | ins cn ns ds =>
        obtain ⟨C, dx, ws, _, h1, _⟩ := r
        rw [z, h1] at e
        cases e
        exact hu
      | dct ks ds =>
        obtain ⟨ws, h1, _⟩ := r
        rw [z, h1] at e
        cases e
        exact hu
    rw [upd_ne z]; exact e
  tg := S.tg
theorem Ext.set [Tbs] (S : Sim K θ G H st) {n : Nat} (ha : θ[n]? = some a) (o : HO) : Ext θ θ G G H (upd H a o) where
  pre := ⟨[], by simp⟩
  im := fun _ _ e => e
  fr := fun b u e m _ => by
    have z : b ≠ a := fun z => m (by rw [z]; exact List.mem_of_getElem? ha)
    rw [upd_ne z]; exact e
  nθ := fun a m n => absurd m n
  nG := fun a u e n => by rw [n] at e; cases e
end

/-! ## readings by functions -/
def PostE [Tbs] (K : Frag) (θ : List Addr) (G H : Hp) (st' : Sto) (d : D) (Q : VK) : Prop :=
  ∀ θ' G' H' v, Ext θ θ' G G' H H' → Sim K θ' G' H' st' → Rep K θ' G' v d → Q v H'
abbrev FE := Env → Sto → Option (D × Sto)
abbrev FA := Env → Sto → Option (List D × Sto)
abbrev FT := Env → Sto → Option (Bool × Sto)
def tE [Tbs] (K : Frag) (f : FE) : TE := fun σ H Q => ∃ θ G env st d st', Sim K θ G H st ∧ EnvR K θ G σ env ∧ f env st = some (d, st') ∧ PostE K θ G H st' d Q
def tA [Tbs] (K : Frag) (f : FA) : TA := fun σ H Q => ∃ θ G env st ds st', Sim K θ G H st ∧ EnvR K θ G σ env ∧ f env st = some (ds, st') ∧
  ∀ θ' G' H' vs, Ext θ θ' G G' H H' → Sim K θ' G' H' st' → Reps K θ' G' vs ds → Q vs H'
def tT [Tbs] (K : Frag) (f : FT) : TT := fun σ H Q => ∃ θ G env st b st', Sim K θ G H st ∧ EnvR K θ G σ env ∧ f env st = some (b, st') ∧
  ∀ θ' G' H', Ext θ θ' G G' H H' → Sim K θ' G' H' st' → Q b H'
section
variable {X : Cx}
theorem peImp {e : Expr} {t t' : TE} (h : PE X e t) (i : ∀ σ H Q, t' σ H Q → t σ H Q) : PE X e t' := ⟨fun pins s σ H Q I q => h.run pins s σ H Q I (i _ _ _ q)⟩
theorem ptImp {e : Expr} {t t' : TT} (h : PT X e t) (i : ∀ σ H Q, t' σ H Q → t σ H Q) : PT X e t' := ⟨fun pins s σ H Q I q => h.run pins s σ H Q I (i _ _ _ q)⟩
theorem pwImp {e : Expr} {t t' : TT} (h : PW X e t) (i : ∀ σ H Q, t' σ H Q → t σ H Q) : PW X e t' := ⟨fun wh pins s σ H Q I q => h.run wh pins s σ H Q I (i _ _ _ q)⟩
theorem paImp {e : List Expr} {t t' : TA} (h : PA X e t) (i : ∀ σ H Q, t' σ H Q → t σ H Q) : PA X e t' := ⟨fun pos pins s σ H Q I q => h.run pos pins s σ H Q I (i _ _ _ q)⟩
theorem psImp {e : Stmt} {t t' : TS} (h : PS X e t) (i : ∀ D σ H, t' D σ H → t D σ H) : PS X e t' := ⟨fun pins s σ H D I q => h.run pins s σ H D I (i _ _ _ q)⟩
theorem pssImp {e : List Stmt} {t t' : TS} (h : PSs X e t) (i : ∀ D σ H, t' D σ H → t D σ H) : PSs X e t' := ⟨fun pins s σ H D I q => h.run pins s σ H D I (i _ _ _ q)⟩
end
section
variable {K : Frag} {θ : List Addr} {G H : Hp} {st st1 : Sto} {σ : L2.St} {env : Env} {x : D} {f : FE} {Q : VK}
theorem tE.go [Tbs] (S : Sim K θ G H st) (EN : EnvR K θ G σ env) (hf : f env st = some (x, st1))
    (k : ∀ θ1 G1 H1 v1, Ext θ θ1 G G1 H H1 → Sim K θ1 G1 H1 st1 → EnvR K θ1 G1 σ env → Rep K θ1 G1 v1 x → Q v1 H1) : tE K f σ H Q :=
  ⟨θ, G, env, st, x, st1, S, EN, hf, fun θ' G' H' v e s r => k θ' G' H' v e s (EN.ext e) r⟩
theorem tA.go [Tbs] {xs : List D} {f : FA} {Q : List V → Hp → Prop} (S : Sim K θ G H st) (EN : EnvR K θ G σ env) (hf : f env st = some (xs, st1))
    (k : ∀ θ1 G1 H1 v1, Ext θ θ1 G G1 H H1 → Sim K θ1 G1 H1 st1 → EnvR K θ1 G1 σ env → Reps K θ1 G1 v1 xs → Q v1 H1) : tA K f σ H Q :=
  ⟨θ, G, env, st, xs, st1, S, EN, hf, fun θ' G' H' v e s r => k θ' G' H' v e s (EN.ext e) r⟩
theorem tT.go [Tbs] {b : Bool} {f : FT} {Q : Bool → Hp → Prop} (S : Sim K θ G H st) (EN : EnvR K θ G σ env) (hf : f env st = some (b, st1))
    (k : ∀ θ1 G1 H1, Ext θ θ1 G G1 H H1 → Sim K θ1 G1 H1 st1 → EnvR K θ1 G1 σ env → Q b H1) : tT K f σ H Q :=
  ⟨θ, G, env, st, b, st1, S, EN, hf, fun θ' G' H' e s => k θ' G' H' e s (EN.ext e)⟩
end

/-! ### names, constants -/
def Ev (i : Nat) : FE := fun env st => match env[i]? with | some (some d) => some (d, st) | _ => none
def Ec (d : D) : FE := fun _ st => some (d, st)
section
variable {X : Cx} {pos : Pos}
theorem c_v [Tbs] (i : Nat) {x : PySem.Str} {pos : Pos} (hN : X.N[i]? = some x := by rfl) (hv : Vis X.env.scope x := by first | exact Or.inl rfl | exact Or.inr (Or.inl rfl) | exact Or.inr (Or.inr rfl)) (hd : (x == ("__debug__" : PySem.Str)) = false := by decide)
    (hcd : (x == ("__classdict__" : PySem.Str)) = false := by decide) : PE X (.Name x pos) (tE X.K (Ev i)) := by
  refine peImp (pe_var hN hv hd hcd) fun σ H Q ⟨θ, G, env, st, d, st', S, EN, hf, post⟩ => ?_
  unfold Ev at hf
  split at hf
  · rename_i d' he
    cases hf
    obtain ⟨v, h1, h2⟩ := EN.2 i _ he
    exact ⟨v, h1, post θ G H v .refl S h2⟩
  · cases hf
theorem c_const [Tbs] {e : Expr} {v : V} {d : D} (h : PE X e (tC v)) (r : ∀ θ G, Rep X.K θ G v d) : PE X e (tE X.K (Ec d)) := by
  refine peImp h fun σ H Q ⟨θ, G, env, st, d, st', S, EN, hf, post⟩ => ?_
  cases hf
  exact post θ G H v .refl S (r θ G)
theorem c_int [Tbs] {i j pos} : PE X (.Constant (.int i) j pos) (tE X.K (Ec (.int i))) := c_const pe_int fun _ _ => .int i
theorem c_bl [Tbs] {b j pos} : PE X (.Constant (.bool b) j pos) (tE X.K (Ec (.bl b))) := c_const pe_bl fun _ _ => .bl b
theorem c_non [Tbs] {j pos} : PE X (.Constant .none j pos) (tE X.K (Ec .non)) := c_const pe_non fun _ _ => .non
theorem c_str [Tbs] {x j pos} : PE X (.Constant (.str x) j pos) (tE X.K (Ec (.str x))) := c_const pe_str fun _ _ => .str x
theorem c_gint [Tbs] {x : PySem.Str} {i : Int} {t : Tok} (hg : Gl X x) (hm : X.mg x = some (.int i t)) (hd : (x == ("__debug__" : PySem.Str)) = false := by decide) : PE X (.Name x pos) (tE X.K (Ec (.int i))) :=
  c_const (pe_glob hg hm (v := .int i) ⟨t, rfl⟩ hd) fun _ _ => .int i
theorem c_gstr [Tbs] {x : PySem.Str} {i : PySem.Str} {t : Tok} (hg : Gl X x) (hm : X.mg x = some (.str i t)) (hd : (x == ("__debug__" : PySem.Str)) = false := by decide) : PE X (.Name x pos) (tE X.K (Ec (.str i))) :=
  c_const (pe_glob hg hm (v := .str i) ⟨t, rfl⟩ hd) fun _ _ => .str i
end

/-! ### operators by values -/
abbrev F2 := D → D → Sto → Option (D × Sto)
def E2 (f : F2) (fa fb : FE) : FE := fun env st => (fa env st).bind fun p => (fb env p.2).bind fun q => f p.1 q.1 q.2
def Op2 [Tbs] (K : Frag) (r : R2) (f : F2) : Prop := ∀ θ G H st x y d e z st' Q, Sim K θ G H st → Rep K θ G x d → Rep K θ G y e → f d e st = some (z, st') → PostE K θ G H st' z Q → r x y H Q
theorem bind2 {α β γ : Type} {o : Option α} {f : α → Option β} {z : β} (h : o.bind f = some z) : ∃ a, o = some a ∧ f a = some z := by
  cases o with
  | none => cases h
  | some a => exact ⟨a, rfl, h⟩
section
variable {X : Cx} {a b : Expr} {fa fb : FE} {pos : Pos} {f : F2} {r : R2}
theorem go2 [Tbs] (hf : Op2 X.K r f) {σ : L2.St} {H : Hp} {Q : VK} (h : tE X.K (E2 f fa fb) σ H Q) : tOp r (tE X.K fa) (tE X.K fb) σ H Q := by
  obtain ⟨θ, G, env, st, d, st', S, EN, he, post⟩ := h
  obtain ⟨⟨x, st1⟩, h1, he⟩ := Option.bind_eq_some_iff.mp he
  obtain ⟨⟨y, st2⟩, h2, he⟩ := Option.bind_eq_some_iff.mp he
  refine tE.go S EN h1 fun θ1 G1 H1 v1 e1 S1 EN1 r1 => tE.go S1 EN1 h2 fun θ2 G2 H2 v2 e2 S2 EN2 r2 => ?_
  exact hf _ _ _ _ _ _ _ _ _ _ _ S2 (r1.ext e2) r2 he fun θ3 G3 H3 v e3 S3 r3 => post _ _ _ _ ((e1.trans S1 e2).trans S2 e3) S3 r3
theorem c_op [Tbs] {op : Operator} (ho : OpR X (binaryOp op) r) (hf : Op2 X.K r f) (ha : PE X a (tE X.K fa)) (hb : PE X b (tE X.K fb)) : PE X (.BinOp a op b pos) (tE X.K (E2 f fa fb)) :=
  peImp (pe_op ho ha hb) fun _ _ _ h => go2 hf h
theorem c_cmp [Tbs] {op : CmpOp} (ho : OpR X (compareOp op) r) (hf : Op2 X.K r f) (ha : PE X a (tE X.K fa)) (hb : PE X b (tE X.K fb)) (hm : behindInMarks op b = false) : PE X (.Compare a [op] [b] pos) (tE X.K (E2 f fa fb)) :=
  peImp (pe_cmpR ho ha hb hm) fun _ _ _ h => go2 hf h
/-- a test of a bool -/
def Tb (f : FE) : FT := fun env st => match f env st with | some (.bl b, st') => some (b, st') | _ => none
theorem goT [Tbs] {t : TE} (h : ∀ σ H Q, tE X.K (E2 f fa fb) σ H Q → t σ H Q) {σ : L2.St} {H : Hp} {Q : Bool → Hp → Prop} (q : tT X.K (Tb (E2 f fa fb)) σ H Q) : tTest t σ H Q := by
  obtain ⟨θ, G, env, st, d, st', S, EN, he, post⟩ := q
  unfold Tb at he
  split at he
  · rename_i b st2 he2
    cases he
    refine h _ _ _ (tE.go S EN he2 fun θ1 G1 H1 v1 e1 S1 EN1 r1 => ?_)
    cases r1
    exact ⟨_, rfl, post _ _ _ e1 S1⟩
  · cases he
theorem t_cmp [Tbs] {op : CmpOp} (ho : OpR X (compareOp op) r) (hf : Op2 X.K r f) (ha : PE X a (tE X.K fa)) (hb : PE X b (tE X.K fb)) (hm : behindInMarks op b = false) : PT X (.Compare a [op] [b] pos) (tT X.K (Tb (E2 f fa fb))) :=
  ptImp (pt_cmpR ho ha hb hm) fun _ _ _ h => goT (fun _ _ _ h => go2 hf h) h
end

section
variable {K : Frag} {θ : List Addr} {G H : Hp} {st : Sto} {v : V} {d : D} {Q : VK} {vs : List V} {ds : List D} {q : Addr}
theorem PostE.same [Tbs] (p : PostE K θ G H st d Q) (S : Sim K θ G H st) (r : Rep K θ G v d) : Q v H := p θ G H v .refl S r
theorem PostE.newT [Tbs] (p : PostE K θ G H st (.tup ds) Q) (S : Sim K θ G H st) (h : H q = none) (r : Reps K θ G vs ds) : Q (.ref q) (upd H q (.tup vs)) :=
  p _ _ _ _ (Ext.newG S h _) (S.newG h _) (.tup (.inl (.inl upd_same)) (r.ext (Ext.newG S h _)))
theorem PostE.newL [Tbs] (p : PostE K θ G H st (.lst ds) Q) (S : Sim K θ G H st) (h : H q = none) (r : Reps K θ G vs ds) : Q (.ref q) (upd H q (.lst vs)) :=
  p _ _ _ _ (Ext.newG S h _) (S.newG h _) (.lst upd_same (r.ext (Ext.newG S h _)))
theorem PostE.newM [Tbs] (p : PostE K θ G H (st ++ [.lst ds]) (.ref st.length) Q) (S : Sim K θ G H st) (h : H q = none) (r : Reps K θ G vs ds) : Q (.ref q) (upd H q (.lst vs)) :=
  p _ _ _ _ (Ext.newM S h _) (S.newM h r) (.ref (by rw [← S.len, List.getElem?_append_right (Nat.le_refl _), Nat.sub_self]; rfl))
theorem Sim.t [Tbs] (S : Sim K θ G H st) {a : Addr} (h : SqT K G a vs) : SqT K H a vs := S.sub.t h
theorem Sim.l [Tbs] (S : Sim K θ G H st) {a : Addr} (h : SqL K G a vs) : SqL K H a vs := S.sub.l h
end
/-- the items of a list: frozen, or of the store -/
def lsD (st : Sto) : D → Option (List D)
  | .lst ds => some ds
  | .ref n => match st[n]? with | some (.lst ds) => some ds | _ => none
  | _ => none
/-- .. or one that is read only -/
def sqD (st : Sto) : D → Option (List D)
  | .sq ds => some ds
  | .lst ds => some ds
  | .ref n => match st[n]? with | some (.lst ds) => some ds | _ => none
  | _ => none
section
variable {K : Frag} {θ : List Addr} {G H : Hp} {st : Sto} {v : V} {d : D} {ds : List D}
theorem lsD.ok [Tbs] (S : Sim K θ G H st) (r : Rep K θ G v d) (h : lsD st d = some ds) : ∃ a vs, v = .ref a ∧ H a = some (.lst vs) ∧ Reps K θ G vs ds := by
  cases d with
  | lst es =>
    cases h
    cases r with
    | lst h1 h2 => exact ⟨_, _, rfl, S.sub _ _ h1, h2⟩
  | ref n =>
    cases r with
    | ref h1 =>
      obtain ⟨o, h2, h3⟩ := S.at h1
      simp only [lsD, h2] at h
      cases o with
      | lst es =>
        cases h
        obtain ⟨vs, h4, h5⟩ := h3
        exact ⟨_, vs, rfl, h4, h5⟩
      | ins cn ns ds => cases h
      | dct ks ds => cases h
  | _ => cases h
theorem sqD.ok [Tbs] (S : Sim K θ G H st) (r : Rep K θ G v d) (h : sqD st d = some ds) : ∃ a vs, v = .ref a ∧ SqL K H a vs ∧ Reps K θ G vs ds := by
  cases d with
  | sq es =>
    cases h
    cases r with
    | sq h1 h2 => exact ⟨_, _, rfl, S.l h1, h2⟩
  | lst es =>
    obtain ⟨a, vs, h1, h2, h3⟩ := lsD.ok S r (show lsD st (.lst es) = some ds from h)
    exact ⟨a, vs, h1, SqL.of h2, h3⟩
  | ref n =>
    obtain ⟨a, vs, h1, h2, h3⟩ := lsD.ok S r (show lsD st (.ref n) = some ds from h)
    exact ⟨a, vs, h1, SqL.of h2, h3⟩
  | _ => cases h
end

/-! ### the operators -/
theorem szl {n : Nat} (h : n ≤ 16777216) : n ≤ sizeLine := by rw [sizeLine_eq]; exact h
theorem szlt {n : Nat} (h : n < 16777216) : n < sizeLine := by rw [sizeLine_eq]; exact h
def addD : F2 := fun x y st => match x, y with
  | .int i, .int j => some (.int (i + j), st)
  | .str s, .str t => if s.length + t.length ≤ 16777216 then some (.str (s ++ t), st) else none
  | .tup a, .tup b => if a.length + b.length ≤ 16777216 then some (.tup (a ++ b), st) else none
  | x, y => match lsD st x, lsD st y with
    | some a, some b => if a.length + b.length ≤ 16777216 then some (.lst (a ++ b), st) else none
    | _, _ => none
def rAddA (K : Frag) : R2 := fun x y H Q => (∃ i j, x = .int i ∧ y = .int j ∧ Q (.int (i + j)) H) ∨ (∃ i j, x = .str i ∧ y = .str j ∧ i.length + j.length ≤ sizeLine ∧ Q (.str (i ++ j)) H) ∨ rCatA K x y H Q ∨ rCat x y H Q
theorem o_add {X : Cx} : OpR X (binaryOp .Add) (rAddA X.K) := op_add.or (op_add_str.or (op_catA.or op_cat))
theorem s_add [Tbs] {K : Frag} : Op2 K (rAddA K) addD := by
  intro θ G H st x y d e z st' Q S rx ry h post
  unfold addD at h
  split at h
  · cases h; cases rx; cases ry
    exact .inl ⟨_, _, rfl, rfl, post.same S (.int _)⟩
  · split at h
    · rename_i hl
      cases h; cases rx; cases ry
      exact .inr (.inl ⟨_, _, rfl, rfl, szl hl, post.same S (.str _)⟩)
    · cases h
  · split at h
    · rename_i a b hl
      cases h
      cases rx with
      | tup h1 h2 =>
        cases ry with
        | tup h3 h4 =>
          refine .inr (.inr (.inl ⟨_, _, _, _, rfl, rfl, S.t h1, S.t h3, by rw [h2.len, h4.len]; exact szl hl, fun e => ?_, fun _ e => ?_, fun _ _ p hp => ?_⟩))
          · subst e
            cases a with
            | nil => exact post.same S (by rw [List.nil_append]; exact .tup h3 h4)
            | cons _ _ => cases h2
          · subst e
            cases b with
            | nil => exact post.same S (by rw [List.append_nil]; exact .tup h1 h2)
            | cons _ _ => cases h4
          · exact post.newT S hp (h2.append h4)
    · cases h
  · split at h
    · rename_i a b ha hb
      split at h
      · rename_i hl
        cases h
        obtain ⟨p, vs, rfl, h1, h2⟩ := lsD.ok S rx ha
        obtain ⟨q, ws, rfl, h3, h4⟩ := lsD.ok S ry hb
        exact .inr (.inr (.inr ⟨_, _, _, _, rfl, rfl, h1, h3, by rw [h2.len, h4.len]; exact szl hl, fun p hp => post.newL S hp (h2.append h4)⟩))
      · cases h
    · cases h
def subD : F2 := fun x y st => match x, y with
  | .int i, .int j => some (.int (i - j), st)
  | _, _ => none
theorem s_int [Tbs] {K : Frag} {f : F2} {C : Int → Int → Prop} {g : Int → Int → V} {gd : Int → Int → D} (hf : ∀ x y st r, f x y st = some r → ∃ i j, x = .int i ∧ y = .int j ∧ C i j ∧ r = (gd i j, st)) (hr : ∀ i j θ G, Rep K θ G (g i j) (gd i j)) : Op2 K (rI C g) f := by
  intro θ G H st x y d e z st' Q S rx ry h post
  obtain ⟨i, j, rfl, rfl, hc, he⟩ := hf _ _ _ _ h
  cases he; cases rx; cases ry
  exact ⟨i, j, rfl, rfl, hc, post.same S (hr i j θ G)⟩
theorem s_int0 [Tbs] {K : Frag} {f : F2} {g : Int → Int → V} {gd : Int → Int → D} (hf : ∀ x y st r, f x y st = some r → ∃ i j, x = .int i ∧ y = .int j ∧ r = (gd i j, st)) (hr : ∀ i j θ G, Rep K θ G (g i j) (gd i j)) : Op2 K (rI0 g) f := by
  intro θ G H st x y d e z st' Q S rx ry h post
  obtain ⟨i, j, rfl, rfl, he⟩ := hf _ _ _ _ h
  cases he; cases rx; cases ry
  exact ⟨i, j, rfl, rfl, post.same S (hr i j θ G)⟩
theorem s_sub [Tbs] {K : Frag} : Op2 K (rI0 fun i j => .int (i - j)) subD := s_int0 (gd := fun i j => .int (i - j)) (fun x y st r h => by
  unfold subD at h
  split at h
  · cases h; exact ⟨_, _, rfl, rfl, rfl⟩
  · cases h) fun _ _ _ _ => .int _
def mulOk (i j : Int) : Prop := (-(2 ^ 64) < i ∧ i < 2 ^ 64) ∨ (-(2 ^ 64) < j ∧ j < 2 ^ 64)
instance (i j : Int) : Decidable (mulOk i j) := by unfold mulOk; infer_instance
def mulI : F2 := fun x y st => match x, y with
  | .int i, .int j => if mulOk i j then some (.int (i * j), st) else none
  | _, _ => none
theorem s_mulI [Tbs] {K : Frag} : Op2 K (rI CMul fun i j => .int (i * j)) mulI := s_int (gd := fun i j => .int (i * j)) (fun x y st r h => by
  unfold mulI at h
  split at h
  · split at h
    · rename_i hm
      cases h; exact ⟨_, _, rfl, rfl, hm, rfl⟩
    · cases h
  · cases h) fun _ _ _ _ => .int _
def fdivD : F2 := fun x y st => match x, y with
  | .int i, .int j => if 0 < j ∧ j < 2 ^ 64 then some (.int (i / j), st) else none
  | _, _ => none
theorem s_fdiv [Tbs] {K : Frag} : Op2 K (rI CDivW fun i j => .int (i / j)) fdivD := s_int (gd := fun i j => .int (i / j)) (fun x y st r h => by
  unfold fdivD at h
  split at h
  · split at h
    · rename_i hm
      cases h; exact ⟨_, _, rfl, rfl, wide_div (b := 64) hm.1 (by omega) (by decide) (by decide), rfl⟩
    · cases h
  · cases h) fun _ _ _ _ => .int _
def modD : F2 := fun x y st => match x, y with
  | .int i, .int j => if 0 < j then some (.int (i % j), st) else none
  | _, _ => none
theorem s_mod [Tbs] {K : Frag} : Op2 K (rI (fun _ j => 0 < j) fun i j => .int (i % j)) modD := s_int (gd := fun i j => .int (i % j)) (fun x y st r h => by
  unfold modD at h
  split at h
  · split at h
    · rename_i hm
      cases h; exact ⟨_, _, rfl, rfl, hm, rfl⟩
    · cases h
  · cases h) fun _ _ _ _ => .int _
def powD : F2 := fun x y st => match x, y with
  | .int i, .int j => if 0 ≤ j ∧ j ≤ 1000000 ∧ i.natAbs < 2 ^ 64 then some (.int (i ^ j.toNat), st) else none
  | _, _ => none
theorem s_pow [Tbs] {K : Frag} : Op2 K (rI CPow fun i j => .int (i ^ j.toNat)) powD := s_int (gd := fun i j => .int (i ^ j.toNat)) (fun x y st r h => by
  unfold powD at h
  split at h
  · split at h
    · rename_i hm
      cases h; exact ⟨_, _, rfl, rfl, hm, rfl⟩
    · cases h
  · cases h) fun _ _ _ _ => .int _
def shlD : F2 := fun x y st => match x, y with
  | .int i, .int j => if 0 ≤ j ∧ j ≤ 1000000 ∧ i.natAbs < 2 ^ 64 then some (.int (i * 2 ^ j.toNat), st) else none
  | _, _ => none
theorem s_shl [Tbs] {K : Frag} : Op2 K (rI CPow fun i j => .int (i * 2 ^ j.toNat)) shlD := s_int (gd := fun i j => .int (i * 2 ^ j.toNat)) (fun x y st r h => by
  unfold shlD at h
  split at h
  · split at h
    · rename_i hm
      cases h; exact ⟨_, _, rfl, rfl, hm, rfl⟩
    · cases h
  · cases h) fun _ _ _ _ => .int _
def cmpD (p : Int → Int → Bool) : F2 := fun x y st => match x, y with
  | .int i, .int j => some (.bl (p i j), st)
  | _, _ => none
theorem s_cmp [Tbs] {K : Frag} {p : Int → Int → Bool} : Op2 K (rI0 fun i j => .bl (p i j)) (cmpD p) := s_int0 (gd := fun i j => .bl (p i j)) (fun x y st r h => by
  unfold cmpD at h
  split at h
  · cases h; exact ⟨_, _, rfl, rfl, rfl⟩
  · cases h) fun _ _ _ _ => .bl _
abbrev ltD : F2 := cmpD fun i j => decide (i < j)
abbrev leD : F2 := cmpD fun i j => decide (i ≤ j)
abbrev gtD : F2 := cmpD fun i j => decide (j < i)
abbrev geD : F2 := cmpD fun i j => decide (j ≤ i)
def isNon : D → Bool
  | .non => true
  | _ => false
theorem isNon_v {K : Frag} {θ : List Addr} {G : Hp} {v : V} {d : D} (r : Rep K θ G v d) : decide (v = .non) = isNon d := by
  cases r <;> simp [isNon]
def isnD (neg : Bool) : F2 := fun x y st => match y with
  | .non => some (.bl (if neg then !isNon x else isNon x), st)
  | _ => none
theorem s_isN [Tbs] {K : Frag} : Op2 K (fun x y H Q => y = .non ∧ Q (.bl (decide (x = .non))) H) (isnD false) := by
  intro θ G H st x y d e z st' Q S rx ry h post
  unfold isnD at h
  split at h
  · cases h; cases ry
    exact ⟨rfl, post.same S (by rw [isNon_v rx]; exact .bl _)⟩
  · cases h
theorem s_notN [Tbs] {K : Frag} : Op2 K (fun x y H Q => y = .non ∧ Q (.bl (!decide (x = .non))) H) (isnD true) := by
  intro θ G H st x y d e z st' Q S rx ry h post
  unfold isnD at h
  split at h
  · cases h; cases ry
    exact ⟨rfl, post.same S (by rw [isNon_v rx]; exact .bl _)⟩
  · cases h
/-! subscripts -/
theorem at_rep {K : Frag} {θ : List Addr} {G : Hp} {vs : List V} {ds : List D} (r : Reps K θ G vs ds) {i : Int} {d : D} (h : atI ds i = some d) : ∃ v, atI vs i = some v ∧ Rep K θ G v d := by
  unfold atI at h ⊢
  obtain ⟨j, h1, h2⟩ := Option.bind_eq_some_iff.mp h
  obtain ⟨v, h3, h4⟩ := r.at h2
  exact ⟨v, Option.bind_eq_some_iff.mpr ⟨j, by rw [r.len]; exact h1, h3⟩, h4⟩
def ixD : F2 := fun x y st => match y with
  | .int i => match x with
    | .tup ds => (atI ds i).map fun d => (d, st)
    | .str z => if z.length ≤ 16777216 then (atI z.cps.toList i).map fun c => (.str ⟨#[c]⟩, st) else none
    | x => match sqD st x with
      | some ds => (atI ds i).map fun d => (d, st)
      | none => none
  | _ => none
theorem s_ix [Tbs] {K : Frag} : Op2 K (rIx K) ixD := by
  intro θ G H st x y d e z st' Q S rx ry h post
  unfold ixD at h
  split at h
  · cases ry
    split at h
    · obtain ⟨d', h1, h2⟩ := Option.map_eq_some_iff.mp h
      cases h2
      cases rx with
      | tup h3 h4 =>
        obtain ⟨v, h5, h6⟩ := at_rep h4 h1
        exact .inr (.inl ⟨_, _, _, v, rfl, rfl, S.t h3, h5, post.same S h6⟩)
    · split at h
      · rename_i hl
        obtain ⟨c, h1, h2⟩ := Option.map_eq_some_iff.mp h
        cases h2
        cases rx
        exact .inr (.inr ⟨_, _, c, rfl, rfl, szl hl, h1, post.same S (.str _)⟩)
      · cases h
    · split at h
      · rename_i ds hq
        obtain ⟨d', h1, h2⟩ := Option.map_eq_some_iff.mp h
        cases h2
        obtain ⟨a, vs, rfl, h3, h4⟩ := sqD.ok S rx hq
        obtain ⟨v, h5, h6⟩ := at_rep h4 h1
        exact .inl ⟨_, _, _, v, rfl, rfl, h3, h5, post.same S h6⟩
      · cases h
  · cases h
section
variable {X : Cx} {a b : Expr} {fa fb : FE} {pos : Pos}
theorem c_ix [Tbs] (ha : PE X a (tE X.K fa)) (hb : PE X b (tE X.K fb)) (hs : PlainIx b := by exact fun _ _ => rfl) : PE X (.Subscript a b pos) (tE X.K (E2 ixD fa fb)) :=
  peImp (pe_ix ix_seq ha hb hs) fun _ _ _ h => go2 s_ix h
theorem c_add [Tbs] (ha : PE X a (tE X.K fa)) (hb : PE X b (tE X.K fb)) : PE X (.BinOp a .Add b pos) (tE X.K (E2 addD fa fb)) := c_op o_add s_add ha hb
theorem c_sub [Tbs] (ha : PE X a (tE X.K fa)) (hb : PE X b (tE X.K fb)) : PE X (.BinOp a .Sub b pos) (tE X.K (E2 subD fa fb)) := c_op op_sub s_sub ha hb
theorem c_mulI [Tbs] (ha : PE X a (tE X.K fa)) (hb : PE X b (tE X.K fb)) : PE X (.BinOp a .Mult b pos) (tE X.K (E2 mulI fa fb)) := c_op op_mul s_mulI ha hb
theorem c_fdiv [Tbs] (ha : PE X a (tE X.K fa)) (hb : PE X b (tE X.K fb)) : PE X (.BinOp a .FloorDiv b pos) (tE X.K (E2 fdivD fa fb)) := c_op op_fdivW s_fdiv ha hb
theorem c_mod [Tbs] (ha : PE X a (tE X.K fa)) (hb : PE X b (tE X.K fb)) : PE X (.BinOp a .Mod b pos) (tE X.K (E2 modD fa fb)) := c_op op_mod s_mod ha hb
theorem c_pow [Tbs] (ha : PE X a (tE X.K fa)) (hb : PE X b (tE X.K fb)) : PE X (.BinOp a .Pow b pos) (tE X.K (E2 powD fa fb)) := c_op op_pow s_pow ha hb
theorem c_shl [Tbs] (ha : PE X a (tE X.K fa)) (hb : PE X b (tE X.K fb)) : PE X (.BinOp a .LShift b pos) (tE X.K (E2 shlD fa fb)) := c_op op_shl s_shl ha hb
theorem t_lt [Tbs] (ha : PE X a (tE X.K fa)) (hb : PE X b (tE X.K fb)) : PT X (.Compare a [.Lt] [b] pos) (tT X.K (Tb (E2 ltD fa fb))) := t_cmp op_lt s_cmp ha hb (nomark _)
theorem t_le [Tbs] (ha : PE X a (tE X.K fa)) (hb : PE X b (tE X.K fb)) : PT X (.Compare a [.LtE] [b] pos) (tT X.K (Tb (E2 leD fa fb))) := t_cmp op_le s_cmp ha hb (nomark _)
theorem t_gt [Tbs] (ha : PE X a (tE X.K fa)) (hb : PE X b (tE X.K fb)) : PT X (.Compare a [.Gt] [b] pos) (tT X.K (Tb (E2 gtD fa fb))) := t_cmp op_gt s_cmp ha hb (nomark _)
theorem t_ge [Tbs] (ha : PE X a (tE X.K fa)) (hb : PE X b (tE X.K fb)) : PT X (.Compare a [.GtE] [b] pos) (tT X.K (Tb (E2 geD fa fb))) := t_cmp op_ge s_cmp ha hb (nomark _)
theorem c_lt [Tbs] (ha : PE X a (tE X.K fa)) (hb : PE X b (tE X.K fb)) : PE X (.Compare a [.Lt] [b] pos) (tE X.K (E2 ltD fa fb)) := c_cmp op_lt s_cmp ha hb (nomark _)
theorem c_le [Tbs] (ha : PE X a (tE X.K fa)) (hb : PE X b (tE X.K fb)) : PE X (.Compare a [.LtE] [b] pos) (tE X.K (E2 leD fa fb)) := c_cmp op_le s_cmp ha hb (nomark _)
theorem c_gt [Tbs] (ha : PE X a (tE X.K fa)) (hb : PE X b (tE X.K fb)) : PE X (.Compare a [.Gt] [b] pos) (tE X.K (E2 gtD fa fb)) := c_cmp op_gt s_cmp ha hb (nomark _)
theorem c_ge [Tbs] (ha : PE X a (tE X.K fa)) (hb : PE X b (tE X.K fb)) : PE X (.Compare a [.GtE] [b] pos) (tE X.K (E2 geD fa fb)) := c_cmp op_ge s_cmp ha hb (nomark _)
theorem t_isN [Tbs] (ha : PE X a (tE X.K fa)) (hb : PE X b (tE X.K fb)) : PT X (.Compare a [.Is] [b] pos) (tT X.K (Tb (E2 (isnD false) fa fb))) := t_cmp op_isN s_isN ha hb (nomark _)
theorem t_notN [Tbs] (ha : PE X a (tE X.K fa)) (hb : PE X b (tE X.K fb)) : PT X (.Compare a [.IsNot] [b] pos) (tT X.K (Tb (E2 (isnD true) fa fb))) := t_cmp op_notN s_notN ha hb (nomark _)
theorem c_isN [Tbs] (ha : PE X a (tE X.K fa)) (hb : PE X b (tE X.K fb)) : PE X (.Compare a [.Is] [b] pos) (tE X.K (E2 (isnD false) fa fb)) := c_cmp op_isN s_isN ha hb (nomark _)
theorem c_notN [Tbs] (ha : PE X a (tE X.K fa)) (hb : PE X b (tE X.K fb)) : PE X (.Compare a [.IsNot] [b] pos) (tE X.K (E2 (isnD true) fa fb)) := c_cmp op_notN s_notN ha hb (nomark _)
end

/-! ### == and in, of data -/
mutual
def toPy : D → Option PyData
  | .non => some .none
  | .bl b => some (.bool b)
  | .int i => some (.int i)
  | .str s => some (.str s)
  | .tup ds => (toPys ds).map .tuple
  | .lst ds => (toPys ds).map .list
  | .sq ds => (toPys ds).map .list
  | .ref _ => none
  | .adr _ => none
  | .ty _ => none
  | .exc _ _ _ _ _ _ => none
def toPys : List D → Option (List PyData)
  | [] => some []
  | d :: ds => (toPy d).bind fun p => (toPys ds).map (p :: ·)
end
def pyD (st : Sto) : D → Option PyData
  | .ref n => match st[n]? with | some (.lst ds) => (toPys ds).map .list | _ => none
  | d => toPy d
section
variable {K : Frag} {θ : List Addr} {G H : Hp} {st : Sto}
mutual
theorem toPy.ok (S : Gle G H) : ∀ (d : D) (v : V) (p : PyData), Rep K θ G v d → toPy d = some p → Dp K H v p
  | .non, _, _, r, h => by cases r; cases h; exact .non
  | .bl b, _, _, r, h => by cases r; cases h; exact .bl b
  | .int i, _, _, r, h => by cases r; cases h; exact .int i
  | .str x, _, _, r, h => by cases r; cases h; exact .str x
  | .tup ds, _, _, r, h => by
    obtain ⟨ps, h1, rfl⟩ := Option.map_eq_some_iff.mp (show (toPys ds).map PyData.tuple = some _ from h)
    cases r with
    | tup h2 h3 => exact .tup (S.t h2) (toPys.ok S ds _ ps h3 h1)
  | .lst ds, _, _, r, h => by
    obtain ⟨ps, h1, rfl⟩ := Option.map_eq_some_iff.mp (show (toPys ds).map PyData.list = some _ from h)
    cases r with
    | lst h2 h3 => exact .lst (SqL.of (S _ _ h2)) (toPys.ok S ds _ ps h3 h1)
  | .sq ds, _, _, r, h => by
    obtain ⟨ps, h1, rfl⟩ := Option.map_eq_some_iff.mp (show (toPys ds).map PyData.list = some _ from h)
    cases r with
    | sq h2 h3 => exact .lst (S.l h2) (toPys.ok S ds _ ps h3 h1)
  | .ref _, _, _, _, h => by cases h
  | .adr _, _, _, _, h => by cases h
  | .ty _, _, _, _, h => by cases h
  | .exc _ _ _ _ _ _, _, _, _, h => by cases h
theorem toPys.ok (S : Gle G H) : ∀ (ds : List D) (vs : List V) (ps : List PyData), Reps K θ G vs ds → toPys ds = some ps → DpAll K H vs ps
  | [], _, _, r, h => by cases r; cases h; exact .nil
  | d :: ds, _, _, r, h => by
    obtain ⟨p, h1, h2⟩ := Option.bind_eq_some_iff.mp (show ((toPy d).bind fun p => (toPys ds).map (p :: ·)) = some _ from h)
    obtain ⟨ps, h3, rfl⟩ := Option.map_eq_some_iff.mp h2
    cases r with
    | cons r1 r2 => exact .cons (toPy.ok S d _ p r1 h1) (toPys.ok S ds _ ps r2 h3)
end
theorem pyD.ok [Tbs] {d : D} {v : V} {p : PyData} (S : Sim K θ G H st) (r : Rep K θ G v d) (h : pyD st d = some p) : Dp K H v p := by
  cases d with
  | ref n =>
    cases r with
    | ref h1 =>
      obtain ⟨o, h2, h3⟩ := S.at h1
      simp only [pyD, h2] at h
      cases o with
      | lst es =>
        obtain ⟨vs, h4, h5⟩ := h3
        obtain ⟨ps, h6, rfl⟩ := Option.map_eq_some_iff.mp h
        exact .lst (SqL.of h4) (toPys.ok S.sub es vs ps h5 h6)
      | ins cn ns ds => cases h
      | dct ks ds => cases h
  | _ => exact toPy.ok S.sub _ _ _ r h
end
def eqD (neg : Bool) : F2 := fun x y st => match x, y with
  | .str a, .str b => some (.bl (if neg then !(a == b) else a == b), st)
  | x, y => match pyD st x, pyD st y with
    | some p, some q => if SeqAt.shaped p = true ∧ SeqAt.shaped q = true then some (.bl (if neg then !PyData.eqv p q else PyData.eqv p q), st) else none
    | _, _ => none
theorem s_eq [Tbs] {K : Frag} : Op2 K (fun x y H Q => rEq x y H Q ∨ rEqD K x y H Q) (eqD false) := by
  intro θ G H st x y d e z st' Q S rx ry h post
  unfold eqD at h
  split at h
  · cases h; cases rx; cases ry
    exact .inl ⟨rfl, post.same S (by rw [dec_str]; exact .bl _)⟩
  · split at h
    · rename_i p q h1 h2
      split at h
      · rename_i hs
        cases h
        exact .inr ⟨p, q, pyD.ok S rx h1, pyD.ok S ry h2, hs.1, hs.2, post.same S (.bl _)⟩
      · cases h
    · cases h
theorem s_ne [Tbs] {K : Frag} : Op2 K (fun x y H Q => rNe x y H Q ∨ rNeD K x y H Q) (eqD true) := by
  intro θ G H st x y d e z st' Q S rx ry h post
  unfold eqD at h
  split at h
  · cases h; cases rx; cases ry
    exact .inl ⟨rfl, post.same S (by rw [dec_str]; exact .bl _)⟩
  · split at h
    · rename_i p q h1 h2
      split at h
      · rename_i hs
        cases h
        exact .inr ⟨p, q, pyD.ok S rx h1, pyD.ok S ry h2, hs.1, hs.2, post.same S (.bl _)⟩
      · cases h
    · cases h
def rInA (K : Frag) : R2 := fun x y H Q => (∃ i j, x = .str i ∧ y = .str j ∧ Q (.bl (!(Builtin.Str.occurrences j i 0 j.length 1).isEmpty)) H) ∨
  (∃ d ds, Dp K H x d ∧ (Dp K H y (.list ds) ∨ Dp K H y (.tuple ds)) ∧ SeqAt.shaped d = true ∧ SeqAt.shaped (.list ds) = true ∧ Q (.bl (ds.any fun z => PyData.eqv z d)) H)
def rNotInA (K : Frag) : R2 := fun x y H Q => (∃ i j, x = .str i ∧ y = .str j ∧ Q (.bl (!(!(Builtin.Str.occurrences j i 0 j.length 1).isEmpty))) H) ∨
  (∃ d ds, Dp K H x d ∧ (Dp K H y (.list ds) ∨ Dp K H y (.tuple ds)) ∧ SeqAt.shaped d = true ∧ SeqAt.shaped (.list ds) = true ∧ Q (.bl (!ds.any fun z => PyData.eqv z d)) H)
theorem room_in {A : Around} {ds : List PyData} {d : PyData} (sd : SeqAt.shaped d = true) (hu : A.units + 65 < cLine) : A.units + 1 + min (PyData.depthAll ds) d.depth < cLine := by
  have h1 := SeqAt.depth_of_shaped sd
  have h2 : min (PyData.depthAll ds) d.depth ≤ d.depth := Nat.min_le_right _ _
  omega
theorem o_in {X : Cx} (hu : X.A.units + 65 < cLine) : OpR X (compareOp .In) (rInA X.K) := by
  intro pins s σ H x y v u Q I rx ry h
  rcases h with h | ⟨d, ds, hd, he, sd, se, q⟩
  · exact op_in_str pins s σ H x y v u Q I rx ry h
  · obtain ⟨as, r1⟩ := Dp.reads I d x v hd rx
    rcases he with he | he
    · obtain ⟨bs, r2⟩ := Dp.reads I (.list ds) y u he ry
      exact SeqAt.in_list_reads r2 r1 (SeqAt.canLay_of_shaped se) (SeqAt.canLay_of_shaped sd) (room_in sd hu) ⟨.bl _, H, I, rfl, q⟩
    · obtain ⟨bs, r2⟩ := Dp.reads I (.tuple ds) y u he ry
      exact SeqAt.in_tuple_reads r2 r1 (SeqAt.canLay_of_shaped se) (SeqAt.canLay_of_shaped sd) (room_in sd hu) ⟨.bl _, H, I, rfl, q⟩
theorem o_notIn {X : Cx} (hu : X.A.units + 65 < cLine) : OpR X (compareOp .NotIn) (rNotInA X.K) := by
  intro pins s σ H x y v u Q I rx ry h
  rcases h with h | ⟨d, ds, hd, he, sd, se, q⟩
  · exact op_notIn_str pins s σ H x y v u Q I rx ry h
  · obtain ⟨as, r1⟩ := Dp.reads I d x v hd rx
    rcases he with he | he
    · obtain ⟨bs, r2⟩ := Dp.reads I (.list ds) y u he ry
      exact SeqAt.notIn_list_reads r2 r1 (SeqAt.canLay_of_shaped se) (SeqAt.canLay_of_shaped sd) (room_in sd hu) ⟨.bl _, H, I, rfl, q⟩
    · obtain ⟨bs, r2⟩ := Dp.reads I (.tuple ds) y u he ry
      exact SeqAt.notIn_tuple_reads r2 r1 (SeqAt.canLay_of_shaped se) (SeqAt.canLay_of_shaped sd) (room_in sd hu) ⟨.bl _, H, I, rfl, q⟩
def seqPy : PyData → Option (List PyData)
  | .list ds => some ds
  | .tuple ds => some ds
  | _ => none
def inD (neg : Bool) : F2 := fun x y st => match y with
  | .str b => match x with
    | .str a => some (.bl (if neg then !(!(Builtin.Str.occurrences b a 0 b.length 1).isEmpty) else !(Builtin.Str.occurrences b a 0 b.length 1).isEmpty), st)
    | _ => none
  | y => match pyD st x, (pyD st y).bind seqPy with
    | some p, some qs => if SeqAt.shaped p = true ∧ SeqAt.shaped (.list qs) = true then some (.bl (if neg then !qs.any fun z => PyData.eqv z p else qs.any fun z => PyData.eqv z p), st) else none
    | _, _ => none
theorem seqPy.ok {K : Frag} {H : Hp} {v : V} {p : PyData} {ds : List PyData} (h : Dp K H v p) (e : seqPy p = some ds) : Dp K H v (.list ds) ∨ Dp K H v (.tuple ds) := by
  cases p with
  | list xs => cases e; exact .inl h
  | tuple xs => cases e; exact .inr h
  | _ => cases e
theorem s_in [Tbs] {K : Frag} : Op2 K (rInA K) (inD false) := by
  intro θ G H st x y d e z st' Q S rx ry h post
  unfold inD at h
  split at h
  · split at h
    · cases h; cases rx; cases ry
      exact .inl ⟨_, _, rfl, rfl, post.same S (.bl _)⟩
    · cases h
  · split at h
    · rename_i p qs h1 h2
      split at h
      · rename_i hs
        cases h
        obtain ⟨q, h3, h4⟩ := Option.bind_eq_some_iff.mp h2
        exact .inr ⟨p, qs, pyD.ok S rx h1, seqPy.ok (pyD.ok S ry h3) h4, hs.1, hs.2, post.same S (.bl _)⟩
      · cases h
    · cases h
theorem s_notIn [Tbs] {K : Frag} : Op2 K (rNotInA K) (inD true) := by
  intro θ G H st x y d e z st' Q S rx ry h post
  unfold inD at h
  split at h
  · split at h
    · cases h; cases rx; cases ry
      exact .inl ⟨_, _, rfl, rfl, post.same S (.bl _)⟩
    · cases h
  · split at h
    · rename_i p qs h1 h2
      split at h
      · rename_i hs
        cases h
        obtain ⟨q, h3, h4⟩ := Option.bind_eq_some_iff.mp h2
        exact .inr ⟨p, qs, pyD.ok S rx h1, seqPy.ok (pyD.ok S ry h3) h4, hs.1, hs.2, post.same S (.bl _)⟩
      · cases h
    · cases h
theorem hu64 {A : Around} {k : Nat} (hr : Room k A) : A.units + 64 < cLine := hr.units
theorem hu65 {A : Around} {k : Nat} (hr : Room k A) : A.units + 65 < cLine := by have := hr.un; omega
section
variable {X : Cx} {a b : Expr} {fa fb : FE} {pos : Pos}
theorem c_eq [Tbs] {k : Nat} (hr : Room k X.A) (ha : PE X a (tE X.K fa)) (hb : PE X b (tE X.K fb)) : PE X (.Compare a [.Eq] [b] pos) (tE X.K (E2 (eqD false) fa fb)) := c_cmp (op_eq.or (op_eqD (hu64 hr))) s_eq ha hb (nomark _)
theorem c_ne [Tbs] {k : Nat} (hr : Room k X.A) (ha : PE X a (tE X.K fa)) (hb : PE X b (tE X.K fb)) : PE X (.Compare a [.NotEq] [b] pos) (tE X.K (E2 (eqD true) fa fb)) := c_cmp (op_ne.or (op_neD (hu64 hr))) s_ne ha hb (nomark _)
theorem t_eq [Tbs] {k : Nat} (hr : Room k X.A) (ha : PE X a (tE X.K fa)) (hb : PE X b (tE X.K fb)) : PT X (.Compare a [.Eq] [b] pos) (tT X.K (Tb (E2 (eqD false) fa fb))) := t_cmp (op_eq.or (op_eqD (hu64 hr))) s_eq ha hb (nomark _)
theorem t_ne [Tbs] {k : Nat} (hr : Room k X.A) (ha : PE X a (tE X.K fa)) (hb : PE X b (tE X.K fb)) : PT X (.Compare a [.NotEq] [b] pos) (tT X.K (Tb (E2 (eqD true) fa fb))) := t_cmp (op_ne.or (op_neD (hu64 hr))) s_ne ha hb (nomark _)
theorem c_in [Tbs] {k : Nat} (hr : Room k X.A) (ha : PE X a (tE X.K fa)) (hb : PE X b (tE X.K fb)) (hm : behindInMarks .In b = false := by rfl) : PE X (.Compare a [.In] [b] pos) (tE X.K (E2 (inD false) fa fb)) := c_cmp (o_in (hu65 hr)) s_in ha hb hm
theorem t_in [Tbs] {k : Nat} (hr : Room k X.A) (ha : PE X a (tE X.K fa)) (hb : PE X b (tE X.K fb)) (hm : behindInMarks .In b = false := by rfl) : PT X (.Compare a [.In] [b] pos) (tT X.K (Tb (E2 (inD false) fa fb))) := t_cmp (o_in (hu65 hr)) s_in ha hb hm
theorem c_notIn [Tbs] {k : Nat} (hr : Room k X.A) (ha : PE X a (tE X.K fa)) (hb : PE X b (tE X.K fb)) (hm : behindInMarks .NotIn b = false := by rfl) : PE X (.Compare a [.NotIn] [b] pos) (tE X.K (E2 (inD true) fa fb)) := c_cmp (o_notIn (hu65 hr)) s_notIn ha hb hm
theorem t_notIn [Tbs] {k : Nat} (hr : Room k X.A) (ha : PE X a (tE X.K fa)) (hb : PE X b (tE X.K fb)) (hm : behindInMarks .NotIn b = false := by rfl) : PT X (.Compare a [.NotIn] [b] pos) (tT X.K (Tb (E2 (inD true) fa fb))) := t_cmp (o_notIn (hu65 hr)) s_notIn ha hb hm
end

/-! ### truth, and, or, not, if else -/
def truD (st : Sto) : D → Option Bool
  | .non => some false
  | .bl b => some b
  | .int i => some (i != 0)
  | .str s => if s.length ≤ 16777216 then some ((s.length : Int) != 0) else none
  | .tup ds => some (!ds.isEmpty)
  | d => (sqD st d).map fun ds => !ds.isEmpty
theorem empty_rep {K : Frag} {θ : List Addr} {G : Hp} {vs : List V} {ds : List D} (r : Reps K θ G vs ds) : vs.isEmpty = ds.isEmpty := by
  cases r <;> rfl
theorem truD.ok [Tbs] {K : Frag} {θ : List Addr} {G H : Hp} {st : Sto} {v : V} {d : D} {b : Bool} (S : Sim K θ G H st) (r : Rep K θ G v d) (h : truD st d = some b) : TruV K v H b := by
  have sq : ∀ ds, sqD st d = some ds → b = !ds.isEmpty → TruV K v H b := fun ds e1 e2 => by
    obtain ⟨a, vs, rfl, h1, h2⟩ := sqD.ok S r e1
    exact .inl ⟨vs, h1, by rw [empty_rep h2]; exact e2⟩
  cases d with
  | non => cases r; cases h; rfl
  | bl _ => cases r; cases h; rfl
  | int _ => cases r; cases h; rfl
  | str s =>
    cases r
    simp only [truD] at h
    split at h
    · rename_i hl
      cases h
      exact ⟨szl hl, rfl⟩
    · cases h
  | tup ds =>
    cases h
    cases r with
    | tup h1 h2 => exact .inr (.inl ⟨_, S.t h1, by rw [empty_rep h2]⟩)
  | lst ds => cases h; exact sq ds rfl rfl
  | sq ds => cases h; exact sq ds rfl rfl
  | ref n =>
    obtain ⟨ds, h1, h2⟩ := Option.map_eq_some_iff.mp (show (sqD st (.ref n)).map (fun ds => !ds.isEmpty) = some b from h)
    exact sq ds h1 h2.symm
  | adr _ => cases h
  | ty _ => cases h
  | exc _ _ _ _ _ _ => cases h
/-- a value's truth -/
def Tt (f : FE) : FT := fun env st => (f env st).bind fun p => (truD p.2 p.1).map fun b => (b, p.2)
def Tand (f g : FT) : FT := fun env st => (f env st).bind fun p => if p.1 = true then g env p.2 else some (false, p.2)
def Tor (f g : FT) : FT := fun env st => (f env st).bind fun p => if p.1 = true then some (true, p.2) else g env p.2
def Tnot (f : FT) : FT := fun env st => (f env st).bind fun p => some (!p.1, p.2)
def Eand (f g : FE) : FE := fun env st => (f env st).bind fun p => (truD p.2 p.1).bind fun b => if b = true then g env p.2 else some (p.1, p.2)
def Eor (f g : FE) : FE := fun env st => (f env st).bind fun p => (truD p.2 p.1).bind fun b => if b = true then some (p.1, p.2) else g env p.2
def Enot (f : FE) : FE := fun env st => (f env st).bind fun p => (truD p.2 p.1).map fun b => (.bl (!b), p.2)
def Eif (c : FT) (f g : FE) : FE := fun env st => (c env st).bind fun p => if p.1 = true then f env p.2 else g env p.2
section
variable {X : Cx} {a b : Expr} {rest : List Expr} {fa fb : FE} {ga gb : FT} {pos : Pos}
theorem t_tru [Tbs] (ha : PE X a (tE X.K fa)) (he : ∀ whole, isTrue a X.env whole = (do let v ← whole; standAt a.pos; holding [v] (truthy v)) := by intro _; rfl) : PT X a (tT X.K (Tt fa)) :=
  ptImp (pt_truth ha he) fun σ H Q ⟨θ, G, env, st, d, st', S, EN, hf, post⟩ => by
    obtain ⟨⟨x, st1⟩, h1, h2⟩ := Option.bind_eq_some_iff.mp hf
    obtain ⟨b, h3, h4⟩ := Option.map_eq_some_iff.mp h2
    cases h4
    exact tE.go S EN h1 fun θ1 G1 H1 v1 e1 S1 EN1 r1 => ⟨_, truD.ok S1 r1 h3, post _ _ _ e1 S1⟩
theorem t_not [Tbs] (ha : PT X a (tT X.K ga)) : PT X (.UnaryOp .Not a pos) (tT X.K (Tnot ga)) :=
  ptImp (pt_not ha) fun σ H Q ⟨θ, G, env, st, d, st', S, EN, hf, post⟩ => by
    obtain ⟨⟨x, st1⟩, h1, h2⟩ := Option.bind_eq_some_iff.mp hf
    cases h2
    exact tT.go S EN h1 fun θ1 G1 H1 e1 S1 EN1 => post _ _ _ e1 S1
theorem w_and1 [Tbs] (ha : PT X a (tT X.K ga)) : PW X (.BoolOp .And [a] pos) (tT X.K ga) := pw_and1 ha
theorem w_or1 [Tbs] (ha : PT X a (tT X.K ga)) : PW X (.BoolOp .Or [a] pos) (tT X.K ga) := pw_or1 ha
theorem w_and [Tbs] (ha : PT X a (tT X.K ga)) (hb : PW X (.BoolOp .And (b :: rest) pos) (tT X.K gb)) : PW X (.BoolOp .And (a :: b :: rest) pos) (tT X.K (Tand ga gb)) :=
  pwImp (pw_and ha hb) fun σ H Q ⟨θ, G, env, st, d, st', S, EN, hf, post⟩ => by
    obtain ⟨⟨x, st1⟩, h1, h2⟩ := Option.bind_eq_some_iff.mp hf
    refine tT.go S EN h1 fun θ1 G1 H1 e1 S1 EN1 => ?_
    cases x with
    | true =>
      rw [if_pos rfl] at h2 ⊢
      exact tT.go S1 EN1 h2 fun θ2 G2 H2 e2 S2 EN2 => post _ _ _ (e1.trans S1 e2) S2
    | false =>
      rw [if_neg Bool.false_ne_true] at h2 ⊢
      cases h2
      exact post _ _ _ e1 S1
theorem w_or [Tbs] (ha : PT X a (tT X.K ga)) (hb : PW X (.BoolOp .Or (b :: rest) pos) (tT X.K gb)) : PW X (.BoolOp .Or (a :: b :: rest) pos) (tT X.K (Tor ga gb)) :=
  pwImp (pw_or ha hb) fun σ H Q ⟨θ, G, env, st, d, st', S, EN, hf, post⟩ => by
    obtain ⟨⟨x, st1⟩, h1, h2⟩ := Option.bind_eq_some_iff.mp hf
    refine tT.go S EN h1 fun θ1 G1 H1 e1 S1 EN1 => ?_
    cases x with
    | true =>
      rw [if_pos rfl] at h2 ⊢
      cases h2
      exact post _ _ _ e1 S1
    | false =>
      rw [if_neg Bool.false_ne_true] at h2 ⊢
      exact tT.go S1 EN1 h2 fun θ2 G2 H2 e2 S2 EN2 => post _ _ _ (e1.trans S1 e2) S2
theorem c_one [Tbs] {op} (ha : PE X a (tE X.K fa)) : PE X (.BoolOp op [a] pos) (tE X.K fa) := pe_one ha
theorem c_and [Tbs] (ha : PE X a (tE X.K fa)) (hb : PE X (.BoolOp .And (b :: rest) pos) (tE X.K fb)) : PE X (.BoolOp .And (a :: b :: rest) pos) (tE X.K (Eand fa fb)) :=
  peImp (pe_andT ha hb) fun σ H Q ⟨θ, G, env, st, d, st', S, EN, hf, post⟩ => by
    obtain ⟨⟨x, st1⟩, h1, h2⟩ := Option.bind_eq_some_iff.mp hf
    obtain ⟨b, h3, h4⟩ := Option.bind_eq_some_iff.mp h2
    refine tE.go S EN h1 fun θ1 G1 H1 v1 e1 S1 EN1 r1 => ⟨b, truD.ok S1 r1 h3, ?_⟩
    cases b with
    | true =>
      rw [if_pos rfl] at h4 ⊢
      exact tE.go S1 EN1 h4 fun θ2 G2 H2 v2 e2 S2 EN2 r2 => post _ _ _ _ (e1.trans S1 e2) S2 r2
    | false =>
      rw [if_neg Bool.false_ne_true] at h4 ⊢
      cases h4
      exact post _ _ _ _ e1 S1 r1
theorem c_or [Tbs] (ha : PE X a (tE X.K fa)) (hb : PE X (.BoolOp .Or (b :: rest) pos) (tE X.K fb)) : PE X (.BoolOp .Or (a :: b :: rest) pos) (tE X.K (Eor fa fb)) :=
  peImp (pe_orT ha hb) fun σ H Q ⟨θ, G, env, st, d, st', S, EN, hf, post⟩ => by
    obtain ⟨⟨x, st1⟩, h1, h2⟩ := Option.bind_eq_some_iff.mp hf
    obtain ⟨b, h3, h4⟩ := Option.bind_eq_some_iff.mp h2
    refine tE.go S EN h1 fun θ1 G1 H1 v1 e1 S1 EN1 r1 => ⟨b, truD.ok S1 r1 h3, ?_⟩
    cases b with
    | true =>
      rw [if_pos rfl] at h4 ⊢
      cases h4
      exact post _ _ _ _ e1 S1 r1
    | false =>
      rw [if_neg Bool.false_ne_true] at h4 ⊢
      exact tE.go S1 EN1 h4 fun θ2 G2 H2 v2 e2 S2 EN2 r2 => post _ _ _ _ (e1.trans S1 e2) S2 r2
theorem c_not [Tbs] (ha : PE X a (tE X.K fa)) : PE X (.UnaryOp .Not a pos) (tE X.K (Enot fa)) :=
  peImp (pe_notT ha) fun σ H Q ⟨θ, G, env, st, d, st', S, EN, hf, post⟩ => by
    obtain ⟨⟨x, st1⟩, h1, h2⟩ := Option.bind_eq_some_iff.mp hf
    obtain ⟨b, h3, h4⟩ := Option.map_eq_some_iff.mp h2
    cases h4
    exact tE.go S EN h1 fun θ1 G1 H1 v1 e1 S1 EN1 r1 => ⟨b, truD.ok S1 r1 h3, post _ _ _ _ e1 S1 (.bl _)⟩
theorem c_if [Tbs] {c : Expr} (hc : PT X c (tT X.K ga)) (ha : PE X a (tE X.K fa)) (hb : PE X b (tE X.K fb)) : PE X (.IfExp c a b pos) (tE X.K (Eif ga fa fb)) :=
  peImp (pe_ifExp hc ha hb) fun σ H Q ⟨θ, G, env, st, d, st', S, EN, hf, post⟩ => by
    obtain ⟨⟨x, st1⟩, h1, h2⟩ := Option.bind_eq_some_iff.mp hf
    refine tT.go S EN h1 fun θ1 G1 H1 e1 S1 EN1 => ?_
    cases x with
    | true =>
      rw [if_pos rfl] at h2 ⊢
      exact tE.go S1 EN1 h2 fun θ2 G2 H2 v2 e2 S2 EN2 r2 => post _ _ _ _ (e1.trans S1 e2) S2 r2
    | false =>
      rw [if_neg Bool.false_ne_true] at h2 ⊢
      exact tE.go S1 EN1 h2 fun θ2 G2 H2 v2 e2 S2 EN2 r2 => post _ _ _ _ (e1.trans S1 e2) S2 r2
end

/-! ### chains of two comparisons -/
def E3 (f g : F2) (fa fb fc : FE) : FE := fun env st => (fa env st).bind fun p => (fb env p.2).bind fun q => (f p.1 q.1 q.2).bind fun r => match r.1 with
  | .bl true => (fc env r.2).bind fun u => g q.1 u.1 u.2
  | .bl false => some (.bl false, r.2)
  | _ => none
section
variable {X : Cx} {a b c : Expr} {fa fb fc : FE} {pos : Pos} {f g : F2} {r r' : R2}
theorem go3 [Tbs] (hf : Op2 X.K r f) (hg : Op2 X.K r' g) {σ : L2.St} {H : Hp} {Q : VK} (h : tE X.K (E3 f g fa fb fc) σ H Q) : tChain r r' (tE X.K fa) (tE X.K fb) (tE X.K fc) σ H Q := by
  obtain ⟨θ, G, env, st, d, st', S, EN, he, post⟩ := h
  obtain ⟨⟨x, st1⟩, h1, he⟩ := Option.bind_eq_some_iff.mp he
  obtain ⟨⟨y, st2⟩, h2, he⟩ := Option.bind_eq_some_iff.mp he
  obtain ⟨⟨z, st3⟩, h3, he⟩ := Option.bind_eq_some_iff.mp he
  refine tE.go S EN h1 fun θ1 G1 H1 v1 e1 S1 EN1 r1 => tE.go S1 EN1 h2 fun θ2 G2 H2 v2 e2 S2 EN2 r2 => ?_
  refine hf _ _ _ _ _ _ _ _ _ _ _ S2 (r1.ext e2) r2 h3 fun θ3 G3 H3 v e3 S3 r3 => ?_
  have e123 := (e1.trans S1 e2).trans S2 e3
  split at he
  · rename_i hz
    dsimp only at hz
    subst hz
    cases r3
    refine ⟨true, rfl, ?_⟩
    rw [if_pos rfl]
    obtain ⟨⟨w, st4⟩, h4, he⟩ := Option.bind_eq_some_iff.mp he
    refine tE.go S3 ((EN2.ext e3)) h4 fun θ4 G4 H4 v4 e4 S4 EN4 r4 => ?_
    exact hg _ _ _ _ _ _ _ _ _ _ _ S4 ((r2.ext e3).ext e4) r4 he fun θ5 G5 H5 v5 e5 S5 r5 => post _ _ _ _ ((e123.trans S3 e4).trans S4 e5) S5 r5
  · rename_i hz
    dsimp only at hz
    subst hz
    cases r3
    refine ⟨false, rfl, ?_⟩
    rw [if_neg Bool.false_ne_true]
    cases he
    exact post _ _ _ _ e123 S3 (.bl _)
  · cases he
theorem c_chain [Tbs] {op op' : CmpOp} (ho : OpR X (compareOp op) r) (hf : Op2 X.K r f) (ho' : OpR X (compareOp op') r') (hg : Op2 X.K r' g) (ha : PE X a (tE X.K fa)) (hb : PE X b (tE X.K fb)) (hc : PE X c (tE X.K fc))
    (hm : lastMarks [op, op'] [b, c] = false := by with_unfolding_all rfl) : PE X (.Compare a [op, op'] [b, c] pos) (tE X.K (E3 f g fa fb fc)) :=
  peImp (pe_chain ho ho' ha hb hc hm) fun _ _ _ h => go3 hf hg h
theorem t_chain [Tbs] {op op' : CmpOp} (ho : OpR X (compareOp op) r) (hf : Op2 X.K r f) (ho' : OpR X (compareOp op') r') (hg : Op2 X.K r' g) (ha : PE X a (tE X.K fa)) (hb : PE X b (tE X.K fb)) (hc : PE X c (tE X.K fc))
    (hm : lastMarks [op, op'] [b, c] = false := by with_unfolding_all rfl) : PT X (.Compare a [op, op'] [b, c] pos) (tT X.K (Tb (E3 f g fa fb fc))) := by
  refine ptImp (pt_chain ho ho' ha hb hc hm) fun σ H Q h => ?_
  obtain ⟨θ, G, env, st, d, st', S, EN, he, post⟩ := h
  unfold Tb at he
  split at he
  · rename_i k st2 he2
    cases he
    refine go3 (fc := fc) hf hg (tE.go S EN he2 fun θ1 G1 H1 v1 e1 S1 EN1 r1 => ?_)
    cases r1
    exact ⟨_, rfl, post _ _ _ e1 S1⟩
  · cases he
end

/-! ### argument lists, displays, calls -/
def Anil : FA := fun _ st => some ([], st)
def Acons (f : FE) (g : FA) : FA := fun env st => (f env st).bind fun p => (g env p.2).bind fun q => some (p.1 :: q.1, q.2)
def Etup (g : FA) : FE := fun env st => (g env st).bind fun p => if p.1.length ≤ 16777216 then some (.tup p.1, p.2) else none
def Elst (g : FA) : FE := fun env st => (g env st).bind fun p => if p.1.length ≤ 16777216 then some (.lst p.1, p.2) else none
def Enew (g : FA) : FE := fun env st => (g env st).bind fun p => if p.1.length ≤ 16777216 then some (.ref p.2.length, p.2 ++ [.lst p.1]) else none
abbrev FC := List D → Sto → Option (D × Sto)
def EC (f : FC) (g : FA) : FE := fun env st => (g env st).bind fun p => f p.1 p.2
def CallS [Tbs] (K : Frag) (r : List V → Hp → VK → Prop) (f : FC) : Prop := ∀ θ G H st vs ds z st' Q, Sim K θ G H st → Reps K θ G vs ds → f ds st = some (z, st') → PostE K θ G H st' z Q → r vs H Q
section
variable {X : Cx} {e : Expr} {es : List Expr} {fe : FE} {g : FA} {pos : Pos}
theorem a_nil [Tbs] : PA X [] (tA X.K Anil) := paImp pa_nil fun σ H Q ⟨θ, G, env, st, d, st', S, EN, hf, post⟩ => by
  cases hf
  exact post _ _ _ _ .refl S .nil
theorem a_cons [Tbs] (ha : PE X e (tE X.K fe)) (hr : PA X es (tA X.K g)) (hs : starEach (e :: es) X.env = (false, eval e X.env) :: starEach es X.env := by rfl) : PA X (e :: es) (tA X.K (Acons fe g)) :=
  paImp (pa_cons ha hr hs) fun σ H Q ⟨θ, G, env, st, d, st', S, EN, hf, post⟩ => by
    obtain ⟨⟨x, st1⟩, h1, h2⟩ := Option.bind_eq_some_iff.mp hf
    obtain ⟨⟨y, st2⟩, h3, h4⟩ := Option.bind_eq_some_iff.mp h2
    cases h4
    exact tE.go S EN h1 fun θ1 G1 H1 v1 e1 S1 EN1 r1 => tA.go S1 EN1 h3 fun θ2 G2 H2 v2 e2 S2 EN2 r2 => post _ _ _ _ (e1.trans S1 e2) S2 (.cons (r1.ext e2) r2)
theorem c_tup [Tbs] {x1} (h : PA X es (tA X.K g)) : PE X (.Tuple es x1 pos) (tE X.K (Etup g)) :=
  peImp (pe_tup h) fun σ H Q ⟨θ, G, env, st, d, st', S, EN, hf, post⟩ => by
    obtain ⟨⟨x, st1⟩, h1, h2⟩ := Option.bind_eq_some_iff.mp hf
    dsimp only at h2
    split at h2
    · rename_i hl
      cases h2
      refine tA.go S EN h1 fun θ1 G1 H1 v1 e1 S1 EN1 r1 => ⟨by rw [r1.len]; exact szl hl, fun p hp => ?_⟩
      exact PostE.newT (fun θ' G' H' v e s r => post _ _ _ _ (e1.trans S1 e) s r) S1 hp r1
    · cases h2
theorem c_lst [Tbs] (h : PA X es (tA X.K g)) : PE X (.List es pos) (tE X.K (Elst g)) :=
  peImp (pe_lst h) fun σ H Q ⟨θ, G, env, st, d, st', S, EN, hf, post⟩ => by
    obtain ⟨⟨x, st1⟩, h1, h2⟩ := Option.bind_eq_some_iff.mp hf
    dsimp only at h2
    split at h2
    · rename_i hl
      cases h2
      refine tA.go S EN h1 fun θ1 G1 H1 v1 e1 S1 EN1 r1 => ⟨by rw [r1.len]; exact szl hl, fun p hp => ?_⟩
      exact PostE.newL (fun θ' G' H' v e s r => post _ _ _ _ (e1.trans S1 e) s r) S1 hp r1
    · cases h2
theorem c_new [Tbs] (h : PA X es (tA X.K g)) : PE X (.List es pos) (tE X.K (Enew g)) :=
  peImp (pe_lst h) fun σ H Q ⟨θ, G, env, st, d, st', S, EN, hf, post⟩ => by
    obtain ⟨⟨x, st1⟩, h1, h2⟩ := Option.bind_eq_some_iff.mp hf
    dsimp only at h2
    split at h2
    · rename_i hl
      cases h2
      refine tA.go S EN h1 fun θ1 G1 H1 v1 e1 S1 EN1 r1 => ⟨by rw [r1.len]; exact szl hl, fun p hp => ?_⟩
      exact PostE.newM (fun θ' G' H' v e s r => post _ _ _ _ (e1.trans S1 e) s r) S1 hp r1
    · cases h2
theorem goC [Tbs] {r : List V → Hp → VK → Prop} {f : FC} (hs : CallS X.K r f) {σ : L2.St} {H : Hp} {Q : VK} (h : tE X.K (EC f g) σ H Q) : tCB r (tA X.K g) σ H Q := by
  obtain ⟨θ, G, env, st, d, st', S, EN, hf, post⟩ := h
  obtain ⟨⟨x, st1⟩, h1, h2⟩ := Option.bind_eq_some_iff.mp hf
  exact tA.go S EN h1 fun θ1 G1 H1 v1 e1 S1 EN1 r1 => hs _ _ _ _ _ _ _ _ _ S1 r1 h2 fun θ' G' H' v e s r => post _ _ _ _ (e1.trans S1 e) s r
theorem c_cb [Tbs] {id : String} {x : PySem.Str} {p : Pos} {r : List V → Hp → VK → Prop} {f : FC} (hc : CallR X (.builtin id) r) (hs : CallS X.K r f) (hg : Gl X x) (hm : X.mg x = none) (hv : bootBuiltins x = some (.builtin id)) (ha : PA X (e :: es) (tA X.K g))
    (hn : x ≠ "__name__" := by decide) (hdb : (x == ("__debug__" : PySem.Str)) = false := by decide) (he : starEach (e :: es) X.env = (false, eval e X.env) :: starEach es X.env := by rfl) (hpl : (backTo pos (starEach es X.env)).any (·.1) = false := by rfl) :
    PE X (.Call (.Name x p) (e :: es) [] pos) (tE X.K (EC f g)) := peImp (pe_callB hc hg hm hv ha hn hdb he hpl) fun _ _ _ h => goC hs h
theorem c_ct [Tbs] {id : String} {x : PySem.Str} {p : Pos} {r : List V → Hp → VK → Prop} {f : FC} (hc : CallR X (.type id) r) (hs : CallS X.K r f) (hg : Gl X x) (hm : X.mg x = none) (hv : bootBuiltins x = some (.type id)) (ha : PA X (e :: es) (tA X.K g))
    (hn : x ≠ "__name__" := by decide) (hdb : (x == ("__debug__" : PySem.Str)) = false := by decide) (he : starEach (e :: es) X.env = (false, eval e X.env) :: starEach es X.env := by rfl) (hpl : (backTo pos (starEach es X.env)).any (·.1) = false := by rfl) :
    PE X (.Call (.Name x p) (e :: es) [] pos) (tE X.K (EC f g)) := peImp (pe_callTy hc hg hm hv ha hn hdb he hpl) fun _ _ _ h => goC hs h
theorem c_bty [Tbs] {x : PySem.Str} {n : String} (hg : Gl X x) (hm : X.mg x = none) (hv : bootBuiltins x = some (.type n)) (hn : x ≠ "__name__" := by decide) (hd : (x == ("__debug__" : PySem.Str)) = false := by decide) : PE X (.Name x pos) (tE X.K (Ec (.ty n))) :=
  c_const (pe_bltn hg hm hv (v := .ty n) rfl hn hd) fun _ _ => .ty n
end
/-! the built-ins -/
section
variable {K : Frag}
def fAbs : FC := fun ds st => match ds with
  | [.int i] => some (.int (if i < 0 then -i else i), st)
  | _ => none
theorem s_abs [Tbs] : CallS K (fun xs H Q => ∃ i, xs = [.int i] ∧ Q (.int (if i < 0 then -i else i)) H) fAbs := by
  intro θ G H st vs ds z st' Q S r h post
  unfold fAbs at h
  split at h
  · cases h
    cases r with
    | cons r1 r2 => cases r1; cases r2; exact ⟨_, rfl, post.same S (.int _)⟩
  · cases h
def fInt : FC := fun ds st => match ds with
  | [.int i] => some (.int i, st)
  | [.bl b] => some (.int (if b then 1 else 0), st)
  | [.str s] => match PySem.intText? s with
    | some n => if s.length ≤ 640 then some (.int n, st) else none
    | none => none
  | _ => none
def rInt : List V → Hp → VK → Prop := fun xs H Q => ((∃ i, xs = [.int i] ∧ Q (.int i) H) ∨ ∃ k, xs = [.bl k] ∧ Q (.int (if k then 1 else 0)) H) ∨ ∃ a n, xs = [.str a] ∧ PySem.intText? a = some n ∧ a.length ≤ 640 ∧ Q (.int n) H
theorem o_int {X : Cx} : CallR X (.type "int") rInt := call_int1.or call_int_str
theorem s_intc [Tbs] : CallS K rInt fInt := by
  intro θ G H st vs ds z st' Q S r h post
  unfold fInt at h
  split at h
  · cases h
    cases r with
    | cons r1 r2 => cases r1; cases r2; exact .inl (.inl ⟨_, rfl, post.same S (.int _)⟩)
  · cases h
    cases r with
    | cons r1 r2 => cases r1; cases r2; exact .inl (.inr ⟨_, rfl, post.same S (.int _)⟩)
  · split at h
    · rename_i n hn
      split at h
      · rename_i hl
        cases h
        cases r with
        | cons r1 r2 => cases r1; cases r2; exact .inr ⟨_, n, rfl, hn, hl, post.same S (.int _)⟩
      · cases h
    · cases h
  · cases h
def fLen : FC := fun ds st => match ds with
  | [.str s] => if s.length ≤ 16777216 then some (.int s.length, st) else none
  | [.tup es] => some (.int es.length, st)
  | [d] => (sqD st d).map fun es => (.int es.length, st)
  | _ => none
def rLen (K : Frag) : List V → Hp → VK → Prop := fun xs H Q => (∃ p ys, xs = [.ref p] ∧ (SqL K H p ys ∨ SqT K H p ys) ∧ Q (.int ys.length) H) ∨ (∃ z, xs = [.str z] ∧ z.length ≤ sizeLine ∧ Q (.int z.length) H)
theorem o_len {X : Cx} : CallR X (.builtin "len") (rLen X.K) := call_len_seq.or call_len_str
theorem s_len [Tbs] : CallS K (rLen K) fLen := by
  intro θ G H st vs ds z st' Q S r h post
  unfold fLen at h
  split at h
  · split at h
    · rename_i hl
      cases h
      cases r with
      | cons r1 r2 => cases r1; cases r2; exact .inr ⟨_, rfl, szl hl, post.same S (.int _)⟩
    · cases h
  · cases h
    cases r with
    | cons r1 r2 =>
      cases r2
      cases r1 with
      | tup h1 h2 => exact .inl ⟨_, _, rfl, .inr (S.t h1), post.same S (by rw [h2.len]; exact .int _)⟩
  · obtain ⟨es, h1, h2⟩ := Option.map_eq_some_iff.mp h
    cases h2
    cases r with
    | cons r1 r2 =>
      cases r2
      obtain ⟨a, ws, rfl, h3, h4⟩ := sqD.ok S r1 h1
      exact .inl ⟨_, _, rfl, .inl h3, post.same S (by rw [h4.len]; exact .int _)⟩
  · cases h
def fOrd : FC := fun ds st => match ds with
  | [.str s] => if s.length = 1 then some (.int ((s.cps.getD 0 0 : Nat) : Int), st) else none
  | _ => none
theorem s_ord [Tbs] : CallS K (fun xs H Q => ∃ x, xs = [.str x] ∧ x.length = 1 ∧ Q (.int (x.cps.getD 0 0 : Nat)) H) fOrd := by
  intro θ G H st vs ds z st' Q S r h post
  unfold fOrd at h
  split at h
  · split at h
    · rename_i hl
      cases h
      cases r with
      | cons r1 r2 => cases r1; cases r2; exact ⟨_, rfl, hl, post.same S (.int _)⟩
    · cases h
  · cases h
/-- the name of a datum's type -/
def tyN (st : Sto) : D → Option String
  | .non => some "NoneType"
  | .bl _ => some "bool"
  | .int _ => some "int"
  | .str _ => some "str"
  | .tup _ => some "tuple"
  | .lst _ => some "list"
  | .ref n => match st[n]? with | some (.lst _) => some "list" | _ => none
  | _ => none
def fIsi : FC := fun ds st => match ds with
  | [d, .ty T] => match tyN st d with
    | some n => (kitB n T).map fun b => (.bl b, st)
    | none => none
  | _ => none
theorem SqT.tyx {H : Hp} {a : Addr} {vs : List V} (h : SqT K H a vs) : TyX K H (.ref a) (.type "tuple") := by
  rcases h with (h | ⟨o, h⟩) | ⟨o, its, n, h1, h2, _⟩
  · exact .base (.tup h)
  · exact .fTuple h
  · exact .kTuple h1 h2
theorem tyN.ok [Tbs] {θ : List Addr} {G H : Hp} {st : Sto} {v : V} {d : D} {n : String} (S : Sim K θ G H st) (r : Rep K θ G v d) (h : tyN st d = some n) : TyX K H v (.type n) := by
  cases d with
  | non => cases h; cases r; exact .base .non
  | bl b => cases h; cases r; exact .base (.bl b)
  | int i => cases h; cases r; exact .base (.int i)
  | str s => cases h; cases r; exact .base (.str s)
  | tup ds =>
    cases h
    cases r with
    | tup h1 h2 => exact SqT.tyx (S.t h1)
  | lst ds =>
    cases h
    cases r with
    | lst h1 h2 => exact .base (.lst (S.sub _ _ h1))
  | ref m =>
    cases r with
    | ref h1 =>
      obtain ⟨o, h2, h3⟩ := S.at h1
      simp only [tyN, h2] at h
      cases o with
      | lst es =>
        cases h
        obtain ⟨vs, h4, _⟩ := h3
        exact .base (.lst h4)
      | ins cn ns ds => cases h
      | dct ks ds => cases h
  | _ => cases h
theorem s_isi [Tbs] : CallS K (rIsi K) fIsi := by
  intro θ G H st vs ds z st' Q S r h post
  unfold fIsi at h
  split at h
  · split at h
    · rename_i n hn
      obtain ⟨b, h1, h2⟩ := Option.map_eq_some_iff.mp h
      cases h2
      cases r with
      | cons r1 r2 =>
        cases r2 with
        | cons r3 r4 =>
          cases r4
          cases r3
          exact ⟨_, _, _, _, b, rfl, .ty _, tyN.ok S r1 hn, kit_ty h1, post.same S (.bl _)⟩
    · cases h
  · cases h
end
section
variable {X : Cx} {e : Expr} {es : List Expr} {g : FA} {p pos : Pos}
theorem c_abs [Tbs] (hg : Gl X "abs") (hm : X.mg "abs" = none) (ha : PA X [e] (tA X.K g)) (he : starEach [e] X.env = (false, eval e X.env) :: starEach [] X.env := by rfl) : PE X (.Call (.Name "abs" p) [e] [] pos) (tE X.K (EC fAbs g)) := c_cb call_abs s_abs hg hm (by decide +kernel) ha (by decide) (by decide) he
theorem c_intc [Tbs] (hg : Gl X "int") (hm : X.mg "int" = none) (ha : PA X [e] (tA X.K g)) (he : starEach [e] X.env = (false, eval e X.env) :: starEach [] X.env := by rfl) : PE X (.Call (.Name "int" p) [e] [] pos) (tE X.K (EC fInt g)) := c_ct o_int s_intc hg hm (by decide +kernel) ha (by decide) (by decide) he
theorem c_len [Tbs] (hg : Gl X "len") (hm : X.mg "len" = none) (ha : PA X [e] (tA X.K g)) (he : starEach [e] X.env = (false, eval e X.env) :: starEach [] X.env := by rfl) : PE X (.Call (.Name "len" p) [e] [] pos) (tE X.K (EC fLen g)) := c_cb o_len s_len hg hm (by decide +kernel) ha (by decide) (by decide) he
theorem c_ord [Tbs] (hg : Gl X "ord") (hm : X.mg "ord" = none) (ha : PA X [e] (tA X.K g)) (he : starEach [e] X.env = (false, eval e X.env) :: starEach [] X.env := by rfl) : PE X (.Call (.Name "ord" p) [e] [] pos) (tE X.K (EC fOrd g)) := c_cb call_ord s_ord hg hm (by decide +kernel) ha (by decide) (by decide) he
theorem c_isi [Tbs] {e2 : Expr} (hg : Gl X "isinstance") (hm : X.mg "isinstance" = none) (ha : PA X [e, e2] (tA X.K g)) (he : starEach [e, e2] X.env = (false, eval e X.env) :: starEach [e2] X.env := by rfl) (hpl : (backTo pos (starEach [e2] X.env)).any (·.1) = false := by rfl) :
    PE X (.Call (.Name "isinstance" p) [e, e2] [] pos) (tE X.K (EC fIsi g)) := c_cb call_isi s_isi hg hm (by decide +kernel) ha (by decide) (by decide) he hpl
end

/-! ### methods of built-in types -/
abbrev FM := D → List D → Sto → Option (D × Sto)
def tyOk (st : Sto) (T : String) (d : D) : Prop := (T = "str" ∧ ∃ s, d = .str s) ∨ (T = "list" ∧ ∃ ds, sqD st d = some ds)
def EM (T : String) (f : FM) (fo : FE) (g : FA) : FE := fun env st => (fo env st).bind fun p => match p.1 with
  | .str s => if T = "str" then (g env p.2).bind fun q => f (.str s) q.1 q.2 else none
  | d => if T = "list" then (sqD p.2 d).bind fun _ => (g env p.2).bind fun q => f d q.1 q.2 else none
def MtS [Tbs] (K : Frag) (r : V → List V → Hp → VK → Prop) (f : FM) : Prop := ∀ θ G H st x d vs ds z st' Q, Sim K θ G H st → Rep K θ G x d → Reps K θ G vs ds → f d ds st = some (z, st') → PostE K θ G H st' z Q → r x vs H Q
section
variable {X : Cx} {o e : Expr} {es : List Expr} {fo : FE} {g : FA} {name : PySem.Str} {apos cpos : Pos} {T id : String} {r : V → List V → Hp → VK → Prop} {f : FM}
theorem EM.inv {env : Env} {st : Sto} {z : D} {st' : Sto} (h : EM T f fo g env st = some (z, st')) : ∃ d st1, fo env st = some (d, st1) ∧ tyOk st1 T d ∧ ∃ q, g env st1 = some q ∧ f d q.1 q.2 = some (z, st') := by
  obtain ⟨⟨d, st1⟩, h1, h2⟩ := Option.bind_eq_some_iff.mp h
  dsimp only at h2
  split at h2
  · split at h2
    · rename_i ht
      obtain ⟨q, h3, h4⟩ := Option.bind_eq_some_iff.mp h2
      exact ⟨_, st1, h1, .inl ⟨ht, _, rfl⟩, q, h3, h4⟩
    · cases h2
  · split at h2
    · rename_i ht
      obtain ⟨ds, h5, h2⟩ := Option.bind_eq_some_iff.mp h2
      obtain ⟨q, h3, h4⟩ := Option.bind_eq_some_iff.mp h2
      exact ⟨_, st1, h1, .inr ⟨ht, ds, h5⟩, q, h3, h4⟩
    · cases h2
theorem tyOk.v [Tbs] {K : Frag} {θ : List Addr} {G H : Hp} {st : Sto} {v : V} {d : D} (S : Sim K θ G H st) (r : Rep K θ G v d) (h : tyOk st T d) : tyV K T v H := by
  rcases h with ⟨rfl, s, rfl⟩ | ⟨rfl, ds, h⟩
  · cases r; rfl
  · obtain ⟨a, vs, rfl, h1, h2⟩ := sqD.ok S r h
    exact .inl ⟨rfl, vs, h1⟩
theorem goM [Tbs] (hs : MtS X.K r f) {σ : L2.St} {H : Hp} {Q : VK} (h : tE X.K (EM T f fo g) σ H Q) : tBM X.K T r (tE X.K fo) (tA X.K g) σ H Q := by
  obtain ⟨θ, G, env, st, d, st', S, EN, hf, post⟩ := h
  obtain ⟨d, st1, h1, ht, q, h2, h3⟩ := EM.inv hf
  refine tE.go S EN h1 fun θ1 G1 H1 v1 e1 S1 EN1 r1 => ⟨ht.v S1 r1, ?_⟩
  refine tA.go S1 EN1 h2 fun θ2 G2 H2 v2 e2 S2 EN2 r2 => ?_
  exact hs _ _ _ _ _ _ _ _ _ _ _ S2 (r1.ext e2) r2 h3 fun θ' G' H' v e s r => post _ _ _ _ ((e1.trans S1 e2).trans S2 e) s r
theorem c_bm [Tbs] (pa : PlainAttrs T) (slot : Slot T name id) (hty : typeOf (.builtin id) = pure (.type "method_descriptor")) (hm : MtR X id r) (hs : MtS X.K r f) (ho : PE X o (tE X.K fo)) (ha : PA X (e :: es) (tA X.K g))
    (hbase : attributeBase o name X.env (eval o X.env) = eval o X.env := by rfl)
    (hfew : ((backTo cpos (starEach (e :: es) X.env)).all (fun x => !x.1) && (backToKw cpos (keywordEach [] X.env)).all (fun x => x.1.isSome)
      && decide ((e :: es).length + ([] : List Keyword).length + (if ([] : List Keyword).isEmpty then 0 else 1) < 30)) = true := by rfl)
    (hline : (apos.endLine == cpos.line) = true := by rfl) (hse : starEach (e :: es) X.env = (false, eval e X.env) :: starEach es X.env := by rfl) (hplain : (backTo cpos (starEach es X.env)).any (·.1) = false := by rfl) :
    PE X (.Call (.Attribute o name apos) (e :: es) [] cpos) (tE X.K (EM T f fo g)) :=
  peImp (pe_bm pa slot hty hm ho ha hbase hfew hline hse hplain) fun _ _ _ h => goM hs h
end
section
variable {K : Frag}
def mFind : FM := fun d ds st => match d, ds with
  | .str a, [.str b] => some (.int (Txt.find a b), st)
  | _, _ => none
theorem s_find [Tbs] : MtS K (fun x xs H Q => ∃ a b, x = .str a ∧ xs = [.str b] ∧ Q (.int (Txt.find a b)) H) mFind := by
  intro θ G H st x d vs ds z st' Q S rx r h post
  unfold mFind at h
  split at h
  · cases h; cases rx
    cases r with
    | cons r1 r2 => cases r1; cases r2; exact ⟨_, _, rfl, rfl, post.same S (.int _)⟩
  · cases h
def mApp : FM := fun d ds st => match d, ds with
  | .ref n, [y] => match st[n]? with
    | some (.lst es) => if es.length < 16777216 then some (.non, st.set n (.lst (es ++ [y]))) else none
    | _ => none
  | _, _ => none
theorem s_app [Tbs] : MtS K rAppend mApp := by
  intro θ G H st x d vs ds z st' Q S rx r h post
  unfold mApp at h
  split at h
  · split at h
    · rename_i es he
      split at h
      · rename_i hl
        cases h
        cases rx with
        | ref h1 =>
          obtain ⟨o, h2, h3⟩ := S.at h1
          rw [he] at h2
          cases h2
          obtain ⟨ws, h4, h5⟩ := h3
          cases r with
          | cons r1 r2 =>
            cases r2
            exact ⟨_, ws, _, rfl, rfl, h4, by rw [h5.len]; exact szlt hl, post _ _ _ _ (Ext.set S h1 _) (S.set h1 (h5.append (.cons r1 .nil))) .non⟩
      · cases h
    · cases h
  · cases h
end

/-! ## statements -/
inductive Fl where
  | nx (env : Env) | rt (d : D) | bk (env : Env) | ct (env : Env)
abbrev FS := Env → Sto → Option (Fl × Sto)
def FlP (K : Frag) (E : Ends) (θ : List Addr) (G H : Hp) : Fl → Prop
  | .nx env => ∀ σ, EnvR K θ G σ env → E.nx σ H
  | .rt d => ∀ v, Rep K θ G v d → E.rt v H
  | .bk env => ∀ σ, EnvR K θ G σ env → E.bk σ H
  | .ct env => ∀ σ, EnvR K θ G σ env → E.ct σ H
def tS [Tbs] (K : Frag) (f : FS) : TS := fun E σ H => ∃ θ G env st fl st', Sim K θ G H st ∧ EnvR K θ G σ env ∧ f env st = some (fl, st') ∧
  ∀ θ' G' H', Ext θ θ' G G' H H' → Sim K θ' G' H' st' → FlP K E θ' G' H' fl
theorem tS.go [Tbs] {K : Frag} {θ : List Addr} {G H : Hp} {st st1 : Sto} {σ : L2.St} {env : Env} {fl : Fl} {f : FS} {E : Ends} (S : Sim K θ G H st) (EN : EnvR K θ G σ env) (hf : f env st = some (fl, st1))
    (k : ∀ θ1 G1 H1, Ext θ θ1 G G1 H H1 → Sim K θ1 G1 H1 st1 → FlP K E θ1 G1 H1 fl) : tS K f E σ H := ⟨θ, G, env, st, fl, st1, S, EN, hf, k⟩
def Snil : FS := fun env st => some (.nx env, st)
def Sseq (f g : FS) : FS := fun env st => (f env st).bind fun p => match p.1 with | .nx e => g e p.2 | r => some (r, p.2)
def Sret (f : FE) : FS := fun env st => (f env st).bind fun p => some (.rt p.1, p.2)
def SretN : FS := fun _ st => some (.rt .non, st)
def Sexp (f : FE) : FS := fun env st => (f env st).bind fun p => some (.nx env, p.2)
def Sset (i : Nat) (f : FE) : FS := fun env st => (f env st).bind fun p => some (.nx (env.set i (some p.1)), p.2)
def Sbrk : FS := fun env st => some (.bk env, st)
def Sctn : FS := fun env st => some (.ct env, st)
def Sif (c : FT) (f g : FS) : FS := fun env st => (c env st).bind fun p => if p.1 = true then f env p.2 else g env p.2
/-- xs[i] = v in a list of the store -/
def setD (o i v : D) (st : Sto) : Option Sto := match o, i with
  | .ref n, .int k => match st[n]? with
    | some (.lst es) => (ixN es.length k).map fun j => st.set n (.lst (es.set j v))
    | _ => none
  | _, _ => none
def SsetIx (fo fi fv : FE) : FS := fun env st => (fv env st).bind fun p => (fo env p.2).bind fun q => (fi env q.2).bind fun r => (setD q.1 r.1 p.1 r.2).map fun st' => (.nx env, st')
def Saug (f : F2) (i : Nat) (fe : FE) : FS := fun env st => match env[i]? with
  | some (some x) => (fe env st).bind fun p => (f x p.1 p.2).bind fun q => some (.nx (env.set i (some q.1)), q.2)
  | _ => none
def SaugIx (f : F2) (fo fi fe : FE) : FS := fun env st => (fo env st).bind fun p => (fi env p.2).bind fun q => (ixD p.1 q.1 q.2).bind fun r => (fe env r.2).bind fun u => (f r.1 u.1 u.2).bind fun w =>
  (setD p.1 q.1 w.1 w.2).map fun st' => (.nx env, st')
theorem FlP.of_seq {K : Frag} {E : Ends} {θ : List Addr} {G H : Hp} {fl : Fl} {t : L2.St → Hp → Prop} (hn : ∀ env, fl = .nx env → ∀ σ, EnvR K θ G σ env → t σ H) (hr : (∀ env, fl ≠ .nx env) → FlP K E θ G H fl) : FlP K { E with nx := t } θ G H fl := by
  cases fl with
  | nx env => exact hn env rfl
  | rt d => exact hr (fun _ h => nomatch h)
  | bk env => exact hr (fun _ h => nomatch h)
  | ct env => exact hr (fun _ h => nomatch h)
section
variable {X : Cx} {s : Stmt} {rest : List Stmt} {e : Expr} {fe : FE} {f g : FS} {pos : Pos}
theorem k_nil [Tbs] : PSs X [] (tS X.K Snil) := pssImp pss_nil fun E σ H ⟨θ, G, env, st, d, st', S, EN, hf, post⟩ => by
  cases hf
  exact post _ _ _ .refl S σ EN
theorem k_one [Tbs] (h : PS X s (tS X.K f)) : PSs X [s] (tS X.K f) := pss_one h
theorem k_cons [Tbs] (h : PS X s (tS X.K f)) (hr : PSs X rest (tS X.K g)) : PSs X (s :: rest) (tS X.K (Sseq f g)) :=
  pssImp (pss_cons h hr) fun E σ H ⟨θ, G, env, st, d, st', S, EN, hf, post⟩ => by
    obtain ⟨⟨fl, st1⟩, h1, h2⟩ := Option.bind_eq_some_iff.mp hf
    refine tS.go S EN h1 fun θ1 G1 H1 e1 S1 => FlP.of_seq (fun env1 he σ1 EN1 => ?_) fun hn => ?_
    · subst he
      exact tS.go S1 EN1 h2 fun θ2 G2 H2 e2 S2 => post _ _ _ (e1.trans S1 e2) S2
    · cases fl with
      | nx env1 => exact absurd rfl (hn env1)
      | rt _ => cases h2; exact post _ _ _ e1 S1
      | bk _ => cases h2; exact post _ _ _ e1 S1
      | ct _ => cases h2; exact post _ _ _ e1 S1
theorem k_pass [Tbs] : PS X (.Pass pos) (tS X.K Snil) := psImp ps_pass fun E σ H ⟨θ, G, env, st, d, st', S, EN, hf, post⟩ => by
  cases hf
  exact post _ _ _ .refl S σ EN
theorem k_brk [Tbs] : PS X (.Break pos) (tS X.K Sbrk) := psImp ps_break fun E σ H ⟨θ, G, env, st, d, st', S, EN, hf, post⟩ => by
  cases hf
  exact post _ _ _ .refl S σ EN
theorem k_ctn [Tbs] : PS X (.Continue pos) (tS X.K Sctn) := psImp ps_continue fun E σ H ⟨θ, G, env, st, d, st', S, EN, hf, post⟩ => by
  cases hf
  exact post _ _ _ .refl S σ EN
theorem k_retN [Tbs] : PS X (.Return none pos) (tS X.K SretN) := psImp ps_retN fun E σ H ⟨θ, G, env, st, d, st', S, EN, hf, post⟩ => by
  cases hf
  exact post _ _ _ .refl S .non .non
theorem k_ret [Tbs] (h : PE X e (tE X.K fe)) : PS X (.Return (some e) pos) (tS X.K (Sret fe)) := psImp (ps_ret h) fun E σ H ⟨θ, G, env, st, d, st', S, EN, hf, post⟩ => by
  obtain ⟨⟨x, st1⟩, h1, h2⟩ := Option.bind_eq_some_iff.mp hf
  cases h2
  exact tE.go S EN h1 fun θ1 G1 H1 v1 e1 S1 EN1 r1 => post _ _ _ e1 S1 v1 r1
theorem k_exp [Tbs] (h : PE X e (tE X.K fe)) (hs : swapsWith e none pos.line X.env = pure false := by rfl) : PS X (.Expr e pos) (tS X.K (Sexp fe)) := psImp (ps_expr h hs) fun E σ H ⟨θ, G, env, st, d, st', S, EN, hf, post⟩ => by
  obtain ⟨⟨x, st1⟩, h1, h2⟩ := Option.bind_eq_some_iff.mp hf
  cases h2
  exact tE.go S EN h1 fun θ1 G1 H1 v1 e1 S1 EN1 r1 => post _ _ _ e1 S1 σ EN1
theorem k_set [Tbs] {i : Nat} {x : PySem.Str} {pos' : Pos} (hN : X.N.Nodup) (h : PE X e (tE X.K fe)) (hi : X.N[i]? = some x := by rfl) (hx : Loc X.env.scope x := by first | exact Or.inl rfl | exact Or.inr rfl) (hs : swapsWith e (some (.Name x pos')) pos.line X.env = pure false := by rfl)
    (hf : X.fn x = true ∨ X.env.scope.names.lookup x = some .local := by first | exact .inl rfl | exact .inr rfl) : PS X (.Assign [.Name x pos'] e pos) (tS X.K (Sset i fe)) :=
  psImp (ps_set hN hi hx h hs hf) fun E σ H ⟨θ, G, env, st, d, st', S, EN, hf, post⟩ => by
    obtain ⟨⟨x, st1⟩, h1, h2⟩ := Option.bind_eq_some_iff.mp hf
    cases h2
    exact tE.go S EN h1 fun θ1 G1 H1 v1 e1 S1 EN1 r1 => post _ _ _ e1 S1 _ (EN1.set r1 i)
theorem k_if [Tbs] {c : Expr} {a b : List Stmt} {gc : FT} (hc : PT X c (tT X.K gc)) (ha : PSs X a (tS X.K f)) (hb : PSs X b (tS X.K g)) : PS X (.If c a b pos) (tS X.K (Sif gc f g)) :=
  psImp (ps_if hc ha hb) fun E σ H ⟨θ, G, env, st, d, st', S, EN, hf, post⟩ => by
    obtain ⟨⟨x, st1⟩, h1, h2⟩ := Option.bind_eq_some_iff.mp hf
    refine tT.go S EN h1 fun θ1 G1 H1 e1 S1 EN1 => ?_
    cases x with
    | true =>
      rw [if_pos rfl] at h2 ⊢
      exact tS.go S1 EN1 h2 fun θ2 G2 H2 e2 S2 => post _ _ _ (e1.trans S1 e2) S2
    | false =>
      rw [if_neg Bool.false_ne_true] at h2 ⊢
      exact tS.go S1 EN1 h2 fun θ2 G2 H2 e2 S2 => post _ _ _ (e1.trans S1 e2) S2
theorem goSet [Tbs] {K : Frag} {θ : List Addr} {G H : Hp} {st st' : Sto} {o i v : D} {ov iv vv : V} {Q : Hp → Prop} (S : Sim K θ G H st) (ro : Rep K θ G ov o) (ri : Rep K θ G iv i) (rv : Rep K θ G vv v) (h : setD o i v st = some st')
    (k : ∀ H', Ext θ θ G G H H' → Sim K θ G H' st' → Q H') : rSetL ov iv vv H Q := by
  unfold setD at h
  split at h
  · split at h
    · rename_i es he
      obtain ⟨j, h1, h2⟩ := Option.map_eq_some_iff.mp h
      cases h2
      cases ri
      cases ro with
      | ref h3 =>
        obtain ⟨ob, h4, h5⟩ := S.at h3
        rw [he] at h4
        cases h4
        obtain ⟨ws, h6, h7⟩ := h5
        exact ⟨_, ws, _, j, rfl, rfl, h6, by rw [h7.len]; exact h1, k _ (Ext.set S h3 _) (S.set h3 (h7.set rv j))⟩
    · cases h
  · cases h
theorem k_setIx [Tbs] {o i : Expr} {fo fi : FE} {tpos : Pos} (h : PE X e (tE X.K fe)) (ho : PE X o (tE X.K fo)) (hi : PE X i (tE X.K fi))
    (ha : ∀ v, assign (.Subscript o i tpos) X.env v = (do
      let ov ← holding [v] (eval o X.env)
      let iv ← holding [v, ov] (eval i X.env)
      standAt tpos
      holding [v, ov, iv] (setItem ov iv v)
      release [v, ov, iv] []) := by intro _; rfl)
    (hs : swapsWithSole [.Subscript o i tpos] e pos.line X.env = pure false := by rfl) (hw : swappedStores [.Subscript o i tpos] e X.env = pure none := by rfl)
    (h1 : (assignEach [.Subscript o i tpos] X.env).map (·.2) = [assign (.Subscript o i tpos) X.env] := by rfl) : PS X (.Assign [.Subscript o i tpos] e pos) (tS X.K (SsetIx fo fi fe)) :=
  psImp (ps_asg h (pg_sub ho hi set_list ha) hs hw h1) fun E σ H ⟨θ, G, env, st, d, st', S, EN, hf, post⟩ => by
    obtain ⟨⟨x, st1⟩, h1, h2⟩ := Option.bind_eq_some_iff.mp hf
    obtain ⟨⟨y, st2⟩, h3, h4⟩ := Option.bind_eq_some_iff.mp h2
    obtain ⟨⟨z, st3⟩, h5, h6⟩ := Option.bind_eq_some_iff.mp h4
    obtain ⟨st4, h7, h8⟩ := Option.map_eq_some_iff.mp h6
    cases h8
    refine tE.go S EN h1 fun θ1 G1 H1 v1 e1 S1 EN1 r1 => tE.go S1 EN1 h3 fun θ2 G2 H2 v2 e2 S2 EN2 r2 => tE.go S2 EN2 h5 fun θ3 G3 H3 v3 e3 S3 EN3 r3 => ?_
    exact goSet S3 (r2.ext e3) r3 ((r1.ext e2).ext e3) h7 fun H' e4 S4 => post _ _ _ (((e1.trans S1 e2).trans S2 e3).trans S3 e4) S4 σ EN3
end
/-! op= -/
theorem pget {X : Cx} : PGet X (rIxL X.K) := by
  intro pins s σ H o i ov iv Q I ro ri h
  obtain ⟨p, xs, k, z, rfl, rfl, hq, he, q⟩ := h
  cases ro
  obtain ⟨t, rfl⟩ := ri
  obtain ⟨its, r, pl, hz⟩ := I.list hq
  obtain ⟨j, h1, h2, h3, h4, h5⟩ := atI_get he
  obtain ⟨w, ew, rw'⟩ := r.get h2
  have hl := r.length
  have hn := line63
  have fin : EP X pins σ Q w s := ⟨z, H, I, rw', q⟩
  by_cases h0 : 0 ≤ k
  · have hj : k.toNat = j := by rw [seqIndex_of h0 h5] at h1; exact Option.some.inj h1
    exact wpAny_getItem_list pl.isList h0 (by omega) (by rw [hj]; simpa using ew) fin
  · have hj : (k + (its.toArray.size : Int)).toNat = j := by
      rw [seqIndex_neg (by omega) h4] at h1
      rw [List.size_toArray, ← hl]
      exact Option.some.inj h1
    exact wpAny_getItem_list_neg pl.isList (by omega) (by rw [List.size_toArray] <;> omega) (by omega) (by rw [hj]; simpa using ew) fin
def Ip [Tbs] (K : Frag) (t : TIp) (f : F2) : Prop := ∀ θ G H st x y d e z st' Q, Sim K θ G H st → Rep K θ G x d → Rep K θ G y e → f d e st = some (z, st') → PostE K θ G H st' z Q → t x y H Q
def iaddI : F2 := fun x y st => match x, y with | .int i, .int j => some (.int (i + j), st) | _, _ => none
theorem s_iaddI [Tbs] {K : Frag} : Ip K (ipI fun i j => i + j) iaddI := by
  intro θ G H st x y d e z st' Q S rx ry h post
  unfold iaddI at h
  split at h
  · cases h; cases rx; cases ry
    exact ⟨_, _, rfl, rfl, post.same S (.int _)⟩
  · cases h
theorem s_isubI [Tbs] {K : Frag} : Ip K (ipI fun i j => i - j) subD := by
  intro θ G H st x y d e z st' Q S rx ry h post
  unfold subD at h
  split at h
  · cases h; cases rx; cases ry
    exact ⟨_, _, rfl, rfl, post.same S (.int _)⟩
  · cases h
section
variable {X : Cx} {e o i : Expr} {fe fo fi : FE} {pos : Pos} {op : Operator} {t : TIp} {f : F2}
theorem k_aug [Tbs] {j : Nat} {x : PySem.Str} {pos' : Pos} (hN : X.N.Nodup) (hp : PIp X op t) (hs : Ip X.K t f) (h : PE X e (tE X.K fe)) (hi : X.N[j]? = some x := by rfl) (hx : Loc X.env.scope x := by first | exact Or.inl rfl | exact Or.inr rfl)
    (hf : X.fn x = true ∨ X.env.scope.names.lookup x = some .local := by first | exact .inl rfl | exact .inr rfl) : PS X (.AugAssign (.Name x pos') op e pos) (tS X.K (Saug f j fe)) :=
  psImp (ps_aug hN hi hx h hp hf) fun E σ H ⟨θ, G, env, st, d, st', S, EN, hf, post⟩ => by
    unfold Saug at hf
    split at hf
    · rename_i x0 hx0
      obtain ⟨⟨y, st1⟩, h1, h2⟩ := Option.bind_eq_some_iff.mp hf
      obtain ⟨⟨z, st2⟩, h3, h4⟩ := Option.bind_eq_some_iff.mp h2
      cases h4
      obtain ⟨v0, hv0, r0⟩ := EN.2 _ _ hx0
      refine ⟨v0, hv0, tE.go S EN h1 fun θ1 G1 H1 v1 e1 S1 EN1 r1 => ?_⟩
      exact hs _ _ _ _ _ _ _ _ _ _ _ S1 (r0.ext e1) r1 h3 fun θ2 G2 H2 v2 e2 S2 r2 => post _ _ _ (e1.trans S1 e2) S2 _ ((EN1.ext e2).set r2 j)
    · cases hf
theorem k_augIx [Tbs] {tpos : Pos} (hp : PIp X op t) (hs : Ip X.K t f) (ho : PE X o (tE X.K fo)) (hi : PE X i (tE X.K fi)) (he : PE X e (tE X.K fe))
    (ha : ∀ ov iv new, augStore i ov iv new = (do holding [new, ov, iv] (setItem ov iv new); release [new, ov, iv] []; pure .next) := by intros; rfl) : PS X (.AugAssign (.Subscript o i tpos) op e pos) (tS X.K (SaugIx f fo fi fe)) :=
  psImp (ps_augS ho hi pget he hp set_list ha) fun E σ H ⟨θ, G, env, st, d, st', S, EN, hf, post⟩ => by
    obtain ⟨⟨x, st1⟩, h1, h2⟩ := Option.bind_eq_some_iff.mp hf
    obtain ⟨⟨y, st2⟩, h3, h4⟩ := Option.bind_eq_some_iff.mp h2
    obtain ⟨⟨z, st3⟩, h5, h6⟩ := Option.bind_eq_some_iff.mp h4
    obtain ⟨⟨u, st4⟩, h7, h8⟩ := Option.bind_eq_some_iff.mp h6
    obtain ⟨⟨w, st5⟩, h9, h10⟩ := Option.bind_eq_some_iff.mp h8
    obtain ⟨st6, h11, h12⟩ := Option.map_eq_some_iff.mp h10
    cases h12
    dsimp only at h3 h5 h7 h9 h11
    refine tE.go S EN h1 fun θ1 G1 H1 v1 e1 S1 EN1 r1 => tE.go S1 EN1 h3 fun θ2 G2 H2 v2 e2 S2 EN2 r2 => ?_
    have r1' := r1.ext e2
    -- the old item
    have hx : ∃ n, x = .ref n := by
      unfold setD at h11
      split at h11
      · exact ⟨_, rfl⟩
      · cases h11
    obtain ⟨n, rfl⟩ := hx
    have hy : ∃ k, y = .int k := by
      unfold setD at h11
      split at h11
      · exact ⟨_, rfl⟩
      · cases h11
    obtain ⟨k, rfl⟩ := hy
    cases r2
    simp only [ixD] at h5
    split at h5
    · rename_i ds hq
      obtain ⟨d', h13, h14⟩ := Option.map_eq_some_iff.mp h5
      cases h14
      obtain ⟨a, vs, rfl, h15, h16⟩ := sqD.ok S2 r1' hq
      obtain ⟨v, h17, h18⟩ := at_rep h16 h13
      refine ⟨a, vs, k, v, rfl, rfl, h15, h17, ?_⟩
      refine tE.go S2 EN2 h7 fun θ4 G4 H4 v4 e4 S4 EN4 r4 => ?_
      refine hs _ _ _ _ _ _ _ _ _ _ _ S4 (h18.ext e4) r4 h9 fun θ5 G5 H5 v5 e5 S5 r5 => ?_
      exact goSet S5 ((r1'.ext e4).ext e5) (.int k) r5 h11 fun H' e6 S6 => post _ _ _ ((((e1.trans S1 e2).trans S2 e4).trans S4 e5).trans S5 e6) S6 σ (EN4.ext e5)
    · cases h5
end

/-! ### targets -/
inductive Tg where
  | nm (i : Nat) | tp (ts : List Tg)
mutual
def bindT : Tg → D → Env → Option Env
  | .nm i, d, env => some (env.set i (some d))
  | .tp ts, .tup ds, env => bindTs ts ds env
  | .tp _, _, _ => none
def bindTs : List Tg → List D → Env → Option Env
  | [], [], env => some env
  | t :: ts, d :: ds, env => (bindT t d env).bind fun e => bindTs ts ds e
  | _, _, _ => none
end
mutual
def Tg.slots : Tg → List Nat
  | .nm i => [i]
  | .tp ts => Tg.slotss ts
def Tg.slotss : List Tg → List Nat
  | [] => []
  | t :: ts => t.slots ++ Tg.slotss ts
end
def offSlots (is : List Nat) (σ σ' : L2.St) : Prop := σ'.length = σ.length ∧ ∀ j, j ∉ is → σ'[j]? = σ[j]?
def tG [Tbs] (K : Frag) (t : Tg) : TG := fun v σ H Q => ∃ θ G st env d env', Sim K θ G H st ∧ EnvR K θ G σ env ∧ Rep K θ G v d ∧ bindT t d env = some env' ∧ ∀ σ', EnvR K θ G σ' env' → offSlots t.slots σ σ' → Q σ' H
def tGs [Tbs] (K : Frag) (ts : List Tg) : TGs := fun vs σ H Q => ∃ θ G st env ds env', Sim K θ G H st ∧ EnvR K θ G σ env ∧ Reps K θ G vs ds ∧ bindTs ts ds env = some env' ∧ ∀ σ', EnvR K θ G σ' env' → offSlots (Tg.slotss ts) σ σ' → Q σ' H
section
variable {X : Cx} {pos : Pos}
theorem pgImp {tg : Expr} {t t' : TG} (h : PG X tg t) (i : ∀ v σ H Q, t' v σ H Q → t v σ H Q) : PG X tg t' := ⟨fun pins s σ H v u Q I r q => h.run pins s σ H v u Q I r (i _ _ _ _ q)⟩
theorem pgsImp {tg : List Expr} {t t' : TGs} (h : PGs X tg t) (i : ∀ v σ H Q, t' v σ H Q → t v σ H Q) : PGs X tg t' := ⟨fun pins s σ H v u Q I r q => h.run pins s σ H v u Q I r (i _ _ _ _ q)⟩
theorem g_nm [Tbs] {i : Nat} {x : PySem.Str} (hN : X.N.Nodup) (hi : X.N[i]? = some x := by rfl) (hx : Loc X.env.scope x := by first | exact Or.inl rfl | exact Or.inr rfl) (hf : X.fn x = true ∨ X.env.scope.names.lookup x = some .local := by first | exact .inl rfl | exact .inr rfl) : PG X (.Name x pos) (tG X.K (.nm i)) :=
  pgImp (pg_name hN hi hx hf) fun v σ H Q ⟨θ, G, st, env, d, env', S, EN, r, hb, k⟩ => by
    cases hb
    exact k _ (EN.set r i) ⟨by simp, fun j hj => List.getElem?_set_ne (fun e => hj (by simp [Tg.slots, e]))⟩
theorem g_nil [Tbs] : PGs X [] (tGs X.K []) := pgsImp pgs_nil fun v σ H Q ⟨θ, G, st, env, ds, env', S, EN, r, hb, k⟩ => by
  cases r with
  | nil => cases hb; exact ⟨rfl, k σ EN ⟨rfl, fun _ _ => rfl⟩⟩
  | cons _ _ => simp [bindTs] at hb
theorem g_cons [Tbs] {e : Expr} {es : List Expr} {t : Tg} {ts : List Tg} (h1 : PG X e (tG X.K t)) (h2 : PGs X es (tGs X.K ts))
    (hs : (assignEach (e :: es) X.env).map (·.2) = assign e X.env :: (assignEach es X.env).map (·.2) := by rfl) : PGs X (e :: es) (tGs X.K (t :: ts)) :=
  pgsImp (pgs_cons h1 h2 hs) fun v σ H Q ⟨θ, G, st, env, ds, env', S, EN, r, hb, k⟩ => by
    cases r with
    | nil => simp [bindTs] at hb
    | cons r1 r2 =>
      obtain ⟨env1, h1, h2⟩ := Option.bind_eq_some_iff.mp (show ((bindT _ _ env).bind fun e => bindTs _ _ e) = some env' from hb)
      refine ⟨_, _, rfl, θ, G, st, env, _, env1, S, EN, r1, h1, fun σ1 EN1 o1 => ⟨θ, G, st, env1, _, env', S, EN1, r2, h2, fun σ2 EN2 o2 => k σ2 EN2 ⟨o2.1.trans o1.1, fun j hj => ?_⟩⟩⟩
      have hj2 : j ∉ t.slots ∧ j ∉ Tg.slotss ts := by simpa [Tg.slotss] using hj
      exact (o2.2 j hj2.2).trans (o1.2 j hj2.1)
theorem g_tp [Tbs] {es : List Expr} {k : Nat} {ts : List Tg} (h : PGs X es (tGs X.K ts)) (hc : X.calm = true := by rfl) (hn : (assignEach es X.env).length = ts.length := by rfl) (hst : (assignEach es X.env).findIdx? (·.1) = none := by rfl) : PG X (.Tuple es k pos) (tG X.K (.tp ts)) :=
  pgImp (pg_tup (n := ts.length) hc h hn hst) fun v σ H Q ⟨θ, G, st, env, d, env', S, EN, r, hb, kk⟩ => by
    have hlen : ∀ (ts : List Tg) (ds : List D) (e e' : Env), bindTs ts ds e = some e' → ds.length = ts.length := by
      intro ts
      induction ts with
      | nil =>
        intro ds e e' h
        cases ds with
        | nil => rfl
        | cons _ _ => simp [bindTs] at h
      | cons t ts ih =>
        intro ds e e' h
        cases ds with
        | nil => simp [bindTs] at h
        | cons x ds =>
          obtain ⟨e1, h1, h2⟩ := Option.bind_eq_some_iff.mp (show ((bindT _ _ e).bind fun e => bindTs _ _ e) = some e' from h)
          simp [ih ds e1 e' h2]
    cases r with
    | tup h1 h2 =>
      have hb' : bindTs ts _ env = some env' := hb
      exact ⟨_, _, rfl, S.t h1, by rw [h2.len]; exact hlen _ _ _ _ hb', θ, G, st, env, _, env', S, EN, h2, hb', fun σ' EN' o => kk σ' EN' o⟩
    | _ => cases hb
def Sbind (t : Tg) (f : FE) : FS := fun env st => (f env st).bind fun p => (bindT t p.1 env).map fun e => (.nx e, p.2)
theorem k_bind [Tbs] {tg e : Expr} {fe : FE} {t : Tg} (he : PE X e (tE X.K fe)) (hg : PG X tg (tG X.K t)) (hs : swapsWithSole [tg] e pos.line X.env = pure false := by rfl) (hw : swappedStores [tg] e X.env = pure none := by rfl)
    (h1 : (assignEach [tg] X.env).map (·.2) = [assign tg X.env] := by rfl) : PS X (.Assign [tg] e pos) (tS X.K (Sbind t fe)) :=
  psImp (ps_asg he hg hs hw h1) fun E σ H ⟨θ, G, env, st, d, st', S, EN, hf, post⟩ => by
    obtain ⟨⟨x, st1⟩, h1, h2⟩ := Option.bind_eq_some_iff.mp hf
    obtain ⟨env1, h3, h4⟩ := Option.map_eq_some_iff.mp h2
    cases h4
    exact tE.go S EN h1 fun θ1 G1 H1 v1 e1 S1 EN1 r1 => ⟨θ1, G1, st1, env, x, env1, S1, EN1, r1, h3, fun σ' EN' _ => post _ _ _ e1 S1 σ' EN'⟩
end

/-! ### what a for walks -/
abbrev Watch := List (Nat × List D)
def watchOk (w : Watch) (st : Sto) : Prop := ∀ p, p ∈ w → st[p.1]? = some (.lst p.2)
noncomputable instance watchDec {w : Watch} {st : Sto} : Decidable (watchOk w st) := Classical.propDecidable _
abbrev FI := Env → Sto → Option (List D × Watch × Sto)
def WkD [Tbs] (K : Frag) (J : It) (θ0 : List Addr) (G0 : Hp) (items : List D) (w : Watch) : Prop := ∃ (Gd : Hp → Prop) (Y : Nat → Hp → V → Hp → Prop), Walk J items.length Gd Y ∧
  (∀ θ G H st, (∃ l, θ = θ0 ++ l) → Gle G0 G → Sim K θ G H st → watchOk w st → Gd H) ∧
  (∀ i x H H' θ G st, i < items.length → (∃ l, θ = θ0 ++ l) → Gle G0 G → Sim K θ G H st → watchOk w st → Y i H x H' → ∃ G', Ext θ θ G G' H H' ∧ Sim K θ G' H' st ∧ ∃ d, items[i]? = some d ∧ Rep K θ G' x d)
def tI [Tbs] (K : Frag) (f : FI) : TI := fun σ H R => ∃ θ G env st items w st', Sim K θ G H st ∧ EnvR K θ G σ env ∧ f env st = some (items, w, st') ∧
  ∀ θ' G' H' J, Ext θ θ' G G' H H' → Sim K θ' G' H' st' → WkD K J θ' G' items w → R J H'
theorem piImp {X : Cx} {tg e : Expr} {t t' : TI} (h : PI X tg e t) (i : ∀ σ H Q, t' σ H Q → t σ H Q) : PI X tg e t' := ⟨fun pins s σ H Q I q => h.run pins s σ H Q I (i _ _ _ q)⟩
theorem piOr {X : Cx} {tg e : Expr} {t t' : TI} (h : PI X tg e t) (h' : PI X tg e t') : PI X tg e (fun σ H R => t σ H R ∨ t' σ H R) := ⟨fun pins s σ H Q I q => by
  rcases q with q | q
  · exact h.run pins s σ H Q I q
  · exact h'.run pins s σ H Q I q⟩
noncomputable def forL (w : Watch) (t : Tg) (body : FS) : List D → Env → Sto → Option (Fl × Sto)
  | [], env, st => if watchOk w st then some (.nx env, st) else none
  | x :: r, env, st => if watchOk w st then (bindT t x env).bind fun e1 => (body e1 st).bind fun p => match p.1 with
    | .nx e => forL w t body r e p.2
    | .ct e => forL w t body r e p.2
    | .bk e => some (.nx e, p.2)
    | .rt d => some (.rt d, p.2) else none
noncomputable def Sfor (fi : FI) (t : Tg) (body : FS) : FS := fun env st => (fi env st).bind fun p => forL p.2.1 t body p.1 env p.2.2
theorem forL.watch {w : Watch} {t : Tg} {body : FS} {xs : List D} {env : Env} {st : Sto} {r : Fl × Sto} (h : forL w t body xs env st = some r) : watchOk w st := by
  cases xs with
  | nil =>
    unfold forL at h
    split at h
    · assumption
    · cases h
  | cons x xs =>
    unfold forL at h
    split at h
    · assumption
    · cases h
theorem k_for [Tbs] {X : Cx} {tg iter : Expr} {b : List Stmt} {pos : Pos} {fi : FI} {t : Tg} {fb : FS} (hp : PassesOwn (model X.prog X.w) X.A X.env X.xe) (hc : X.calm = true) (hi : PI X tg iter (tI X.K fi)) (hg : PG X tg (tG X.K t)) (hb : PSs X b (tS X.K fb))
    (hs : ∀ x, foldedSetIterable iter X.env x = pure x := by intro _; rfl) : PS X (.For tg iter b [] pos) (tS X.K (Sfor fi t fb)) :=
  psImp (ps_for hp hc hi hg hb hs) fun E σ H ⟨θ, G, env, st, fl, st', S, EN, hf, post⟩ => by
    obtain ⟨⟨items, w, st1⟩, h1, h2⟩ := Option.bind_eq_some_iff.mp hf
    dsimp only at h2
    refine ⟨θ, G, env, st, items, w, st1, S, EN, h1, fun θ1 G1 H1 J e1 S1 ⟨Gd, Y, wk, w1, w2⟩ => ?_⟩
    refine for_it wk (fun i σ' H' => ∃ θ' G' env' st2, Ext θ1 θ' G1 G' H1 H' ∧ Sim X.K θ' G' H' st2 ∧ EnvR X.K θ' G' σ' env' ∧ forL w t fb (items.drop i) env' st2 = some (fl, st'))
      ⟨θ1, G1, env, st1, .refl, S1, EN.ext e1, h2⟩ ?_ ?_ ?_
    · rintro i σ' H' _ ⟨θ', G', env', st2, e2, S2, EN2, h3⟩
      exact w1 _ _ _ _ e2.pre e2.im S2 (forL.watch h3)
    · rintro i x σ' H2 H3 hi ⟨θ', G', env', st2, e2, S2, EN2, h3⟩ hY
      obtain ⟨G3, e3, S3, d, hd, rd⟩ := w2 i x H2 H3 θ' G' st2 hi e2.pre e2.im S2 (forL.watch h3) hY
      have hdr : items.drop i = d :: items.drop (i + 1) := by
        have hd' := (List.getElem?_eq_some_iff.mp hd).2
        rw [List.drop_eq_getElem_cons hi, hd']
      rw [hdr] at h3
      unfold forL at h3
      split at h3
      · obtain ⟨env1, h4, h5⟩ := Option.bind_eq_some_iff.mp h3
        obtain ⟨⟨fl1, st3⟩, h6, h7⟩ := Option.bind_eq_some_iff.mp h5
        refine ⟨θ', G3, st2, env', d, env1, S3, EN2.ext e3, rd, h4, fun σ2 EN3 _ => ?_⟩
        refine tS.go S3 EN3 h6 fun θ4 G4 H4 e4 S4 => ?_
        have e14 := (e2.trans S2 e3).trans S3 e4
        cases fl1 with
        | nx e => exact fun σ4 EN4 => ⟨θ4, G4, e, st3, e14, S4, EN4, h7⟩
        | ct e => exact fun σ4 EN4 => ⟨θ4, G4, e, st3, e14, S4, EN4, h7⟩
        | bk e =>
          cases h7
          exact fun σ4 EN4 => post _ _ _ (e1.trans S1 e14) S4 σ4 EN4
        | rt d' =>
          cases h7
          exact fun v r => post _ _ _ (e1.trans S1 e14) S4 v r
      · cases h3
    · rintro σ' H' ⟨θ', G', env', st2, e2, S2, EN2, h3⟩
      rw [List.drop_length] at h3
      unfold forL at h3
      split at h3
      · cases h3
        exact post _ _ _ (e1.trans S1 e2) S2 σ' EN2
      · cases h3

/-! ### sources -/
def watchOf : D → List D → Watch
  | .ref n, ds => [(n, ds)]
  | _, _ => []
def chars (s : PySem.Str) : List D := s.cps.toList.map fun c => .str ⟨#[c]⟩
def Iseq (f : FE) : FI := fun env st => (f env st).bind fun p => match p.1 with
  | .tup ds => some (ds, [], p.2)
  | .str s => some (chars s, [], p.2)
  | d => (sqD p.2 d).map fun ds => (ds, watchOf d ds, p.2)
def rangeL (lo : Int) (n : Nat) : List D := (List.range n).map fun i => .int (lo + (i : Nat))
def Irng1 (g : FA) : FI := fun env st => (g env st).bind fun p => match p.1 with
  | [.int n] => if -(2 ^ 62) ≤ n ∧ n < 2 ^ 62 then some (rangeL 0 n.toNat, [], p.2) else none
  | _ => none
def Irng2 (g : FA) : FI := fun env st => (g env st).bind fun p => match p.1 with
  | [.int lo, .int n] => if -(2 ^ 62) ≤ lo ∧ lo < 2 ^ 62 ∧ -(2 ^ 62) ≤ n ∧ n < 2 ^ 62 then some (rangeL lo (n - lo).toNat, [], p.2) else none
  | _ => none
def downL (hi : Int) (n : Nat) : List D := (List.range n).map fun i => .int (hi + (i : Nat) * (-1))
def Irng3 (g : FA) : FI := fun env st => (g env st).bind fun p => match p.1 with
  | [.int i, .int j, .int (-1)] => if -(2 ^ 62) ≤ i ∧ i < 2 ^ 62 ∧ -(2 ^ 62) ≤ j ∧ j < 2 ^ 62 then some (downL i (i - j).toNat, [], p.2) else none
  | _ => none
section
variable {K : Frag} {θ : List Addr} {G H : Hp} {st : Sto} {v : V} {d : D} {ds : List D}
theorem wk_list [Tbs] (S : Sim K θ G H st) (r : Rep K θ G v d) (h : sqD st d = some ds) : ∃ a, v = .ref a ∧ (∃ vs, SqL K H a vs) ∧ WkD K (Itl K a) θ G ds (watchOf d ds) := by
  obtain ⟨a, vs, rfl, h1, h2⟩ := sqD.ok S r h
  have key : ∀ θ' G' H' st', (∃ l, θ' = θ ++ l) → Gle G G' → Sim K θ' G' H' st' → watchOk (watchOf d ds) st' → ∃ vs, SqL K H' a vs ∧ Reps K θ' G' vs ds := by
    intro θ' G' H' st' p g S' w
    cases d with
    | ref n =>
      have hw : st'[n]? = some (.lst ds) := w (n, ds) (List.mem_singleton.mpr rfl)
      cases r with
      | ref h3 =>
        obtain ⟨o, h4, h5⟩ := S'.at (pre_at p h3)
        rw [hw] at h4
        cases h4
        obtain ⟨ws, h6, h7⟩ := h5
        exact ⟨ws, SqL.of h6, h7⟩
    | lst es =>
      cases h
      cases r with
      | lst h3 h4 => exact ⟨_, SqL.of (S'.sub _ _ (g _ _ h3)), h4.mono p g _ _⟩
    | sq es =>
      cases h
      cases r with
      | sq h3 h4 => exact ⟨_, S'.l (g.l h3), h4.mono p g _ _⟩
    | _ => cases h
  refine ⟨a, rfl, ⟨vs, h1⟩, fun H => ∃ vs, SqL K H a vs ∧ vs.length = ds.length, fun i H x H' => H' = H ∧ ∀ vs, SqL K H a vs → vs[i]? = some x, ⟨?_, ?_, ?_⟩, ?_, ?_⟩
  · rintro i H' hi ⟨ws, h3, h4⟩
    exact ⟨ws, ws[i]'(by omega), h3, List.getElem?_eq_getElem (by omega)⟩
  · rintro H' ⟨ws, h3, h4⟩
    exact ⟨ws, h3, by omega⟩
  · rintro i H1 x H2 hi _ h3
    exact h3
  · intro θ' G' H' st' p g S' w
    obtain ⟨ws, h3, h4⟩ := key θ' G' H' st' p g S' w
    exact ⟨ws, h3, h4.len⟩
  · rintro i x H1 H2 θ' G' st' hi p g S' w ⟨rfl, hY⟩
    obtain ⟨ws, h3, h4⟩ := key θ' G' _ st' p g S' w
    obtain ⟨d', h5, h6⟩ := h4.at' (hY ws h3)
    exact ⟨G', .refl, S', d', h5, h6⟩
theorem wk_tup [Tbs] (S : Sim K θ G H st) (r : Rep K θ G v (.tup ds)) : ∃ a, v = .ref a ∧ (∃ vs, SqT K H a vs) ∧ WkD K (Itt K a) θ G ds [] := by
  cases r with
  | @tup a vs _ h1 h2 =>
    refine ⟨a, rfl, ⟨_, S.t h1⟩, fun H => SqT K H a vs, YAt vs, by rw [← h2.len]; exact walk_tup, fun θ' G' H' st' p g S' w => S'.t (g.t h1), ?_⟩
    rintro i x H1 H2 θ' G' st' hi p g S' w ⟨rfl, hY⟩
    obtain ⟨d', h5, h6⟩ := (h2.mono p g _ _).at' hY
    exact ⟨G', .refl, S', d', h5, h6⟩
theorem wk_str [Tbs] {s : PySem.Str} : WkD K (Its s) θ G (chars s) [] := by
  have hl : (chars s).length = s.cps.size := by simp [chars]
  refine ⟨fun _ => True, _, by rw [hl]; exact walk_str, fun _ _ _ _ _ _ _ _ => trivial, ?_⟩
  rintro i x H1 H2 θ' G' st' hi p g S' w ⟨rfl, c, hc, rfl⟩
  exact ⟨G', .refl, S', .str ⟨#[c]⟩, by simp [chars, hc], .str _⟩
theorem wk_range [Tbs] {lo : Int} {n : Nat} : WkD K (Itr lo n) θ G (rangeL lo n) [] := by
  have hl : (rangeL lo n).length = n := by simp [rangeL]
  refine ⟨fun _ => True, _, by rw [hl]; exact walk_range, fun _ _ _ _ _ _ _ _ => trivial, ?_⟩
  rintro i x H1 H2 θ' G' st' hi p g S' w ⟨rfl, rfl⟩
  exact ⟨G', .refl, S', .int (lo + (i : Nat)), by rw [hl] at hi; simp [rangeL, hi], .int _⟩
theorem wk_down [Tbs] {hi : Int} {n : Nat} : WkD K (Itc hi (-1) n) θ G (downL hi n) [] := by
  have hl : (downL hi n).length = n := by simp [downL]
  refine ⟨fun _ => True, _, by rw [hl]; exact walk_rangeC, fun _ _ _ _ _ _ _ _ => trivial, ?_⟩
  rintro i x H1 H2 θ' G' st' hi p g S' w ⟨rfl, rfl⟩
  exact ⟨G', .refl, S', .int (_ + (i : Nat) * (-1)), by rw [hl] at hi; simp [downL, hi], .int _⟩
end
section
variable {X : Cx} {tg e : Expr} {fe : FE} {g : FA} {p pos : Pos}
theorem i_seq [Tbs] (h : PE X e (tE X.K fe)) : PI X tg e (tI X.K (Iseq fe)) :=
  piImp (piOr (pi_tup h) (piOr (pi_str h) (pi_list h))) fun σ H R ⟨θ, G, env, st, items, w, st', S, EN, hf, post⟩ => by
    obtain ⟨⟨x, st1⟩, h1, h2⟩ := Option.bind_eq_some_iff.mp hf
    dsimp only at h2
    split at h2
    · cases h2
      refine .inl (tE.go S EN h1 fun θ1 G1 H1 v1 e1 S1 EN1 r1 => ?_)
      obtain ⟨a, rfl, h3, h4⟩ := wk_tup S1 r1
      exact ⟨a, rfl, h3, post _ _ _ _ e1 S1 h4⟩
    · cases h2
      refine .inr (.inl (tE.go S EN h1 fun θ1 G1 H1 v1 e1 S1 EN1 r1 => ?_))
      cases r1
      exact ⟨_, rfl, post _ _ _ _ e1 S1 wk_str⟩
    · obtain ⟨ds, h3, h4⟩ := Option.map_eq_some_iff.mp h2
      cases h4
      refine .inr (.inr (tE.go S EN h1 fun θ1 G1 H1 v1 e1 S1 EN1 r1 => ?_))
      obtain ⟨a, rfl, h5, h6⟩ := wk_list S1 r1 h3
      exact ⟨a, rfl, h5, post _ _ _ _ e1 S1 h6⟩
theorem i_rng1 [Tbs] (hg : Gl X "range") (hm : X.mg "range" = none) (ha : PA X [e] (tA X.K g)) (hs : starEach [e] X.env = [(false, eval e X.env)] := by rfl) : PI X tg (.Call (.Name "range" p) [e] [] pos) (tI X.K (Irng1 g)) :=
  piImp (pi_range1 hg hm ha hs) fun σ H R ⟨θ, G, env, st, items, w, st', S, EN, hf, post⟩ => by
    obtain ⟨⟨x, st1⟩, h1, h2⟩ := Option.bind_eq_some_iff.mp hf
    dsimp only at h2
    split at h2
    · split at h2
      · rename_i hb
        cases h2
        refine tA.go S EN h1 fun θ1 G1 H1 v1 e1 S1 EN1 r1 => ?_
        cases r1 with
        | cons r1 r2 =>
          cases r1
          cases r2
          exact ⟨_, rfl, hb.1, hb.2, post _ _ _ _ e1 S1 wk_range⟩
      · cases h2
    · cases h2
theorem i_rng2 [Tbs] {e2 : Expr} (hg : Gl X "range") (hm : X.mg "range" = none) (ha : PA X [e, e2] (tA X.K g)) (hs : starEach [e, e2] X.env = [(false, eval e X.env), (false, eval e2 X.env)] := by rfl) (hs2 : starEach [e2] X.env = [(false, eval e2 X.env)] := by rfl) : PI X tg (.Call (.Name "range" p) [e, e2] [] pos) (tI X.K (Irng2 g)) :=
  piImp (pi_range2 hg hm ha hs hs2) fun σ H R ⟨θ, G, env, st, items, w, st', S, EN, hf, post⟩ => by
    obtain ⟨⟨x, st1⟩, h1, h2⟩ := Option.bind_eq_some_iff.mp hf
    dsimp only at h2
    split at h2
    · split at h2
      · rename_i hb
        cases h2
        refine tA.go S EN h1 fun θ1 G1 H1 v1 e1 S1 EN1 r1 => ?_
        cases r1 with
        | cons r1 r2 =>
          cases r1
          cases r2 with
          | cons r2 r3 =>
            cases r2
            cases r3
            exact ⟨_, _, rfl, hb, post _ _ _ _ e1 S1 wk_range⟩
      · cases h2
    · cases h2
theorem i_rng3 [Tbs] {e2 e3 : Expr} (hg : Gl X "range") (hm : X.mg "range" = none) (ha : PA X [e, e2, e3] (tA X.K g)) (hp : PI X tg (.Call (.Name "range" p) [e, e2, e3] [] pos) (iRng3 (tA X.K g))) : PI X tg (.Call (.Name "range" p) [e, e2, e3] [] pos) (tI X.K (Irng3 g)) :=
  piImp hp fun σ H R ⟨θ, G, env, st, items, w, st', S, EN, hf, post⟩ => by
    obtain ⟨⟨x, st1⟩, h1, h2⟩ := Option.bind_eq_some_iff.mp hf
    dsimp only at h2
    split at h2
    · split at h2
      · rename_i hb
        cases h2
        refine tA.go S EN h1 fun θ1 G1 H1 v1 e1 S1 EN1 r1 => ?_
        cases r1 with
        | cons r1 r2 =>
          cases r1
          cases r2 with
          | cons r2 r3 =>
            cases r2
            cases r3 with
            | cons r3 r4 =>
              cases r3
              cases r4
              exact ⟨_, _, _, _, rfl, RgC.neg hb.1 hb.2.1 hb.2.2.1 hb.2.2.2, post _ _ _ _ e1 S1 wk_down⟩
      · cases h2
    · cases h2
end

/-! ### list comprehensions -/
section
variable {K : Frag} {θ θ' : List Addr} {G G' H H' : Hp} {st : Sto} {p : Addr}
/-- what neither the store nor the lasting part knows may change -/
theorem Sim.other [Tbs] (S : Sim K θ G H st) (h1 : G p = none) (h2 : p ∉ θ) (h3 : H p = none ∨ ∃ vs, H p = some (.lst vs)) (o : HO) : Sim K θ G (upd H p o) st where
  sub := fun a u e => by
    have z : a ≠ p := fun z => by rw [z, h1] at e; cases e
    rw [upd_ne z]; exact S.sub a u e
  len := S.len
  nd := S.nd
  off := S.off
  obj := fun i a u e1 e2 => (S.obj i a u e1 e2).mono ⟨[], by simp⟩ (fun _ _ e => e) (upd_ne fun z => h2 (by rw [← z]; exact List.mem_of_getElem? e1))
  tb := tabs_keep S.tb fun b u e hu => by
    have z : b ≠ p := fun z => by
      rcases h3 with h3 | ⟨vs, h3⟩
      · rw [z, h3] at e; cases e
      · rw [z, h3] at e; cases e; exact hu
    rw [upd_ne z]; exact e
  tg := S.tg
theorem Ext.other [Tbs] (e : Ext θ θ' G G' H H') (h : H p = none) (o : HO) : Ext θ θ' G G' H (upd H' p o) where
  pre := e.pre
  im := e.im
  fr := fun a u q m mt => by
    have z : a ≠ p := fun z => by rw [z, h] at q; cases q
    rw [upd_ne z]; exact e.fr a u q m mt
  nθ := e.nθ
  nG := e.nG
theorem Sim.freeze [Tbs] (S : Sim K θ G H st) (h1 : G p = none) (h2 : p ∉ θ) {o : HO} (h3 : H p = some o) (h4 : ∀ ps, o ≠ .tbl ps) : Sim K θ (upd G p o) H st where
  sub := fun a u e => by
    by_cases z : a = p
    · rw [z, upd_same] at e; rw [z, h3]; exact e
    · rw [upd_ne z] at e; exact S.sub a u e
  len := S.len
  nd := S.nd
  off := fun a m => by rw [upd_ne (fun z => h2 (by rw [← z]; exact m))]; exact S.off a m
  obj := fun i a u e1 e2 => (S.obj i a u e1 e2).mono ⟨[], by simp⟩ (fun b x e => by
    have z : b ≠ p := fun z => by rw [z, h1] at e; cases e
    rw [upd_ne z]; exact e) rfl
  tb := S.tb
  tg := fun a m => by
    have z : a ≠ p := fun z => by
      obtain ⟨ps, hps⟩ := S.isT m
      rw [z, h3] at hps
      cases hps
      exact h4 _ rfl
    rw [upd_ne z]; exact S.tg a m
theorem Ext.freeze [Tbs] (e : Ext θ θ' G G' H H') (h : H p = none) (h1 : G' p = none) (o : HO) : Ext θ θ' G (upd G' p o) H H' where
  pre := e.pre
  im := fun a u q => by
    have z : a ≠ p := fun z => by rw [z] at q; rw [e.im _ _ q] at h1; cases h1
    rw [upd_ne z]; exact e.im a u q
  fr := e.fr
  nθ := e.nθ
  nG := fun a u q n => by
    by_cases z : a = p
    · rw [z]; exact h
    · rw [upd_ne z] at q; exact e.nG a u q n
theorem Sim.adopt [Tbs] (S : Sim K θ G H st) (h1 : G p = none) (h2 : p ∉ θ) {vs : List V} {ds : List D} (h3 : H p = some (.lst vs)) (r : Reps K θ G vs ds) : Sim K (θ ++ [p]) G H (st ++ [.lst ds]) where
  sub := S.sub
  len := by simp [S.len]
  nd := by
    rw [List.nodup_append]
    refine ⟨S.nd, by simp, fun a ha b hb => ?_⟩
    rw [List.mem_singleton] at hb
    subst hb
    exact fun z => h2 (by rw [← z]; exact ha)
  off := fun a m => by
    rcases List.mem_append.mp m with m | m
    · exact S.off a m
    · rw [List.mem_singleton] at m
      subst m
      exact h1
  obj := fun i a o e1 e2 => by
    by_cases hi : i < θ.length
    · rw [List.getElem?_append_left hi] at e1
      rw [List.getElem?_append_left (by rw [← S.len]; exact hi)] at e2
      exact (S.obj i a o e1 e2).mono ⟨_, rfl⟩ (fun _ _ e => e) rfl
    · have hi2 : i = θ.length := by
        obtain ⟨hl, _⟩ := List.getElem?_eq_some_iff.mp e1
        simp at hl
        omega
      subst hi2
      rw [List.getElem?_append_right (Nat.le_refl _)] at e1
      rw [List.getElem?_append_right (by rw [S.len]; exact Nat.le_refl _), S.len] at e2
      simp at e1 e2
      subst e1
      subst e2
      exact ⟨vs, h3, r.mono ⟨_, rfl⟩ (fun _ _ e => e) _ _⟩
  tb := S.tb
  tg := S.tg
theorem Ext.adopt [Tbs] (e : Ext θ θ' G G' H H') (h : H p = none) : Ext θ (θ' ++ [p]) G G' H H' where
  pre := by
    obtain ⟨l, q⟩ := e.pre
    exact ⟨l ++ [p], by rw [q, List.append_assoc]⟩
  im := e.im
  fr := e.fr
  nθ := fun a m n => by
    rcases List.mem_append.mp m with m | m
    · exact e.nθ a m n
    · rw [List.mem_singleton] at m
      rw [m]
      exact h
  nG := e.nG
end
/-- the slots of a comprehension's own names forgotten -/
def wipeE (env : Env) : List Nat → Env
  | [] => env
  | v :: vs => (wipeE env vs).set v none
noncomputable def compL (w : Watch) (t : Tg) (test : FT) (elt : FE) (env : Env) : List D → Sto → Option (List D × Sto)
  | [], st => if watchOk w st then some ([], st) else none
  | x :: r, st => if watchOk w st then (bindT t x env).bind fun e1 => (test e1 st).bind fun b => if b.1 = true then (elt e1 b.2).bind fun y => (compL w t test elt env r y.2).bind fun q => some (y.1 :: q.1, q.2)
    else compL w t test elt env r b.2 else none
noncomputable def Ecmp (fi : FI) (t : Tg) (test : FT) (elt : FE) (own : List Nat) : FE := fun env st => (fi env st).bind fun p => if p.1.length ≤ 16777216 then (compL p.2.1 t test elt (wipeE env own) p.1 p.2.2).bind fun q => some (.lst q.1, q.2) else none
noncomputable def EcmpN (fi : FI) (t : Tg) (test : FT) (elt : FE) (own : List Nat) : FE := fun env st => (fi env st).bind fun p => if p.1.length ≤ 16777216 then (compL p.2.1 t test elt (wipeE env own) p.1 p.2.2).bind fun q => some (.ref q.2.length, q.2 ++ [.lst q.1]) else none
def Tyes : FT := fun _ st => some (true, st)
theorem compL.watch {w : Watch} {t : Tg} {test : FT} {elt : FE} {xs : List D} {env : Env} {st : Sto} {r : List D × Sto} (h : compL w t test elt env xs st = some r) : watchOk w st := by
  cases xs with
  | nil =>
    unfold compL at h
    split at h
    · assumption
    · cases h
  | cons x xs =>
    unfold compL at h
    split at h
    · assumption
    · cases h
theorem EnvR.wipe {K : Frag} {θ : List Addr} {G : Hp} {σ : L2.St} {env : Env} (r : EnvR K θ G σ env) : ∀ own : List Nat, EnvR K θ G (L2.wipe σ own) (wipeE env own)
  | [] => r
  | v :: vs => by
    have ih := EnvR.wipe r vs
    refine ⟨by simp [L2.wipe, wipeE, ih.1], fun i d h => ?_⟩
    unfold wipeE at h
    by_cases hi : v = i
    · subst hi
      by_cases hl : v < (wipeE env vs).length
      · rw [List.getElem?_set_self hl] at h; cases h
      · rw [List.getElem?_eq_none (by simpa using hl)] at h; cases h
    · rw [List.getElem?_set_ne hi] at h
      obtain ⟨x, h1, h2⟩ := ih.2 i d h
      exact ⟨x, by unfold L2.wipe; rw [List.getElem?_set_ne hi]; exact h1, h2⟩
theorem wipe_at (σ : L2.St) (i : Nat) : ∀ own : List Nat, (L2.wipe σ own)[i]? = if i ∈ own then (if i < σ.length then some none else none) else σ[i]?
  | [] => by simp [L2.wipe]
  | v :: vs => by
    unfold L2.wipe
    by_cases hi : v = i
    · subst hi
      by_cases hl : v < σ.length
      · rw [List.getElem?_set_self (by rw [wipe_length]; exact hl)]; simp [hl]
      · rw [List.getElem?_eq_none (by rw [List.length_set, wipe_length]; omega)]; simp [hl]
    · rw [List.getElem?_set_ne hi, wipe_at σ i vs]
      have : (i ∈ v :: vs) = (i ∈ vs) := by
        simp
        intro e
        exact absurd e.symm hi
      simp only [this]
theorem wipe_off {is own : List Nat} (hs : ∀ j, j ∈ is → j ∈ own) {σ σ' : L2.St} (o : offSlots is (L2.wipe σ own) σ') : L2.wipe σ' own = L2.wipe σ own := by
  refine List.ext_getElem? fun i => ?_
  have hl : σ'.length = σ.length := by rw [o.1, wipe_length]
  rw [wipe_at, wipe_at, hl]
  by_cases hi : i ∈ own
  · simp only [hi, if_true]
  · simp only [hi, if_false]
    rw [o.2 i (fun z => hi (hs i z)), wipe_at]
    simp only [hi, if_false]
def tTs [Tbs] (K : Frag) (f : FT) : TT := tT K f
section
variable {X : Cx}
theorem ptsImp {cs : List Expr} {t t' : TT} (h : PTs X cs t) (i : ∀ σ H Q, t' σ H Q → t σ H Q) : PTs X cs t' := ⟨fun pins s σ H Q I q => h.run pins s σ H Q I (i _ _ _ q)⟩
theorem l_nil [Tbs] : PTs X [] (tT X.K Tyes) := ptsImp pts_nil fun σ H Q ⟨θ, G, env, st, b, st', S, EN, hf, post⟩ => by
  cases hf
  exact post _ _ _ .refl S
theorem l_one [Tbs] {c : Expr} {f : FT} (h : PT X c (tT X.K f)) : PTs X [c] (tT X.K f) := pts_one h
end
theorem goComp [Tbs] {K : Frag} {fi : FI} {t : Tg} {test : FT} {elt : FE} {own : List Nat} (hs : ∀ j, j ∈ t.slots → j ∈ own) {θ : List Addr} {G H : Hp} {st st1 st' : Sto} {σ : L2.St} {env : Env} {items : List D} {w : Watch} {tot : List D} {Q : VK}
    (S : Sim K θ G H st) (EN : EnvR K θ G σ env) (h1 : fi env st = some (items, w, st1)) (hl : items.length ≤ 16777216) (h2 : compL w t test elt (wipeE env own) items st1 = some (tot, st'))
    (k : ∀ θ' G' H' Dl vs, Ext θ θ' G G' H H' → Sim K θ' G' H' st' → H Dl = none → G' Dl = none → Dl ∉ θ' → H' Dl = some (.lst vs) → Reps K θ' G' vs tot → Q (.ref Dl) H') :
    tLc (tI K fi) (tG K t) (tT K test) (tE K elt) own σ H Q := by
  refine ⟨θ, G, env, st, items, w, st1, S, EN, h1, fun θ1 G1 H1 J e1 S1 ⟨Gd, Y, wk, w1, w2⟩ Dl hD => ?_⟩
  have EN1 := EN.ext e1
  have hD0 : H Dl = none := by
    cases q : H Dl with
    | none => rfl
    | some o =>
      by_cases m : Dl ∈ θ
      · obtain ⟨l, hp⟩ := e1.pre
        obtain ⟨u, hu⟩ := S1.there (a := Dl) (by rw [hp]; exact List.mem_append_left _ m)
        rw [hu] at hD
        cases hD
      · by_cases mt : Dl ∈ tbA
        · obtain ⟨ps, hps⟩ := S1.isT mt
          rw [hps] at hD
          cases hD
        · rw [e1.fr Dl o q m mt] at hD
          cases hD
  have hD1 : Dl ∉ θ1 := fun m => by
    obtain ⟨u, hu⟩ := S1.there m
    rw [hu] at hD
    cases hD
  refine lc_it wk (D := Dl) (Qd := Q (.ref Dl)) (fun i H' => ∃ θ' G' st2 vs acc rest, Ext θ1 θ' G1 G' H1 H' ∧ Sim K θ' G' H' st2 ∧ G' Dl = none ∧ Dl ∉ θ' ∧ H' Dl = some (.lst vs) ∧ Reps K θ' G' vs acc ∧ acc.length ≤ i ∧
    compL w t test elt (wipeE env own) (items.drop i) st2 = some (rest, st') ∧ acc ++ rest = tot)
    ⟨θ1, G1, st1, [], [], tot, Ext.refl.other hD _, S1.other (S1.gnone hD) hD1 (.inl hD) _, S1.gnone hD, hD1, upd_same, .nil, Nat.zero_le _, h2, rfl⟩ ?_ ?_ ?_
  · rintro i H' _ ⟨θ', G', st2, vs, acc, rest, e2, S2, _, _, _, _, _, h3, _⟩
    exact w1 _ _ _ _ e2.pre e2.im S2 (compL.watch h3)
  · rintro i x H2 H3 hi ⟨θ', G', st2, vs, acc, rest, e2, S2, n1, n2, hv, rv, hal, h3, ht⟩ hY
    obtain ⟨G3, e3, S3, d, hd, rd⟩ := w2 i x H2 H3 θ' G' st2 hi e2.pre e2.im S2 (compL.watch h3) hY
    have hdr : items.drop i = d :: items.drop (i + 1) := by
      have hd' := (List.getElem?_eq_some_iff.mp hd).2
      rw [List.drop_eq_getElem_cons hi, hd']
    have carry : ∀ {θa θb : List Addr} {Ga Gb Ha Hb : Hp} {stb : Sto} {ws : List V}, Ext θa θb Ga Gb Ha Hb → Ga Dl = none → Dl ∉ θa → Ha Dl = some (.lst ws) → Gb Dl = none ∧ Dl ∉ θb ∧ Hb Dl = some (.lst ws) := by
      intro θa θb Ga Gb Ha Hb stb ws e a1 a2 a3
      refine ⟨?_, fun m => ?_, e.fr _ _ a3 a2 (S1.noT hD)⟩
      · cases q : Gb Dl with
        | none => rfl
        | some o =>
          have := e.nG Dl o q a1
          rw [this] at a3
          cases a3
      · have := e.nθ Dl m a2
        rw [this] at a3
        cases a3
    obtain ⟨n31, n32, hv3⟩ := carry (stb := st2) e3 n1 n2 hv
    rw [hdr] at h3
    unfold compL at h3
    split at h3
    · obtain ⟨env1, h4, h5⟩ := Option.bind_eq_some_iff.mp h3
      obtain ⟨⟨b, st3⟩, h6, h7⟩ := Option.bind_eq_some_iff.mp h5
      have e13 := e2.trans S2 e3
      refine ⟨θ', G3, st2, wipeE env own, d, env1, S3, ((EN1.ext e2).ext e3).wipe own, rd, h4, fun σ2 EN3 o => ⟨wipe_off hs o, ?_⟩⟩
      refine tT.go S3 EN3 h6 fun θ4 G4 H4 e4 S4 EN4 => ?_
      obtain ⟨n41, n42, hv4⟩ := carry (stb := st2) e4 n31 n32 hv3
      cases b with
      | true =>
        rw [if_pos rfl] at h7 ⊢
        obtain ⟨⟨y, st4⟩, h8, h9⟩ := Option.bind_eq_some_iff.mp h7
        obtain ⟨⟨rest2, st5⟩, h10, h11⟩ := Option.bind_eq_some_iff.mp h9
        cases h11
        refine tE.go S4 EN4 h8 fun θ5 G5 H5 v5 e5 S5 EN5 r5 => ?_
        obtain ⟨n51, n52, hv5⟩ := carry (stb := st2) e5 n41 n42 hv4
        have rv5 := ((rv.ext e3).ext e4).ext e5
        have hvl : vs.length ≤ i := by rw [rv.len]; exact hal
        refine ⟨vs, hv5, szlt (by omega), θ5, G5, st4, vs ++ [v5], acc ++ [y], rest2, (((e13.trans S3 e4).trans S4 e5)).other hD _, S5.other n51 n52 (.inr ⟨_, hv5⟩) _, n51, n52, upd_same, rv5.append (.cons r5 .nil), ?_, h10, by rw [← ht]; simp⟩
        rw [List.length_append]
        simp
        exact hal
      | false =>
        rw [if_neg Bool.false_ne_true] at h7 ⊢
        exact ⟨θ4, G4, st3, vs, acc, rest, e13.trans S3 e4, S4, n41, n42, hv4, (rv.ext e3).ext e4, by omega, h7, ht⟩
    · cases h3
  · rintro H' ⟨θ', G', st2, vs, acc, rest, e2, S2, n1, n2, hv, rv, hal, h3, ht⟩
    rw [List.drop_length] at h3
    unfold compL at h3
    split at h3
    · cases h3
      rw [List.append_nil] at ht
      subst ht
      exact k _ _ _ Dl vs (e1.trans S1 e2) S2 hD0 n1 n2 hv rv
    · cases h3
section
variable {K : Frag} {fi : FI} {t : Tg} {test : FT} {elt : FE} {own : List Nat} {σ : L2.St} {H : Hp} {Q : VK}
theorem goCmp [Tbs] (hs : ∀ j, j ∈ t.slots → j ∈ own) (h : tE K (Ecmp fi t test elt own) σ H Q) : tLc (tI K fi) (tG K t) (tT K test) (tE K elt) own σ H Q := by
  obtain ⟨θ, G, env, st, d, st', S, EN, hf, post⟩ := h
  obtain ⟨⟨items, w, st1⟩, h1, h2⟩ := Option.bind_eq_some_iff.mp hf
  dsimp only at h2
  split at h2
  · rename_i hl
    obtain ⟨⟨tot, st2⟩, h3, h4⟩ := Option.bind_eq_some_iff.mp h2
    cases h4
    refine goComp hs S EN h1 hl h3 fun θ' G' H' Dl vs e S' n0 n1 n2 hv r => ?_
    exact post _ _ _ _ (e.freeze n0 n1 _) (S'.freeze n1 n2 hv (fun _ z => by cases z)) (.lst upd_same (r.mono ⟨[], by simp⟩ (fun b x q => by
      have z : b ≠ Dl := fun z => by rw [z, n1] at q; cases q
      rw [upd_ne z]; exact q) _ _))
  · cases h2
theorem goCmpN [Tbs] (hs : ∀ j, j ∈ t.slots → j ∈ own) (h : tE K (EcmpN fi t test elt own) σ H Q) : tLc (tI K fi) (tG K t) (tT K test) (tE K elt) own σ H Q := by
  obtain ⟨θ, G, env, st, d, st', S, EN, hf, post⟩ := h
  obtain ⟨⟨items, w, st1⟩, h1, h2⟩ := Option.bind_eq_some_iff.mp hf
  dsimp only at h2
  split at h2
  · rename_i hl
    obtain ⟨⟨tot, st2⟩, h3, h4⟩ := Option.bind_eq_some_iff.mp h2
    cases h4
    refine goComp hs S EN h1 hl h3 fun θ' G' H' Dl vs e S' n0 n1 n2 hv r => ?_
    exact post _ _ _ _ (e.adopt n0) (S'.adopt n1 n2 hv r) (.ref (by rw [← S'.len, List.getElem?_append_right (Nat.le_refl _), Nat.sub_self]; rfl))
  · cases h2
end
section
variable {X : Cx} {elt tg iter : Expr} {ifs : List Expr} {scope : Scope} {own : List (PySem.Str × Nat)} {pos : Pos} {fi : FI} {t : Tg} {ft : FT} {fe : FE}
theorem c_cmp_ [Tbs] (hc : X.calm = true) (hN : X.N.Nodup) (hi : PI X tg iter (tI X.K fi)) (ok : BlkOk X.N X.env.scope scope own) (hsl : (t.slots.all fun j => (own.map (·.2)).contains j) = true)
    (hg : ∀ (s : Shared) (H : Hp) (C : Addr) (cl : List (PySem.Str × Addr)) (fp : List Addr), PG (X.blk s H scope (compEnvC scope cl C X.env) fp) tg (tG X.K t)) (ht : ∀ (s : Shared) (H : Hp) (C : Addr) (cl : List (PySem.Str × Addr)) (fp : List Addr), PTs (X.blk s H scope (compEnvC scope cl C X.env) fp) ifs (tT X.K ft))
    (he : ∀ (s : Shared) (H : Hp) (C : Addr) (cl : List (PySem.Str × Addr)) (fp : List Addr), PE (X.blk s H scope (compEnvC scope cl C X.env) fp) elt (tE X.K fe)) (hs : ∀ x, foldedSetIterable iter X.env x = pure x := by intro _; rfl) :
    PE X (.ListComp elt [⟨tg, iter, ifs, 0⟩] scope pos) (tE X.K (Ecmp fi t ft fe (own.map (·.2)))) :=
  peImp (pe_lc hc hN hi ok hg ht he hs) fun _ _ _ h => goCmp (fun j hj => by simpa using List.all_eq_true.mp hsl j hj) h
theorem c_cmpN [Tbs] (hc : X.calm = true) (hN : X.N.Nodup) (hi : PI X tg iter (tI X.K fi)) (ok : BlkOk X.N X.env.scope scope own) (hsl : (t.slots.all fun j => (own.map (·.2)).contains j) = true)
    (hg : ∀ (s : Shared) (H : Hp) (C : Addr) (cl : List (PySem.Str × Addr)) (fp : List Addr), PG (X.blk s H scope (compEnvC scope cl C X.env) fp) tg (tG X.K t)) (ht : ∀ (s : Shared) (H : Hp) (C : Addr) (cl : List (PySem.Str × Addr)) (fp : List Addr), PTs (X.blk s H scope (compEnvC scope cl C X.env) fp) ifs (tT X.K ft))
    (he : ∀ (s : Shared) (H : Hp) (C : Addr) (cl : List (PySem.Str × Addr)) (fp : List Addr), PE (X.blk s H scope (compEnvC scope cl C X.env) fp) elt (tE X.K fe)) (hs : ∀ x, foldedSetIterable iter X.env x = pure x := by intro _; rfl) :
    PE X (.ListComp elt [⟨tg, iter, ifs, 0⟩] scope pos) (tE X.K (EcmpN fi t ft fe (own.map (·.2)))) :=
  peImp (pe_lc hc hN hi ok hg ht he hs) fun _ _ _ h => goCmpN (fun j hj => by simpa using List.all_eq_true.mp hsl j hj) h
/-- name = [..] -/
theorem k_setC [Tbs] {i : Nat} {y : PySem.Str} {py spos : Pos} {g : FE} (hc : X.calm = true) (hN : X.N.Nodup) (hgo : ∀ σ H Q, tE X.K g σ H Q → tLc (tI X.K fi) (tG X.K t) (tT X.K ft) (tE X.K fe) (own.map (·.2)) σ H Q) (hi : PI X tg iter (tI X.K fi)) (ok : BlkOk X.N X.env.scope scope own)
    (hg : ∀ (s : Shared) (H : Hp) (C : Addr) (cl : List (PySem.Str × Addr)) (fp : List Addr), PG (X.blk s H scope (compEnvC scope cl C X.env) fp) tg (tG X.K t)) (ht : ∀ (s : Shared) (H : Hp) (C : Addr) (cl : List (PySem.Str × Addr)) (fp : List Addr), PTs (X.blk s H scope (compEnvC scope cl C X.env) fp) ifs (tT X.K ft))
    (he : ∀ (s : Shared) (H : Hp) (C : Addr) (cl : List (PySem.Str × Addr)) (fp : List Addr), PE (X.blk s H scope (compEnvC scope cl C X.env) fp) elt (tE X.K fe))
    (hsw : swapsWith (.ListComp elt [⟨tg, iter, ifs, 0⟩] scope pos) (some (.Name y py)) spos.line X.env = pure true) (hy : X.N[i]? = some y := by rfl) (hyl : X.env.scope.names.lookup y = some .local := by rfl) (hs : ∀ x, foldedSetIterable iter X.env x = pure x := by intro _; rfl) :
    PS X (.Assign [.Name y py] (.ListComp elt [⟨tg, iter, ifs, 0⟩] scope pos) spos) (tS X.K (Sset i g)) :=
  psImp (ps_setLc hc hN hy hyl hsw hi ok hg ht he hs) fun E σ H ⟨θ, G, env, st, d, st', S, EN, hf, post⟩ => by
    obtain ⟨⟨x, st1⟩, h1, h2⟩ := Option.bind_eq_some_iff.mp hf
    cases h2
    exact hgo _ _ _ (tE.go S EN h1 fun θ1 G1 H1 v1 e1 S1 EN1 r1 => post _ _ _ e1 S1 _ (EN1.set r1 i))
end

/-! ## defs -/
def runF (n : Nat) (body : FS) : FC := fun ds st => (body (ds.map some ++ List.replicate (n - ds.length) none) st).bind fun p => match p.1 with
  | .rt d => some (d, p.2)
  | .nx _ => some (.non, p.2)
  | _ => none
def spF [Tbs] (K : Frag) (np : Nat) (f : FC) : Sp := fun vs H Q _ => vs.length = np ∧ ∃ θ G st ds d st', Sim K θ G H st ∧ Reps K θ G vs ds ∧ f ds st = some (d, st') ∧ PostE K θ G H st' d Q
theorem start_rep {K : Frag} {θ : List Addr} {G : Hp} {vs : List V} {ds : List D} (r : Reps K θ G vs ds) (N : List PySem.Str) : EnvR K θ G (start N vs) (ds.map some ++ List.replicate (N.length - ds.length) none) := by
  refine ⟨by simp [L2.start, r.len], fun i d h => ?_⟩
  by_cases hi : i < ds.length
  · rw [List.getElem?_append_left (by simpa using hi), List.getElem?_map] at h
    obtain ⟨x, h1, h2⟩ := Option.map_eq_some_iff.mp h
    cases h2
    obtain ⟨v, h3, h4⟩ := r.at h1
    refine ⟨v, ?_, h4⟩
    unfold L2.start
    rw [List.getElem?_append_left (by simpa [r.len] using hi), List.getElem?_map, h3]
    rfl
  · rw [List.getElem?_append_right (by simpa using Nat.le_of_not_lt hi)] at h
    rw [List.getElem?_replicate] at h
    split at h <;> cases h
section
variable {P : Program} {w : World} {K : Frag} {mg : PySem.Str → Option Value} {base : Heap}
theorem fn_ok [Tbs] {x qual : PySem.Str} {st : Stmt} {f : Addr} {fd : FuncData} {N ps : List PySem.Str} {k : Nat} {fb : FS} (F : Fun K x qual st f fd) (S : FnScope N ps (defScope st))
    (hbody : ∀ (cdv : Value) (A : Around) (outer : List PySem.Env) (s : Shared) (H : Hp) (E : XK), Room k (A.deeper (envOfC qual (defScope st) s.heap.objs.size f cdv)) →
      PSs (cxOf CX0 P w K mg base N qual (defScope st) f cdv A outer s H E).nox (defBody st) (tS K fb)) : FnOk P w K mg base CX0 (k + 1) f fd ps (spF K ps.length (runF N.length fb)) := by
  refine F.ok S (fun vs H Q E h => h.1) (fun cdv A outer s H vs Q E hr h => ⟨_, hbody cdv A outer s H E hr, ?_⟩)
  obtain ⟨hl, θ, G, sto, ds, d, st', S', r, hf, post⟩ := h
  obtain ⟨⟨fl, st2⟩, h1, h2⟩ := Option.bind_eq_some_iff.mp hf
  refine tS.go S' (start_rep r N) h1 fun θ1 G1 H1 e1 S1 => ?_
  cases fl with
  | nx env => cases h2; exact fun σ _ => post _ _ _ _ e1 S1 .non
  | rt d' => cases h2; exact fun v r => post _ _ _ _ e1 S1 r
  | bk _ => cases h2
  | ct _ => cases h2
end
section
variable {X : Cx} {e : Expr} {es : List Expr} {g : FA} {pos p : Pos} {x : PySem.Str} {k np : Nat} {f : Addr} {fd : FuncData} {ps : List PySem.Str} {m : FC}
theorem goF [Tbs] {E : XK} (hl : ∀ ds st r, m ds st = some r → ds.length = np) {σ : L2.St} {H : Hp} {Q : VK} (h : tE X.K (EC m g) σ H Q) : tCall (spF X.K np m) [] E (tA X.K g) σ H Q := by
  obtain ⟨θ, G, env, st, d, st', S, EN, hf, post⟩ := h
  obtain ⟨⟨xs, st1⟩, h1, h2⟩ := Option.bind_eq_some_iff.mp hf
  refine tA.go S EN h1 fun θ1 G1 H1 v1 e1 S1 EN1 r1 => ?_
  rw [List.append_nil]
  exact ⟨by rw [r1.len]; exact hl _ _ _ h2, θ1, G1, st1, xs, d, st', S1, r1, h2, fun θ' G' H' v e s r => post _ _ _ _ (e1.trans S1 e) s r⟩
end
/-- exactly n arguments -/
def arN (n : Nat) (m : FC) : FC := fun ds st => if ds.length = n then m ds st else none
theorem arN.len {n : Nat} {m : FC} : ∀ ds st r, arN n m ds st = some r → ds.length = n := fun ds st r h => by
  unfold arN at h
  split at h
  · assumption
  · cases h
theorem sp_ar [Tbs] {P : Program} {w : World} {K : Frag} {mg : PySem.Str → Option Value} {base : Heap} {CX : CXT} {k n : Nat} {f : Addr} {fd : FuncData} {ps : List PySem.Str} {m : FC} (F : FnOk P w K mg base CX k f fd ps (spF K n m)) : FnOk P w K mg base CX k f fd ps (spF K n (arN n m)) :=
  F.imp fun vs H Q E ⟨hl, θ, G, st, ds, d, st', S, r, hf, post⟩ => ⟨hl, θ, G, st, ds, d, st', S, r, (by
    unfold arN at hf
    split at hf
    · exact hf
    · cases hf), post⟩
/-! what a call leaves in the store alone is dropped -/
mutual
def D.blw (n : Nat) : D → Prop
  | .ref i => i < n
  | .tup ds => belows n ds
  | .lst ds => belows n ds
  | .sq ds => belows n ds
  | .exc _ _ _ _ _ d => d.blw n
  | _ => True
def belows (n : Nat) : List D → Prop
  | [] => True
  | d :: ds => d.blw n ∧ belows n ds
end
section
variable {K : Frag} {θ l : List Addr} {G : Hp}
mutual
theorem Rep.blw : ∀ (d : D) (v : V), Rep K θ G v d → d.blw θ.length
  | .ref n, _, h => by
    cases h with
    | ref h => exact (List.getElem?_eq_some_iff.mp h).1
  | .tup ds, _, h => by
    cases h with
    | tup _ h => exact Reps.blw ds _ h
  | .lst ds, _, h => by
    cases h with
    | lst _ h => exact Reps.blw ds _ h
  | .sq ds, _, h => by
    cases h with
    | sq _ h => exact Reps.blw ds _ h
  | .non, _, _ => trivial
  | .bl _, _, _ => trivial
  | .int _, _, _ => trivial
  | .str _, _, _ => trivial
  | .adr _, _, _ => trivial
  | .ty _, _, _ => trivial
  | .exc _ _ _ _ _ d, _, h => by cases h with | exc _ _ h => exact Rep.blw d _ h
theorem Reps.blw : ∀ (ds : List D) (vs : List V), Reps K θ G vs ds → belows θ.length ds
  | [], _, _ => trivial
  | d :: ds, _, h => by
    cases h with
    | cons h1 h2 => exact ⟨Rep.blw d _ h1, Reps.blw ds _ h2⟩
end
mutual
theorem Rep.back : ∀ (d : D) (v : V), d.blw θ.length → Rep K (θ ++ l) G v d → Rep K θ G v d
  | .ref n, _, b, h => by
    cases h with
    | ref h => exact .ref (by rw [List.getElem?_append_left b] at h; exact h)
  | .tup ds, _, b, h => by
    cases h with
    | tup h1 h => exact .tup h1 (Reps.back ds _ b h)
  | .lst ds, _, b, h => by
    cases h with
    | lst h1 h => exact .lst h1 (Reps.back ds _ b h)
  | .sq ds, _, b, h => by
    cases h with
    | sq h1 h => exact .sq h1 (Reps.back ds _ b h)
  | .non, _, _, h => by cases h; exact .non
  | .bl _, _, _, h => by cases h; exact .bl _
  | .int _, _, _, h => by cases h; exact .int _
  | .str _, _, _, h => by cases h; exact .str _
  | .adr _, _, _, h => by cases h with | adr e => exact .adr e
  | .ty _, _, _, h => by cases h; exact .ty _
  | .exc _ _ _ _ _ d, _, b, h => by cases h with | exc e h1 h => exact .exc e h1 (Rep.back d _ b h)
theorem Reps.back : ∀ (ds : List D) (vs : List V), belows θ.length ds → Reps K (θ ++ l) G vs ds → Reps K θ G vs ds
  | [], _, _, h => by cases h; exact .nil
  | d :: ds, _, b, h => by
    cases h with
    | cons h1 h2 => exact .cons (Rep.back d _ b.1 h1) (Reps.back ds _ b.2 h2)
end
end
open Classical in
noncomputable def gcF (m : FC) : FC := fun ds st => (m ds st).map fun p => if (∃ g, p.2 = st ++ g) ∧ p.1.blw st.length then (p.1, st) else p
theorem gcF.of {m : FC} {ds : List D} {st g : Sto} {d : D} (h : m ds st = some (d, st ++ g)) (b : D.blw st.length d) : gcF m ds st = some (d, st) := by
  unfold gcF
  rw [h]
  simp only [Option.map_some]
  rw [if_pos ⟨⟨g, rfl⟩, b⟩]
theorem sp_gc [Tbs] {P : Program} {w : World} {K : Frag} {mg : PySem.Str → Option Value} {base : Heap} {CX : CXT} {k n : Nat} {f : Addr} {fd : FuncData} {ps : List PySem.Str} {m : FC} (F : FnOk P w K mg base CX k f fd ps (spF K n m)) : FnOk P w K mg base CX k f fd ps (spF K n (gcF m)) :=
  F.imp fun vs H Q E ⟨hl, θ, G, st, ds, d, st', S, r, hf, post⟩ => by
    obtain ⟨⟨d2, st2⟩, h1, h2⟩ := Option.map_eq_some_iff.mp hf
    split at h2
    · rename_i hc
      obtain ⟨⟨g, hg⟩, hb⟩ := hc
      cases h2
      dsimp only at hg
      subst hg
      refine ⟨hl, θ, G, st, ds, _, _, S, r, h1, fun θ' G' H' v e S' rv => ?_⟩
      obtain ⟨l, rfl⟩ := e.pre
      have lθ : θ.length = st.length := S.len
      have S2 : Sim K θ G' H' st := ⟨S'.sub, S.len, S.nd, fun a m => S'.off a (List.mem_append_left _ m), fun i a o e1 e2 => by
        have hi : i < θ.length := (List.getElem?_eq_some_iff.mp e1).1
        have e3 : (θ ++ l)[i]? = some a := by rw [List.getElem?_append_left hi]; exact e1
        have e4 : (st ++ g)[i]? = some o := by rw [List.getElem?_append_left (by omega)]; exact e2
        have q := S'.obj i a o e3 e4
        have q0 := S.obj i a o e1 e2
        cases o with
        | lst es =>
          obtain ⟨ws, h3, h4⟩ := q
          obtain ⟨ws0, _, h5⟩ := q0
          exact ⟨ws, h3, Reps.back es ws (Reps.blw es ws0 h5) h4⟩
        | ins cn ns es =>
          obtain ⟨C, dx, ws, hc, h3, hl, h4⟩ := q
          obtain ⟨_, _, ws0, _, _, _, h5⟩ := q0
          exact ⟨C, dx, ws, hc, h3, hl, Reps.back es ws (Reps.blw es ws0 h5) h4⟩
        | dct ks es =>
          obtain ⟨ws, h3, hl, h4⟩ := q
          obtain ⟨ws0, _, _, h5⟩ := q0
          exact ⟨ws, h3, hl, Reps.back es ws (Reps.blw es ws0 h5) h4⟩, S'.tb, S'.tg⟩
      refine post θ G' H' v ⟨⟨[], by simp⟩, e.im, e.fr, fun a m n => absurd m n, e.nG⟩ S2 (Rep.back _ v (by rw [lθ]; exact hb) rv)
    · cases h2
      exact ⟨hl, θ, G, st, ds, d, st', S, r, h1, post⟩
/-- a def's own law, by an equal function -/
theorem sp_eq [Tbs] {P : Program} {w : World} {K : Frag} {mg : PySem.Str → Option Value} {base : Heap} {CX : CXT} {k n : Nat} {f : Addr} {fd : FuncData} {ps : List PySem.Str} {m m' : FC} (F : FnOk P w K mg base CX k f fd ps (spF K n m)) (h : ∀ ds st r, m' ds st = some r → m ds st = some r) : FnOk P w K mg base CX k f fd ps (spF K n m') :=
  F.imp fun vs H Q E ⟨hl, θ, G, st, ds, d, st', S, r, hf, post⟩ => ⟨hl, θ, G, st, ds, d, st', S, r, h _ _ _ hf, post⟩
section
variable {X : Cx} {e : Expr} {es : List Expr} {g : FA} {pos p : Pos} {x : PySem.Str} {k np : Nat} {f : Addr} {fd : FuncData} {ps : List PySem.Str} {m : FC}
theorem c_call [Tbs] (F : FnOk X.prog X.w X.K X.mg X.base CX0 k f fd ps (spF X.K np m)) (hr : Room k X.A) (hg : Gl X x) (hm : X.mg x = some (.ref f)) (hk : PySem.W.keepIn X.K (.ref f) = true) (hb : Binds X.K fd ps []) (ha : PA X (e :: es) (tA X.K g))
    (hdb : (x == ("__debug__" : PySem.Str)) = false := by decide) (he : starEach (e :: es) X.env = (false, eval e X.env) :: starEach es X.env := by rfl) (hpl : (backTo pos (starEach es X.env)).any (·.1) = false := by rfl) :
    PE X (.Call (.Name x p) (e :: es) [] pos) (tE X.K (EC (arN np m) g)) :=
  peImp (pe_call (sp_ar F) hr hg hm hk hb .nil pass0 ha hdb he hpl) fun _ _ _ h => goF arN.len h
end
/-- the law's own promise -/
def spLaw (K : Frag) : Sp := fun vs H Q _ => ∃ (a : Addr) (ns : List Int), vs = [.ref a] ∧ SqL K H a (ns.map V.int) ∧ ns.length ≤ 63 ∧ ∀ H', Q (.bl true) H'
theorem law_of [Tbs] {P : Program} {w : World} {K : Frag} {mg : PySem.Str → Option Value} {base : Heap} {CX : CXT} {k : Nat} {f : Addr} {fd : FuncData} {ps : List PySem.Str} {m : FC} (F : FnOk P w K mg base CX k f fd ps (spF K 1 m))
    (h : ∀ ns : List Int, ns.length ≤ 63 → ∃ st, m [.sq (ns.map D.int)] [] = some (.bl true, st)) (hT : Tbs.T = [] := by rfl) : FnOk P w K mg base CX k f fd ps (spLaw K) :=
  F.imp fun vs H Q E ⟨a, ns, hv, hs, hl, q⟩ => by
    obtain ⟨st, hm⟩ := h ns hl
    subst hv
    refine ⟨rfl, [], H, [], [.sq (ns.map D.int)], .bl true, st, ⟨fun _ _ h => h, rfl, List.nodup_nil, (fun a m => nomatch m), (fun i a o e => by simp at e), (by rw [hT]; exact fun _ h => nomatch h), (fun a m => by unfold tbA at m; rw [hT] at m; cases m)⟩, .cons (.sq hs (Reps.of_ints ns)) .nil, hm, ?_⟩
    intro θ' G' H' v _ _ r
    cases r
    exact q H'

/-! ### more of the operators -/
def E1 (f : D → Sto → Option (D × Sto)) (fa : FE) : FE := fun env st => (fa env st).bind fun p => f p.1 p.2
def negD : D → Sto → Option (D × Sto) := fun x st => match x with
  | .int i => some (.int (-i), st)
  | _ => none
def mulD : F2 := fun x y st => match x, y with
  | .int i, .int j => if mulOk i j then some (.int (i * j), st) else none
  | .tup ds, .int k => if k = 1 then some (.tup ds, st) else if ds ≠ [] ∧ 2 ≤ k ∧ k ≤ 1000 ∧ ds.length ≤ 1000 then some (.tup (List.replicate k.toNat ds).flatten, st) else none
  | x, .int k => match lsD st x with
    | some ds => if -(2 ^ 63) ≤ k ∧ k < 2 ^ 63 ∧ ds.length * k.toNat ≤ 16777216 then some (.lst (List.replicate k.toNat ds).flatten, st) else none
    | none => none
  | _, _ => none
theorem Reps.rep {K : Frag} {θ : List Addr} {G : Hp} {vs : List V} {ds : List D} (r : Reps K θ G vs ds) : ∀ n : Nat, Reps K θ G (List.replicate n vs).flatten (List.replicate n ds).flatten
  | 0 => .nil
  | n + 1 => by
    rw [List.replicate_succ, List.replicate_succ, List.flatten_cons, List.flatten_cons]
    exact r.append (Reps.rep r n)
def rMulA (K : Frag) : R2 := fun x y H Q => rI CMul (fun i j => .int (i * j)) x y H Q ∨ rRepT K x y H Q ∨ rRep x y H Q ∨ rRepT1 K x y H Q
theorem o_mul {X : Cx} : OpR X (binaryOp .Mult) (rMulA X.K) := op_mul.or (op_repT.or (op_rep.or op_repT1))
theorem s_mul [Tbs] {K : Frag} : Op2 K (rMulA K) mulD := by
  intro θ G H st x y d e z st' Q S rx ry h post
  unfold mulD at h
  split at h
  · split at h
    · rename_i hm
      cases h; cases rx; cases ry
      exact .inl ⟨_, _, rfl, rfl, hm, post.same S (.int _)⟩
    · cases h
  · split at h
    · rename_i hk
      subst hk
      cases h; cases ry
      cases rx with
      | tup h1 h2 => exact .inr (.inr (.inr ⟨_, _, rfl, rfl, S.t h1, post.same S (.tup h1 h2)⟩))
    · split at h
      · rename_i hm
        cases h; cases ry
        cases rx with
        | tup h1 h2 =>
          refine .inr (.inl ⟨_, _, _, rfl, rfl, S.t h1, fun e => ?_, hm.2.1, hm.2.2.1, by rw [h2.len]; exact hm.2.2.2, fun p hp => post.newT S hp (h2.rep _)⟩)
          subst e
          cases h2
          exact hm.1 rfl
      · cases h
  · split at h
    · rename_i ds hq
      split at h
      · rename_i hm
        cases h; cases ry
        obtain ⟨a, vs, rfl, h1, h2⟩ := lsD.ok S rx hq
        exact .inr (.inr (.inl ⟨_, _, vs, rfl, rfl, h1, hm.1, hm.2.1, by rw [h2.len]; exact szl hm.2.2, fun p hp => post.newL S hp (h2.rep _)⟩))
      · cases h
    · cases h
  · cases h
section
variable {X : Cx} {a b : Expr} {fa fb : FE} {pos : Pos}
theorem c_mul [Tbs] (ha : PE X a (tE X.K fa)) (hb : PE X b (tE X.K fb)) : PE X (.BinOp a .Mult b pos) (tE X.K (E2 mulD fa fb)) := c_op o_mul s_mul ha hb
theorem c_neg [Tbs] (ha : PE X a (tE X.K fa)) : PE X (.UnaryOp .USub a pos) (tE X.K (E1 negD fa)) :=
  peImp (pe_un un_neg ha) fun σ H Q ⟨θ, G, env, st, d, st', S, EN, hf, post⟩ => by
    obtain ⟨⟨x, st1⟩, h1, h2⟩ := Option.bind_eq_some_iff.mp hf
    unfold negD at h2
    split at h2
    · cases h2
      rename_i he
      dsimp only at he
      subst he
      refine tE.go S EN h1 fun θ1 G1 H1 v1 e1 S1 EN1 r1 => ?_
      cases r1
      exact ⟨_, rfl, post _ _ _ _ e1 S1 (.int _)⟩
    · cases h2
theorem c_gintE [Tbs] {x : PySem.Str} {i : Int} (hg : Gl X x) (hm : ∃ t, X.mg x = some (.int i t)) (hd : (x == ("__debug__" : PySem.Str)) = false := by decide) : PE X (.Name x pos) (tE X.K (Ec (.int i))) := by
  obtain ⟨t, h⟩ := hm
  exact c_gint hg h hd
theorem c_gstrE [Tbs] {x : PySem.Str} {i : PySem.Str} (hg : Gl X x) (hm : ∃ t, X.mg x = some (.str i t)) (hd : (x == ("__debug__" : PySem.Str)) = false := by decide) : PE X (.Name x pos) (tE X.K (Ec (.str i))) := by
  obtain ⟨t, h⟩ := hm
  exact c_gstr hg h hd
end

/-! ## reckoning with the readings -/
def bnd {α β : Type} (o : Option α) (f : α → Option β) : Option β := o.bind f
theorem bnd_some {α β : Type} (a : α) (f : α → Option β) : bnd (some a) f = f a := rfl
theorem bnd_none {α β : Type} (f : α → Option β) : bnd none f = none := rfl
theorem bnd_congr {α β : Type} {o o' : Option α} {f : α → Option β} (h : o = o') : bnd o f = bnd o' f := by rw [h]
section
variable {env : Env} {st : Sto} {fa fb fc fo fi fe fv : FE} {ga gb : FT} {g : FA} {f f' : F2} {fC : FC} {s s' : FS}
theorem q_v (i : Nat) : Ev i env st = match env[i]? with | some (some d) => some (d, st) | _ => none := rfl
theorem q_c (d : D) : Ec d env st = some (d, st) := rfl
theorem q_2 : E2 f fa fb env st = bnd (fa env st) fun p => bnd (fb env p.2) fun q => f p.1 q.1 q.2 := rfl
theorem q_1 {f : D → Sto → Option (D × Sto)} : E1 f fa env st = bnd (fa env st) fun p => f p.1 p.2 := rfl
theorem q_3 : E3 f f' fa fb fc env st = bnd (fa env st) fun p => bnd (fb env p.2) fun q => bnd (f p.1 q.1 q.2) fun r => match r.1 with
  | .bl true => bnd (fc env r.2) fun u => f' q.1 u.1 u.2
  | .bl false => some (.bl false, r.2)
  | _ => none := rfl
theorem q_nil : Anil env st = some ([], st) := rfl
theorem q_cons : Acons fa g env st = bnd (fa env st) fun p => bnd (g env p.2) fun q => some (p.1 :: q.1, q.2) := rfl
theorem q_tup : Etup g env st = bnd (g env st) fun p => if p.1.length ≤ 16777216 then some (.tup p.1, p.2) else none := rfl
theorem q_lst : Elst g env st = bnd (g env st) fun p => if p.1.length ≤ 16777216 then some (.lst p.1, p.2) else none := rfl
theorem q_new : Enew g env st = bnd (g env st) fun p => if p.1.length ≤ 16777216 then some (.ref p.2.length, p.2 ++ [.lst p.1]) else none := rfl
theorem q_call : EC fC g env st = bnd (g env st) fun p => fC p.1 p.2 := rfl
theorem q_ar (n : Nat) (ds : List D) : arN n fC ds st = if ds.length = n then fC ds st else none := rfl
theorem q_tb : Tb fa env st = bnd (fa env st) fun p => match p.1 with | .bl b => some (b, p.2) | _ => none := by
  unfold Tb
  cases h : fa env st with
  | none => rfl
  | some p =>
    obtain ⟨x, y⟩ := p
    cases x <;> rfl
theorem q_tt : Tt fa env st = bnd (fa env st) fun p => bnd (truD p.2 p.1) fun b => some (b, p.2) := by
  unfold Tt bnd
  cases h : fa env st with
  | none => rfl
  | some p =>
    cases h2 : truD p.2 p.1 with
    | none => simp only [Option.bind_some, Option.map]; rw [h2]; rfl
    | some b => simp only [Option.bind_some, Option.map]; rw [h2]; rfl
theorem q_and : Tand ga gb env st = bnd (ga env st) fun p => if p.1 = true then gb env p.2 else some (false, p.2) := rfl
theorem q_or : Tor ga gb env st = bnd (ga env st) fun p => if p.1 = true then some (true, p.2) else gb env p.2 := rfl
theorem q_not : Tnot ga env st = bnd (ga env st) fun p => some (!p.1, p.2) := rfl
theorem q_yes : Tyes env st = some (true, st) := rfl
theorem q_eand : Eand fa fb env st = bnd (fa env st) fun p => bnd (truD p.2 p.1) fun b => if b = true then fb env p.2 else some (p.1, p.2) := rfl
theorem q_eor : Eor fa fb env st = bnd (fa env st) fun p => bnd (truD p.2 p.1) fun b => if b = true then some (p.1, p.2) else fb env p.2 := rfl
theorem q_enot : Enot fa env st = bnd (fa env st) fun p => bnd (truD p.2 p.1) fun b => some (.bl (!b), p.2) := by
  unfold Enot bnd
  cases h : fa env st with
  | none => rfl
  | some p =>
    cases h2 : truD p.2 p.1 with
    | none => simp only [Option.bind_some, Option.map]; rw [h2]; rfl
    | some b => simp only [Option.bind_some, Option.map]; rw [h2]; rfl
theorem q_if : Eif ga fa fb env st = bnd (ga env st) fun p => if p.1 = true then fa env p.2 else fb env p.2 := rfl
theorem q_snil : Snil env st = some (.nx env, st) := rfl
theorem q_seq : Sseq s s' env st = bnd (s env st) fun p => match p.1 with | .nx e => s' e p.2 | r => some (r, p.2) := rfl
theorem q_ret : Sret fa env st = bnd (fa env st) fun p => some (.rt p.1, p.2) := rfl
theorem q_retN : SretN env st = some (.rt .non, st) := rfl
theorem q_exp : Sexp fa env st = bnd (fa env st) fun p => some (.nx env, p.2) := rfl
theorem q_set (i : Nat) : Sset i fa env st = bnd (fa env st) fun p => some (.nx (env.set i (some p.1)), p.2) := rfl
theorem q_brk : Sbrk env st = some (.bk env, st) := rfl
theorem q_ctn : Sctn env st = some (.ct env, st) := rfl
theorem q_sif : Sif ga s s' env st = bnd (ga env st) fun p => if p.1 = true then s env p.2 else s' env p.2 := rfl
theorem q_setIx : SsetIx fo fi fv env st = bnd (fv env st) fun p => bnd (fo env p.2) fun q => bnd (fi env q.2) fun r => bnd (setD q.1 r.1 p.1 r.2) fun st' => some (.nx env, st') := by
  unfold SsetIx bnd
  congr 1; funext p; congr 1; funext q; congr 1; funext r
  cases setD q.1 r.1 p.1 r.2 <;> rfl
theorem q_aug (i : Nat) : Saug f i fe env st = match env[i]? with
  | some (some x) => bnd (fe env st) fun p => bnd (f x p.1 p.2) fun q => some (.nx (env.set i (some q.1)), q.2)
  | _ => none := rfl
theorem q_augIx : SaugIx f fo fi fe env st = bnd (fo env st) fun p => bnd (fi env p.2) fun q => bnd (ixD p.1 q.1 q.2) fun r => bnd (fe env r.2) fun u => bnd (f r.1 u.1 u.2) fun w => bnd (setD p.1 q.1 w.1 w.2) fun st' => some (.nx env, st') := by
  unfold SaugIx bnd
  congr 1; funext p; congr 1; funext q; congr 1; funext r; congr 1; funext u; congr 1; funext w
  cases setD p.1 q.1 w.1 w.2 <;> rfl
theorem q_bind (t : Tg) : Sbind t fa env st = bnd (fa env st) fun p => bnd (bindT t p.1 env) fun e => some (.nx e, p.2) := by
  unfold Sbind bnd
  congr 1; funext p
  cases bindT t p.1 env <;> rfl
theorem q_run (n : Nat) (ds : List D) : runF n s ds st = bnd (s (ds.map some ++ List.replicate (n - ds.length) none) st) fun p => match p.1 with
  | .rt d => some (d, p.2)
  | .nx _ => some (.non, p.2)
  | _ => none := rfl
theorem q_for {i : FI} {t : Tg} {b : FS} : Sfor i t b env st = bnd (i env st) fun p => forL p.2.1 t b p.1 env p.2.2 := rfl
theorem q_cmp {i : FI} {t : Tg} {own : List Nat} : Ecmp i t ga fe own env st = bnd (i env st) fun p => if p.1.length ≤ 16777216 then bnd (compL p.2.1 t ga fe (wipeE env own) p.1 p.2.2) fun q => some (.lst q.1, q.2) else none := rfl
theorem q_cmpN {i : FI} {t : Tg} {own : List Nat} : EcmpN i t ga fe own env st = bnd (i env st) fun p => if p.1.length ≤ 16777216 then bnd (compL p.2.1 t ga fe (wipeE env own) p.1 p.2.2) fun q => some (.ref q.2.length, q.2 ++ [.lst q.1]) else none := rfl
theorem q_iseq : Iseq fa env st = bnd (fa env st) fun p => match p.1 with
  | .tup ds => some (ds, [], p.2)
  | .str s => some (chars s, [], p.2)
  | d => bnd (sqD p.2 d) fun ds => some (ds, watchOf d ds, p.2) := by
  unfold Iseq bnd
  congr 1; funext p
  obtain ⟨x, y⟩ := p
  cases x <;> first | rfl | (dsimp only; generalize sqD _ _ = o; cases o <;> rfl)
theorem q_rng1 : Irng1 g env st = bnd (g env st) fun p => match p.1 with
  | [.int n] => if -(2 ^ 62) ≤ n ∧ n < 2 ^ 62 then some (rangeL 0 n.toNat, [], p.2) else none
  | _ => none := rfl
theorem q_rng2 : Irng2 g env st = bnd (g env st) fun p => match p.1 with
  | [.int lo, .int n] => if -(2 ^ 62) ≤ lo ∧ lo < 2 ^ 62 ∧ -(2 ^ 62) ≤ n ∧ n < 2 ^ 62 then some (rangeL lo (n - lo).toNat, [], p.2) else none
  | _ => none := rfl
theorem q_em {T : String} {f : FM} : EM T f fo g env st = bnd (fo env st) fun p => match p.1 with
  | .str s => if T = "str" then bnd (g env p.2) fun q => f (.str s) q.1 q.2 else none
  | d => if T = "list" then bnd (sqD p.2 d) fun _ => bnd (g env p.2) fun q => f d q.1 q.2 else none := rfl
/-! by values -/
theorem v_addI (i j : Int) : addD (.int i) (.int j) st = some (.int (i + j), st) := rfl
theorem v_addS (a b : PySem.Str) : addD (.str a) (.str b) st = if a.length + b.length ≤ 16777216 then some (.str (a ++ b), st) else none := rfl
theorem v_addT (a b : List D) : addD (.tup a) (.tup b) st = if a.length + b.length ≤ 16777216 then some (.tup (a ++ b), st) else none := rfl
theorem v_sub (i j : Int) : subD (.int i) (.int j) st = some (.int (i - j), st) := rfl
theorem v_mul (i j : Int) : mulD (.int i) (.int j) st = if mulOk i j then some (.int (i * j), st) else none := rfl
theorem v_fdiv (i j : Int) : fdivD (.int i) (.int j) st = if 0 < j ∧ j < 18446744073709551616 then some (.int (i / j), st) else none := rfl
theorem v_mod (i j : Int) : modD (.int i) (.int j) st = if 0 < j then some (.int (i % j), st) else none := rfl
theorem v_neg (i : Int) : negD (.int i) st = some (.int (-i), st) := rfl
theorem v_lt (i j : Int) : ltD (.int i) (.int j) st = some (.bl (decide (i < j)), st) := rfl
theorem v_le (i j : Int) : leD (.int i) (.int j) st = some (.bl (decide (i ≤ j)), st) := rfl
theorem v_gt (i j : Int) : gtD (.int i) (.int j) st = some (.bl (decide (j < i)), st) := rfl
theorem v_ge (i j : Int) : geD (.int i) (.int j) st = some (.bl (decide (j ≤ i)), st) := rfl
theorem v_isn (b : Bool) (x : D) : isnD b x .non st = some (.bl (if b then !isNon x else isNon x), st) := rfl
theorem v_iadd (i j : Int) : iaddI (.int i) (.int j) st = some (.int (i + j), st) := rfl
theorem v_pow (i j : Int) : powD (.int i) (.int j) st = if 0 ≤ j ∧ j ≤ 1000000 ∧ i.natAbs < 18446744073709551616 then some (.int (i ^ j.toNat), st) else none := rfl
theorem v_abs (i : Int) : fAbs [.int i] st = some (.int (if i < 0 then -i else i), st) := rfl
theorem v_intI (i : Int) : fInt [.int i] st = some (.int i, st) := rfl
theorem v_intB (b : Bool) : fInt [.bl b] st = some (.int (if b then 1 else 0), st) := rfl
theorem v_lenT (ds : List D) : fLen [.tup ds] st = some (.int ds.length, st) := rfl
theorem v_lenL (ds : List D) : fLen [.lst ds] st = some (.int ds.length, st) := rfl
theorem v_lenQ (ds : List D) : fLen [.sq ds] st = some (.int ds.length, st) := rfl
theorem v_lenR (n : Nat) : fLen [.ref n] st = bnd st[n]? fun | .lst ds => some (.int ds.length, st) | _ => none := by
  unfold fLen sqD bnd
  cases h : st[n]? with
  | none => simp only [h]; rfl
  | some o => cases o <;> simp only [h] <;> rfl
theorem v_ixT (ds : List D) (i : Int) : ixD (.tup ds) (.int i) st = bnd (atI ds i) fun d => some (d, st) := by
  unfold ixD bnd
  cases h : atI ds i <;> simp [h]
theorem v_ixL (ds : List D) (i : Int) : ixD (.lst ds) (.int i) st = bnd (atI ds i) fun d => some (d, st) := by
  unfold ixD bnd
  cases h : atI ds i <;> simp [h, sqD]
theorem v_ixQ (ds : List D) (i : Int) : ixD (.sq ds) (.int i) st = bnd (atI ds i) fun d => some (d, st) := by
  unfold ixD bnd
  cases h : atI ds i <;> simp [h, sqD]
theorem v_ixR (n : Nat) (i : Int) : ixD (.ref n) (.int i) st = bnd st[n]? fun | .lst ds => bnd (atI ds i) fun d => some (d, st) | _ => none := by
  unfold ixD bnd
  cases h : st[n]? with
  | none => simp [h, sqD]
  | some o =>
    cases o with
    | lst ds => cases h2 : atI ds i <;> simp [h, sqD, h2]
    | _ => simp [h, sqD]
theorem v_ixS (z : PySem.Str) (i : Int) : ixD (.str z) (.int i) st = if z.length ≤ 16777216 then bnd (atI z.cps.toList i) fun c => some (.str ⟨#[c]⟩, st) else none := by
  unfold ixD bnd
  cases h : atI z.cps.toList i <;> simp [h]
theorem v_set (n : Nat) (k : Int) (v : D) : setD (.ref n) (.int k) v st = bnd st[n]? fun | .lst es => bnd (ixN es.length k) fun j => some (st.set n (.lst (es.set j v))) | _ => none := by
  unfold setD bnd
  cases h : st[n]? with
  | none => simp [h]
  | some o =>
    cases o with
    | lst ds => cases h2 : ixN ds.length k <;> simp [h, h2]
    | _ => simp [h]
theorem v_eqI (i j : Int) : eqD false (.int i) (.int j) st = some (.bl (i == j), st) := rfl
theorem v_neI (i j : Int) : eqD true (.int i) (.int j) st = some (.bl (!(i == j)), st) := rfl
theorem v_eqS (i j : PySem.Str) : eqD false (.str i) (.str j) st = some (.bl (i == j), st) := rfl
theorem v_neS (i j : PySem.Str) : eqD true (.str i) (.str j) st = some (.bl (!(i == j)), st) := rfl
theorem v_app (n : Nat) (y : D) : mApp (.ref n) [y] st = bnd st[n]? fun | .lst es => if es.length < 16777216 then some (.non, st.set n (.lst (es ++ [y]))) else none | _ => none := by
  unfold mApp bnd
  cases h : st[n]? with
  | none => simp [h]
  | some o => cases o <;> simp [h]
theorem v_sqL (ds : List D) : sqD st (.lst ds) = some ds := rfl
theorem v_sqQ (ds : List D) : sqD st (.sq ds) = some ds := rfl
theorem v_sqR (n : Nat) : sqD st (.ref n) = bnd st[n]? fun | .lst ds => some ds | _ => none := by
  unfold sqD bnd
  cases h : st[n]? with
  | none => simp [h]
  | some o => cases o <;> simp [h]
theorem v_truB (b : Bool) : truD st (.bl b) = some b := rfl
theorem v_truI (i : Int) : truD st (.int i) = some (i != 0) := rfl
theorem v_isiI (T : String) (i : Int) : fIsi [.int i, .ty T] st = bnd (kitB "int" T) fun b => some (.bl b, st) := by
  unfold fIsi bnd
  simp only [tyN]
  cases kitB "int" T <;> rfl
theorem kit_ii : kitB "int" "int" = some true := by decide +kernel
theorem kit_tt : kitB "tuple" "tuple" = some true := by decide +kernel
theorem kit_it : kitB "int" "tuple" = some false := by decide +kernel
theorem kit_st : kitB "str" "tuple" = some false := by decide +kernel
theorem kit_si : kitB "str" "int" = some false := by decide +kernel
theorem kit_ss : kitB "str" "str" = some true := by decide +kernel
theorem kit_lt : kitB "list" "tuple" = some false := by decide +kernel
theorem kit_ls : kitB "list" "str" = some false := by decide +kernel
theorem kit_ib : kitB "int" "bool" = some false := by decide +kernel
/-! places -/
theorem at_0 {α : Type} (a : α) (l : List α) : atI (a :: l) 0 = some a := atI_nat (j := 0) rfl
theorem at_1 {α : Type} (a b : α) (l : List α) : atI (a :: b :: l) 1 = some b := atI_nat (j := 1) rfl
theorem at_2 {α : Type} (a b c : α) (l : List α) : atI (a :: b :: c :: l) 2 = some c := atI_nat (j := 2) rfl
theorem at_3 {α : Type} (a b c d : α) (l : List α) : atI (a :: b :: c :: d :: l) 3 = some d := atI_nat (j := 3) rfl
theorem at_4 {α : Type} (a b c d e : α) (l : List α) : atI (a :: b :: c :: d :: e :: l) 4 = some e := atI_nat (j := 4) rfl
theorem ixN_ok {n : Nat} {i : Int} (h : 0 ≤ i) (h2 : i < n) : ixN n i = some i.toNat := by
  unfold ixN
  rw [if_pos h, if_pos h2]
theorem atI_ok {α : Type} {l : List α} {i : Int} (h : 0 ≤ i) (h2 : i < l.length) : atI l i = some (l[i.toNat]'(by omega)) := by
  unfold atI
  rw [ixN_ok h h2]
  exact List.getElem?_eq_getElem _
theorem atI_get {α : Type} {l : List α} {i : Int} {x : α} (h : 0 ≤ i) (h2 : l[i.toNat]? = some x) : atI l i = some x := by
  obtain ⟨j, e⟩ : ∃ j : Nat, i = (j : Int) := ⟨i.toNat, by omega⟩
  subst e
  exact atI_nat (by simpa using h2)
theorem mulOk_r {i j : Int} (h : -(2 ^ 64) < j ∧ j < 2 ^ 64) : mulOk i j := .inr h
theorem mulOk_l {i j : Int} (h : -(2 ^ 64) < i ∧ i < 2 ^ 64) : mulOk i j := .inl h
end

/-! ## what a reckoning wants -/
def wp {α : Type} (o : Option (α × Sto)) (Q : α → Sto → Prop) : Prop := ∃ a st, o = some (a, st) ∧ Q a st
def wpI (o : Option (List D × Watch × Sto)) (Q : List D → Watch → Sto → Prop) : Prop := ∃ a w st, o = some (a, w, st) ∧ Q a w st
theorem wp.mono {α : Type} {o : Option (α × Sto)} {Q Q' : α → Sto → Prop} (h : wp o Q) (k : ∀ a st, Q a st → Q' a st) : wp o Q' := by
  obtain ⟨a, st, e, q⟩ := h
  exact ⟨a, st, e, k _ _ q⟩
theorem wp_some {α : Type} {a : α} {st : Sto} {Q : α → Sto → Prop} (h : Q a st) : wp (some (a, st)) Q := ⟨a, st, rfl, h⟩
theorem wp_of {α : Type} {o : Option (α × Sto)} {a : α} {st : Sto} {Q : α → Sto → Prop} (e : o = some (a, st)) (h : Q a st) : wp o Q := ⟨a, st, e, h⟩
theorem wp_bind {α β : Type} {o : Option (α × Sto)} {f : α × Sto → Option (β × Sto)} {Q : β → Sto → Prop} (h : wp o fun a st => wp (f (a, st)) Q) : wp (o.bind f) Q := by
  obtain ⟨a, st, e, b, st2, e2, q⟩ := h
  exact ⟨b, st2, by rw [e]; exact e2, q⟩
theorem wp_bnd {α : Type} {β : Type} {o : Option α} {f : α → Option (β × Sto)} {a : α} {Q : β → Sto → Prop} (e : o = some a) (h : wp (f a) Q) : wp (bnd o f) Q := by
  rw [e]; exact h
theorem wp_if {α : Type} {c : Prop} [Decidable c] {o o' : Option (α × Sto)} {Q : α → Sto → Prop} (hc : c) (h : wp o Q) : wp (if c then o else o') Q := by
  rw [if_pos hc]; exact h
/-- a side condition, then the rest -/
def Sd (p q : Prop) : Prop := p ∧ q
theorem y_sd {p q : Prop} (h : p) (k : q) : Sd p q := ⟨h, k⟩
def seqK (s : FS) (Q : Fl → Sto → Prop) : Fl → Sto → Prop
  | .nx e, st => wp (s e st) Q
  | r, st => Q r st
def loopK (Q : Fl → Sto → Prop) (N : Env → Sto → Prop) : Fl → Sto → Prop
  | .nx e, st => N e st
  | .ct e, st => N e st
  | .bk e, st => Q (.nx e) st
  | .rt d, st => Q (.rt d) st
def runK (Q : D → Sto → Prop) : Fl → Sto → Prop
  | .rt d, st => Q d st
  | .nx _, st => Q .non st
  | _, _ => False
section
variable {env env' : Env} {st : Sto} {fa fb fc fo fi fe fv : FE} {ga gb : FT} {g : FA} {f f' : F2} {fC : FC} {s s' : FS} {QE : D → Sto → Prop} {QA : List D → Sto → Prop} {QT : Bool → Sto → Prop} {QS : Fl → Sto → Prop} {QI : List D → Watch → Sto → Prop}
theorem x_v {i : Nat} {d : D} (e : env[i]? = some (some d)) (h : QE d st) : wp (Ev i env st) QE := ⟨d, st, by unfold Ev; rw [e], h⟩
theorem x_c {d : D} (h : QE d st) : wp (Ec d env st) QE := ⟨d, st, rfl, h⟩
theorem x_2 (h : wp (fa env st) fun x st1 => wp (fb env st1) fun y st2 => wp (f x y st2) QE) : wp (E2 f fa fb env st) QE := wp_bind (h.mono fun _ _ q => wp_bind q)
theorem x_1 {f1 : D → Sto → Option (D × Sto)} (h : wp (fa env st) fun x st1 => wp (f1 x st1) QE) : wp (E1 f1 fa env st) QE := wp_bind h
theorem x_3 (h : wp (fa env st) fun x st1 => wp (fb env st1) fun y st2 => wp (f x y st2) fun r st3 => ∃ b, r = .bl b ∧ if b = true then wp (fc env st3) fun z st4 => wp (f' y z st4) QE else QE (.bl false) st3) : wp (E3 f f' fa fb fc env st) QE := by
  refine wp_bind (h.mono fun _ _ q => wp_bind (q.mono fun _ _ q => wp_bind (q.mono fun r st3 q => ?_)))
  obtain ⟨b, rfl, q⟩ := q
  cases b with
  | true => rw [if_pos rfl] at q; exact wp_bind q
  | false => rw [if_neg Bool.false_ne_true] at q; exact wp_some q
theorem x_nil (h : QA [] st) : wp (Anil env st) QA := ⟨[], st, rfl, h⟩
theorem x_cons (h : wp (fa env st) fun x st1 => wp (g env st1) fun xs st2 => QA (x :: xs) st2) : wp (Acons fa g env st) QA := wp_bind (h.mono fun _ _ q => wp_bind (q.mono fun _ _ q => wp_some q))
theorem x_tup (h : wp (g env st) fun xs st1 => Sd (xs.length ≤ 16777216) (QE (.tup xs) st1)) : wp (Etup g env st) QE := wp_bind (h.mono fun _ _ q => wp_if q.1 (wp_some q.2))
theorem x_lst (h : wp (g env st) fun xs st1 => Sd (xs.length ≤ 16777216) (QE (.lst xs) st1)) : wp (Elst g env st) QE := wp_bind (h.mono fun _ _ q => wp_if q.1 (wp_some q.2))
theorem x_new (h : wp (g env st) fun xs st1 => Sd (xs.length ≤ 16777216) (QE (.ref st1.length) (st1 ++ [.lst xs]))) : wp (Enew g env st) QE := wp_bind (h.mono fun _ _ q => wp_if q.1 (wp_some q.2))
theorem x_call (h : wp (g env st) fun xs st1 => wp (fC xs st1) QE) : wp (EC fC g env st) QE := wp_bind h
theorem x_ar {n : Nat} {ds : List D} (e : ds.length = n) (h : wp (fC ds st) QE) : wp (arN n fC ds st) QE := wp_if e h
theorem x_tb (h : wp (fa env st) fun x st1 => ∃ b, x = .bl b ∧ QT b st1) : wp (Tb fa env st) QT := by
  rw [q_tb]
  refine wp_bind (h.mono fun x st1 q => ?_)
  obtain ⟨b, rfl, q⟩ := q
  exact wp_some q
theorem x_tt (h : wp (fa env st) fun x st1 => ∃ b, truD st1 x = some b ∧ QT b st1) : wp (Tt fa env st) QT := by
  rw [q_tt]
  refine wp_bind (h.mono fun x st1 q => ?_)
  obtain ⟨b, e, q⟩ := q
  exact wp_bnd e (wp_some q)
theorem x_and (h : wp (ga env st) fun b st1 => if b = true then wp (gb env st1) QT else QT false st1) : wp (Tand ga gb env st) QT := wp_bind (h.mono fun b st1 q => by
  cases b with
  | true => rw [if_pos rfl] at q ⊢; exact q
  | false => rw [if_neg Bool.false_ne_true] at q ⊢; exact wp_some q)
theorem x_or (h : wp (ga env st) fun b st1 => if b = true then QT true st1 else wp (gb env st1) QT) : wp (Tor ga gb env st) QT := wp_bind (h.mono fun b st1 q => by
  cases b with
  | true => rw [if_pos rfl] at q ⊢; exact wp_some q
  | false => rw [if_neg Bool.false_ne_true] at q ⊢; exact q)
theorem x_not (h : wp (ga env st) fun b st1 => QT (!b) st1) : wp (Tnot ga env st) QT := wp_bind (h.mono fun b st1 q => wp_some q)
theorem x_yes (h : QT true st) : wp (Tyes env st) QT := wp_some h
theorem x_eand (h : wp (fa env st) fun x st1 => ∃ b, truD st1 x = some b ∧ if b = true then wp (fb env st1) QE else QE x st1) : wp (Eand fa fb env st) QE := wp_bind (h.mono fun x st1 q => by
  obtain ⟨b, e, q⟩ := q
  refine wp_bnd e ?_
  cases b with
  | true => rw [if_pos rfl] at q ⊢; exact q
  | false => rw [if_neg Bool.false_ne_true] at q ⊢; exact wp_some q)
theorem x_eor (h : wp (fa env st) fun x st1 => ∃ b, truD st1 x = some b ∧ if b = true then QE x st1 else wp (fb env st1) QE) : wp (Eor fa fb env st) QE := wp_bind (h.mono fun x st1 q => by
  obtain ⟨b, e, q⟩ := q
  refine wp_bnd e ?_
  cases b with
  | true => rw [if_pos rfl] at q ⊢; exact wp_some q
  | false => rw [if_neg Bool.false_ne_true] at q ⊢; exact q)
theorem x_enot (h : wp (fa env st) fun x st1 => ∃ b, truD st1 x = some b ∧ QE (.bl (!b)) st1) : wp (Enot fa env st) QE := by
  rw [q_enot]
  refine wp_bind (h.mono fun x st1 q => ?_)
  obtain ⟨b, e, q⟩ := q
  exact wp_bnd e (wp_some q)
theorem x_if (h : wp (ga env st) fun b st1 => if b = true then wp (fa env st1) QE else wp (fb env st1) QE) : wp (Eif ga fa fb env st) QE := wp_bind (h.mono fun b st1 q => by
  cases b with
  | true => rw [if_pos rfl] at q ⊢; exact q
  | false => rw [if_neg Bool.false_ne_true] at q ⊢; exact q)
theorem x_snil (h : QS (.nx env) st) : wp (Snil env st) QS := wp_some h
theorem x_seq (h : wp (s env st) (seqK s' QS)) : wp (Sseq s s' env st) QS := wp_bind (h.mono fun r st1 q => by
  cases r with
  | nx e => exact q
  | rt d => exact wp_some q
  | bk e => exact wp_some q
  | ct e => exact wp_some q)
theorem x_seqnx (e : env = env') (h : wp (s env' st) QS) : seqK s QS (.nx env) st := by subst e; exact h
theorem x_seqrt {d : D} (h : QS (.rt d) st) : seqK s QS (.rt d) st := h
theorem x_seqbk (h : QS (.bk env) st) : seqK s QS (.bk env) st := h
theorem x_seqct (h : QS (.ct env) st) : seqK s QS (.ct env) st := h
theorem x_loopnx {N : Env → Sto → Prop} (h : N env st) : loopK QS N (.nx env) st := h
theorem x_loopct {N : Env → Sto → Prop} (h : N env st) : loopK QS N (.ct env) st := h
theorem x_loopbk {N : Env → Sto → Prop} (h : QS (.nx env) st) : loopK QS N (.bk env) st := h
theorem x_looprt {N : Env → Sto → Prop} {d : D} (h : QS (.rt d) st) : loopK QS N (.rt d) st := h
theorem x_runrt {d : D} (h : QE d st) : runK QE (.rt d) st := h
theorem x_runnx (h : QE .non st) : runK QE (.nx env) st := h
theorem x_ret (h : wp (fa env st) fun x st1 => QS (.rt x) st1) : wp (Sret fa env st) QS := wp_bind (h.mono fun _ _ q => wp_some q)
theorem x_retN (h : QS (.rt .non) st) : wp (SretN env st) QS := wp_some h
theorem x_exp (h : wp (fa env st) fun _ st1 => QS (.nx env) st1) : wp (Sexp fa env st) QS := wp_bind (h.mono fun _ _ q => wp_some q)
theorem x_set {i : Nat} (h : wp (fa env st) fun x st1 => QS (.nx (env.set i (some x))) st1) : wp (Sset i fa env st) QS := wp_bind (h.mono fun _ _ q => wp_some q)
theorem x_brk (h : QS (.bk env) st) : wp (Sbrk env st) QS := wp_some h
theorem x_ctn (h : QS (.ct env) st) : wp (Sctn env st) QS := wp_some h
theorem x_sif (h : wp (ga env st) fun b st1 => if b = true then wp (s env st1) QS else wp (s' env st1) QS) : wp (Sif ga s s' env st) QS := wp_bind (h.mono fun b st1 q => by
  cases b with
  | true => rw [if_pos rfl] at q ⊢; exact q
  | false => rw [if_neg Bool.false_ne_true] at q ⊢; exact q)
def wpP (o : Option Sto) (Q : Sto → Prop) : Prop := ∃ st, o = some st ∧ Q st
theorem x_setIx (h : wp (fv env st) fun x st1 => wp (fo env st1) fun o st2 => wp (fi env st2) fun i st3 => wpP (setD o i x st3) fun st4 => QS (.nx env) st4) : wp (SsetIx fo fi fv env st) QS := by
  rw [q_setIx]
  refine wp_bind (h.mono fun x st1 q => wp_bind (q.mono fun o st2 q => wp_bind (q.mono fun i st3 q => ?_)))
  obtain ⟨st4, e, q⟩ := q
  exact wp_bnd e (wp_some q)
theorem x_aug {i : Nat} {d : D} (e : env[i]? = some (some d)) (h : wp (fe env st) fun y st1 => wp (f d y st1) fun z st2 => QS (.nx (env.set i (some z))) st2) : wp (Saug f i fe env st) QS := by
  unfold Saug
  rw [e]
  exact wp_bind (h.mono fun _ _ q => wp_bind (q.mono fun _ _ q => wp_some q))
theorem x_augIx (h : wp (fo env st) fun o st1 => wp (fi env st1) fun i st2 => wp (ixD o i st2) fun x st3 => wp (fe env st3) fun y st4 => wp (f x y st4) fun z st5 => wpP (setD o i z st5) fun st6 => QS (.nx env) st6) : wp (SaugIx f fo fi fe env st) QS := by
  rw [q_augIx]
  refine wp_bind (h.mono fun o st1 q => wp_bind (q.mono fun i st2 q => wp_bind (q.mono fun x st3 q => wp_bind (q.mono fun y st4 q => wp_bind (q.mono fun z st5 q => ?_)))))
  obtain ⟨st6, e, q⟩ := q
  exact wp_bnd e (wp_some q)
theorem x_bind {t : Tg} (h : wp (fa env st) fun x st1 => ∃ e, bindT t x env = some e ∧ QS (.nx e) st1) : wp (Sbind t fa env st) QS := by
  rw [q_bind]
  refine wp_bind (h.mono fun x st1 q => ?_)
  obtain ⟨e, h1, h2⟩ := q
  exact wp_bnd h1 (wp_some h2)
theorem x_run {n : Nat} {ds : List D} (e : ds.map some ++ List.replicate (n - ds.length) none = env) (h : wp (s env st) (runK QE)) : wp (runF n s ds st) QE := by
  rw [q_run, e]
  refine wp_bind (h.mono fun r st1 q => ?_)
  cases r with
  | nx e => exact wp_some q
  | rt d => exact wp_some q
  | bk e => exact q.elim
  | ct e => exact q.elim
theorem x_for {i : FI} {t : Tg} {b : FS} (h : wpI (i env st) fun items w st1 => wp (forL w t b items env st1) QS) : wp (Sfor i t b env st) QS := by
  obtain ⟨a, w, st1, e, q⟩ := h
  rw [q_for, e]
  exact q
theorem x_cmp {i : FI} {t : Tg} {own : List Nat} (h : wpI (i env st) fun items w st1 => Sd (items.length ≤ 16777216) (wp (compL w t ga fe (wipeE env own) items st1) fun ds st2 => QE (.lst ds) st2)) : wp (Ecmp i t ga fe own env st) QE := by
  obtain ⟨a, w, st1, e, hl, q⟩ := h
  rw [q_cmp, e]
  exact wp_if hl (wp_bind (q.mono fun _ _ q => wp_some q))
theorem x_cmpN {i : FI} {t : Tg} {own : List Nat} (h : wpI (i env st) fun items w st1 => Sd (items.length ≤ 16777216) (wp (compL w t ga fe (wipeE env own) items st1) fun ds st2 => QE (.ref st2.length) (st2 ++ [.lst ds]))) : wp (EcmpN i t ga fe own env st) QE := by
  obtain ⟨a, w, st1, e, hl, q⟩ := h
  rw [q_cmpN, e]
  exact wp_if hl (wp_bind (q.mono fun _ _ q => wp_some q))
theorem wpI_bind {α : Type} {o : Option (α × Sto)} {f : α × Sto → Option (List D × Watch × Sto)} (h : wp o fun a st => wpI (f (a, st)) QI) : wpI (o.bind f) QI := by
  obtain ⟨a, st, e, q⟩ := h
  rw [e]
  exact q
def itemsK (QI : List D → Watch → Sto → Prop) : D → Sto → Prop
  | .tup ds, st => QI ds [] st
  | .str s, st => QI (chars s) [] st
  | d, st => ∃ ds, sqD st d = some ds ∧ QI ds (watchOf d ds) st
theorem x_iseq (h : wp (fa env st) (itemsK QI)) : wpI (Iseq fa env st) QI := by
  refine wpI_bind (h.mono fun d st1 q => ?_)
  cases d with
  | tup ds => exact ⟨_, _, _, rfl, q⟩
  | str z => exact ⟨_, _, _, rfl, q⟩
  | _ =>
    obtain ⟨ds, e, q⟩ := q
    exact ⟨_, _, _, by dsimp only; rw [e]; rfl, q⟩
theorem x_itT {ds : List D} (h : QI ds [] st) : itemsK QI (.tup ds) st := h
theorem x_itS {z : PySem.Str} (h : QI (chars z) [] st) : itemsK QI (.str z) st := h
theorem x_itL {ds : List D} (h : QI ds [] st) : itemsK QI (.lst ds) st := ⟨ds, rfl, h⟩
theorem x_itQ {ds : List D} (h : QI ds [] st) : itemsK QI (.sq ds) st := ⟨ds, rfl, h⟩
theorem x_itR {n : Nat} {ds : List D} (e : st[n]? = some (.lst ds)) (h : QI ds [(n, ds)] st) : itemsK QI (.ref n) st := ⟨ds, by simp only [sqD, e], h⟩
theorem x_rng1 (h : wp (g env st) fun xs st1 => ∃ n, xs = [.int n] ∧ Sd (-4611686018427387904 ≤ n ∧ n < 4611686018427387904) (QI (rangeL 0 n.toNat) [] st1)) : wpI (Irng1 g env st) QI := by
  refine wpI_bind (h.mono fun d st1 q => ?_)
  obtain ⟨n, rfl, hb, q⟩ := q
  exact ⟨_, _, _, if_pos hb, q⟩
theorem x_rng2 (h : wp (g env st) fun xs st1 => ∃ lo n, xs = [.int lo, .int n] ∧ Sd (-4611686018427387904 ≤ lo ∧ lo < 4611686018427387904 ∧ -4611686018427387904 ≤ n ∧ n < 4611686018427387904) (QI (rangeL lo (n - lo).toNat) [] st1)) : wpI (Irng2 g env st) QI := by
  refine wpI_bind (h.mono fun d st1 q => ?_)
  obtain ⟨lo, n, rfl, hb, q⟩ := q
  exact ⟨_, _, _, if_pos hb, q⟩
theorem x_rng3 (h : wp (g env st) fun xs st1 => ∃ i j, xs = [.int i, .int j, .int (-1)] ∧ Sd (-4611686018427387904 ≤ i ∧ i < 4611686018427387904 ∧ -4611686018427387904 ≤ j ∧ j < 4611686018427387904) (QI (downL i (i - j).toNat) [] st1)) : wpI (Irng3 g env st) QI := by
  refine wpI_bind (h.mono fun d st1 q => ?_)
  obtain ⟨i, j, rfl, hb, q⟩ := q
  exact ⟨_, _, _, if_pos hb, q⟩
/-- a loop by what holds -/
theorem x_loop {w : Watch} {t : Tg} {b : FS} {items : List D} (I : Nat → Env → Sto → Prop) (h0 : I 0 env st) (hw : ∀ i e s, I i e s → watchOk w s)
    (hs : ∀ i x e s, items[i]? = some x → I i e s → ∃ e1, bindT t x e = some e1 ∧ wp (b e1 s) (loopK QS (I (i + 1)))) (hd : ∀ e s, I items.length e s → QS (.nx e) s) : wp (forL w t b items env st) QS := by
  have key : ∀ (k : Nat) (i : Nat) (e : Env) (s : Sto), k = items.length - i → i ≤ items.length → I i e s → wp (forL w t b (items.drop i) e s) QS := by
    intro k
    induction k with
    | zero =>
      intro i e s hk hi h
      have e1 : i = items.length := by omega
      subst e1
      rw [List.drop_length]
      unfold forL
      exact wp_if (hw _ _ _ h) (wp_some (hd _ _ h))
    | succ k ih =>
      intro i e s hk hi h
      have hlt : i < items.length := by omega
      rw [List.drop_eq_getElem_cons hlt]
      unfold forL
      refine wp_if (hw _ _ _ h) ?_
      obtain ⟨e1, hb, q⟩ := hs i _ e s (List.getElem?_eq_getElem hlt) h
      rw [hb]
      refine wp_bind (q.mono fun r s1 q => ?_)
      cases r with
      | nx e2 => exact ih (i + 1) e2 s1 (by omega) hlt q
      | ct e2 => exact ih (i + 1) e2 s1 (by omega) hlt q
      | bk e2 => exact wp_some q
      | rt d => exact wp_some q
  exact key _ 0 env st rfl (Nat.zero_le _) h0
/-- a comprehension by what holds -/
theorem x_comp {w : Watch} {t : Tg} {items : List D} (I : Nat → List D → Sto → Prop) (h0 : I 0 [] st) (hw : ∀ i a s, I i a s → watchOk w s)
    (hs : ∀ i x a s, items[i]? = some x → I i a s → ∃ e1, bindT t x env = some e1 ∧ wp (ga e1 s) fun c s1 => if c = true then wp (fe e1 s1) fun y s2 => I (i + 1) (a ++ [y]) s2 else I (i + 1) a s1)
    (hd : ∀ a s, I items.length a s → QA a s) : wp (compL w t ga fe env items st) QA := by
  have key : ∀ (k : Nat) (i : Nat) (a : List D) (s : Sto), k = items.length - i → i ≤ items.length → I i a s → wp (compL w t ga fe env (items.drop i) s) fun r s' => QA (a ++ r) s' := by
    intro k
    induction k with
    | zero =>
      intro i a s hk hi h
      have e1 : i = items.length := by omega
      subst e1
      rw [List.drop_length]
      unfold compL
      exact wp_if (hw _ _ _ h) (wp_some (by rw [List.append_nil]; exact hd _ _ h))
    | succ k ih =>
      intro i a s hk hi h
      have hlt : i < items.length := by omega
      rw [List.drop_eq_getElem_cons hlt]
      unfold compL
      refine wp_if (hw _ _ _ h) ?_
      obtain ⟨e1, hb, q⟩ := hs i _ a s (List.getElem?_eq_getElem hlt) h
      rw [hb]
      refine wp_bind (q.mono fun c s1 q => ?_)
      cases c with
      | true =>
        rw [if_pos rfl] at q
        refine wp_bind (q.mono fun y s2 q => wp_bind ((ih (i + 1) _ s2 (by omega) hlt q).mono fun r s3 q => wp_some ?_))
        rw [List.append_assoc] at q
        exact q
      | false =>
        rw [if_neg Bool.false_ne_true] at q
        exact ih (i + 1) _ s1 (by omega) hlt q
  exact (key _ 0 [] st rfl (Nat.zero_le _) h0).mono fun r s q => q
/-- .. whose items leave the store as it is -/
theorem x_map {w : Watch} {t : Tg} {items : List D} (gv : D → D) (hw : watchOk w st) (hs : ∀ x, x ∈ items → ∃ e1, bindT t x env = some e1 ∧ wp (fe e1 st) fun y s2 => y = gv x ∧ s2 = st)
    (hd : QA (items.map gv) st) : wp (compL w t Tyes fe env items st) QA := by
  refine x_comp (fun i a s => a = (items.take i).map gv ∧ s = st) ⟨by simp, rfl⟩ (fun i a s h => by rw [h.2]; exact hw) ?_ ?_
  · rintro i x a s hx ⟨rfl, rfl⟩
    obtain ⟨e1, hb, q⟩ := hs x (List.mem_of_getElem? hx)
    refine ⟨e1, hb, wp_some ?_⟩
    rw [if_pos rfl]
    refine q.mono fun y s2 ⟨h1, h2⟩ => ⟨?_, h2⟩
    rw [h1, List.take_add_one, hx]
    simp
  · rintro a s ⟨rfl, rfl⟩
    rw [List.take_length]
    exact hd
/-- tests -/
theorem y_ite {b : Bool} {A B : Prop} (h1 : b = true → A) (h2 : b = false → B) : if b = true then A else B := by
  cases b with
  | true => rw [if_pos rfl]; exact h1 rfl
  | false => rw [if_neg Bool.false_ne_true]; exact h2 rfl
theorem y_t {A B : Prop} (h : A) : if true = true then A else B := by rw [if_pos rfl]; exact h
theorem y_f {A B : Prop} (h : B) : if false = true then A else B := by rw [if_neg Bool.false_ne_true]; exact h
theorem y_dt {p : Prop} [Decidable p] {A B : Prop} (hp : p) (h : A) : if decide p = true then A else B := by rw [if_pos (decide_eq_true hp)]; exact h
theorem y_df {p : Prop} [Decidable p] {A B : Prop} (hp : ¬ p) (h : B) : if decide p = true then A else B := by rw [if_neg (fun e => hp (of_decide_eq_true e))]; exact h
theorem y_d {p : Prop} [Decidable p] {A B : Prop} (h1 : p → A) (h2 : ¬ p → B) : if decide p = true then A else B := by
  by_cases h : p
  · exact y_dt h (h1 h)
  · exact y_df h (h2 h)
theorem y_not {b : Bool} {A B : Prop} (h : if b = true then B else A) : if (!b) = true then A else B := by
  cases b <;> simpa using h
theorem y_eqt {i j : Int} {A B : Prop} (hp : i = j) (h : A) : if (i == j) = true then A else B := by rw [if_pos (by simp [hp])]; exact h
theorem y_eqf {i j : Int} {A B : Prop} (hp : i ≠ j) (h : B) : if (i == j) = true then A else B := by rw [if_neg (by simp [hp])]; exact h
theorem y_eq {i j : Int} {A B : Prop} (h1 : i = j → A) (h2 : i ≠ j → B) : if (i == j) = true then A else B := by
  by_cases h : i = j
  · exact y_eqt h (h1 h)
  · exact y_eqf h (h2 h)
/-- values -/
theorem z_addI {i j : Int} (h : QE (.int (i + j)) st) : wp (addD (.int i) (.int j) st) QE := wp_some h
theorem z_addS {a b : PySem.Str} (hl : a.length + b.length ≤ 16777216) (h : QE (.str (a ++ b)) st) : wp (addD (.str a) (.str b) st) QE := wp_if hl (wp_some h)
theorem z_addT {a b : List D} (hl : a.length + b.length ≤ 16777216) (h : QE (.tup (a ++ b)) st) : wp (addD (.tup a) (.tup b) st) QE := wp_if hl (wp_some h)
theorem z_sub {i j : Int} (h : QE (.int (i - j)) st) : wp (subD (.int i) (.int j) st) QE := wp_some h
theorem z_mul {i j : Int} (hm : mulOk i j) (h : QE (.int (i * j)) st) : wp (mulD (.int i) (.int j) st) QE := wp_if hm (wp_some h)
theorem z_fdiv {i j : Int} (hm : 0 < j ∧ j < 18446744073709551616) (h : QE (.int (i / j)) st) : wp (fdivD (.int i) (.int j) st) QE := wp_if hm (wp_some h)
theorem z_mod {i j : Int} (hm : 0 < j) (h : QE (.int (i % j)) st) : wp (modD (.int i) (.int j) st) QE := wp_if hm (wp_some h)
theorem z_pow {i j : Int} (hm : 0 ≤ j ∧ j ≤ 1000000 ∧ i.natAbs < 18446744073709551616) (h : QE (.int (i ^ j.toNat)) st) : wp (powD (.int i) (.int j) st) QE := wp_if hm (wp_some h)
theorem z_neg {i : Int} (h : QE (.int (-i)) st) : wp (negD (.int i) st) QE := wp_some h
theorem z_lt {i j : Int} (h : QE (.bl (decide (i < j))) st) : wp (ltD (.int i) (.int j) st) QE := wp_some h
theorem z_le {i j : Int} (h : QE (.bl (decide (i ≤ j))) st) : wp (leD (.int i) (.int j) st) QE := wp_some h
theorem z_gt {i j : Int} (h : QE (.bl (decide (j < i))) st) : wp (gtD (.int i) (.int j) st) QE := wp_some h
theorem z_ge {i j : Int} (h : QE (.bl (decide (j ≤ i))) st) : wp (geD (.int i) (.int j) st) QE := wp_some h
theorem z_is {x : D} (h : QE (.bl (isNon x)) st) : wp (isnD false x .non st) QE := wp_some h
theorem z_isn {x : D} (h : QE (.bl (!isNon x)) st) : wp (isnD true x .non st) QE := wp_some h
theorem z_iadd {i j : Int} (h : QE (.int (i + j)) st) : wp (iaddI (.int i) (.int j) st) QE := wp_some h
theorem z_eqI {i j : Int} (h : QE (.bl (i == j)) st) : wp (eqD false (.int i) (.int j) st) QE := wp_some h
theorem z_neI {i j : Int} (h : QE (.bl (!(i == j))) st) : wp (eqD true (.int i) (.int j) st) QE := wp_some h
theorem z_eqS {i j : PySem.Str} (h : QE (.bl (i == j)) st) : wp (eqD false (.str i) (.str j) st) QE := wp_some h
theorem z_neS {i j : PySem.Str} (h : QE (.bl (!(i == j))) st) : wp (eqD true (.str i) (.str j) st) QE := wp_some h
theorem z_abs {i : Int} (h : QE (.int (if i < 0 then -i else i)) st) : wp (fAbs [.int i] st) QE := wp_some h
theorem z_intI {i : Int} (h : QE (.int i) st) : wp (fInt [.int i] st) QE := wp_some h
theorem z_intB {b : Bool} (h : QE (.int (if b then 1 else 0)) st) : wp (fInt [.bl b] st) QE := wp_some h
theorem z_lenT {ds : List D} (h : QE (.int ds.length) st) : wp (fLen [.tup ds] st) QE := wp_some h
theorem z_lenL {ds : List D} (h : QE (.int ds.length) st) : wp (fLen [.lst ds] st) QE := wp_some h
theorem z_lenQ {ds : List D} (h : QE (.int ds.length) st) : wp (fLen [.sq ds] st) QE := wp_some h
theorem z_lenR {n : Nat} {ds : List D} (e : st[n]? = some (.lst ds)) (h : QE (.int ds.length) st) : wp (fLen [.ref n] st) QE := ⟨_, _, by rw [v_lenR, e]; rfl, h⟩
theorem z_ixT {ds : List D} {i : Int} {d : D} (e : atI ds i = some d) (h : QE d st) : wp (ixD (.tup ds) (.int i) st) QE := ⟨_, _, by rw [v_ixT, e]; rfl, h⟩
theorem z_ixL {ds : List D} {i : Int} {d : D} (e : atI ds i = some d) (h : QE d st) : wp (ixD (.lst ds) (.int i) st) QE := ⟨_, _, by rw [v_ixL, e]; rfl, h⟩
theorem z_ixQ {ds : List D} {i : Int} {d : D} (e : atI ds i = some d) (h : QE d st) : wp (ixD (.sq ds) (.int i) st) QE := ⟨_, _, by rw [v_ixQ, e]; rfl, h⟩
theorem z_ixR {n : Nat} {ds : List D} {i : Int} {d : D} (e0 : st[n]? = some (.lst ds)) (e : atI ds i = some d) (h : QE d st) : wp (ixD (.ref n) (.int i) st) QE := ⟨_, _, by rw [v_ixR, e0]; simp only [bnd_some]; rw [e]; rfl, h⟩
theorem z_ixS {z : PySem.Str} {i : Int} {c : Nat} (hl : z.length ≤ 16777216) (e : atI z.cps.toList i = some c) (h : QE (.str ⟨#[c]⟩) st) : wp (ixD (.str z) (.int i) st) QE := ⟨_, _, by rw [v_ixS, if_pos hl, e]; rfl, h⟩
theorem z_set {n : Nat} {k : Int} {v : D} {es es' : List D} {j : Nat} {st' : Sto} {Q : Sto → Prop} (e0 : st[n]? = some (.lst es)) (e : ixN es.length k = some j) (e2 : es.set j v = es') (e3 : st.set n (.lst es') = st') (h : Q st') : wpP (setD (.ref n) (.int k) v st) Q := ⟨_, by rw [v_set, e0]; simp only [bnd_some]; rw [e, bnd_some, e2, e3], h⟩
theorem set_at {n : Nat} {o x : O} (h : st[n]? = some o) : (st.set n x)[n]? = some x := List.getElem?_set_self (List.getElem?_eq_some_iff.mp h).1
theorem x_emL {T : String} {fm : FM} (hT : T = "list") (h : wp (fo env st) fun o st1 => ∃ n ds, o = .ref n ∧ st1[n]? = some (.lst ds) ∧ wp (g env st1) fun xs st2 => wp (fm (.ref n) xs st2) QE) : wp (EM T fm fo g env st) QE := by
  rw [q_em]
  refine wp_bind (h.mono fun o st1 q => ?_)
  obtain ⟨n, ds, rfl, e, q⟩ := q
  exact wp_if hT (wp_bnd (a := ds) (by simp only [sqD, e]) (wp_bind q))
theorem x_emS {T : String} {fm : FM} (hT : T = "str") (h : wp (fo env st) fun o st1 => ∃ z, o = .str z ∧ wp (g env st1) fun xs st2 => wp (fm (.str z) xs st2) QE) : wp (EM T fm fo g env st) QE := by
  rw [q_em]
  refine wp_bind (h.mono fun o st1 q => ?_)
  obtain ⟨z, rfl, q⟩ := q
  exact wp_if hT (wp_bind q)
theorem z_app {n : Nat} {y : D} {es : List D} {st' : Sto} (e : st[n]? = some (.lst es)) (hl : es.length < 16777216) (e3 : st.set n (.lst (es ++ [y])) = st') (h : QE .non st') : wp (mApp (.ref n) [y] st) QE := ⟨_, _, by rw [v_app, e]; exact if_pos hl, by rw [e3]; exact h⟩
theorem z_isiI {T : String} {i : Int} {b : Bool} (e : kitB "int" T = some b) (h : QE (.bl b) st) : wp (fIsi [.int i, .ty T] st) QE := ⟨_, _, by rw [v_isiI, e]; rfl, h⟩
end

section
variable {env env' : Env} {st : Sto} {QE : D → Sto → Prop} {QS : Fl → Sto → Prop}
theorem x_loopn {N : Env → Sto → Prop} (e : env = env') (h : N env' st) : loopK QS N (.nx env) st := by subst e; exact h
theorem y_tg {t : Tg} {x : D} {P : Env → Prop} (h : bindT t x env = some env') (k : P env') : ∃ e1, bindT t x env = some e1 ∧ P e1 := ⟨_, h, k⟩
theorem z_ord1 {c : Nat} (h : QE (.int (c : Int)) st) : wp (fOrd [.str ⟨#[c]⟩] st) QE := wp_some h
theorem z_inC {c : Nat} {b : PySem.Str} (h : QE (.bl (decide (c ∈ b.cps.toList))) st) : wp (inD false (.str ⟨#[c]⟩) (.str b) st) QE := ⟨_, _, rfl, by
  show QE (.bl (!(Builtin.Str.occurrences b ⟨#[c]⟩ 0 b.length 1).isEmpty)) st
  rw [PySem.StrLaws.found_one b c]; exact h⟩
theorem z_ninC {c : Nat} {b : PySem.Str} (h : QE (.bl (!decide (c ∈ b.cps.toList))) st) : wp (inD true (.str ⟨#[c]⟩) (.str b) st) QE := ⟨_, _, rfl, by
  show QE (.bl (!(!(Builtin.Str.occurrences b ⟨#[c]⟩ 0 b.length 1).isEmpty))) st
  rw [PySem.StrLaws.found_one b c]; exact h⟩
theorem occ_one (z : PySem.Str) (c : Nat) : (!(Builtin.Str.occurrences z ⟨#[c]⟩ 0 z.length 1).isEmpty) = decide (c ∈ z.cps.toList) := PySem.StrLaws.found_one z c
theorem z_find {a b : PySem.Str} (h : QE (.int (Txt.find a b)) st) : wp (mFind (.str a) [.str b] st) QE := wp_some h
theorem z_intS {s : PySem.Str} {n : Int} (e : PySem.intText? s = some n) (hl : s.length ≤ 640) (h : QE (.int n) st) : wp (fInt [.str s] st) QE := ⟨_, _, by simp only [fInt, e, if_pos hl], h⟩
end
/-! things that laws share -/
theorem emod_ok (a : Int) {b : Int} (h : 0 < b) : 0 ≤ a % b ∧ a % b < b := ⟨Int.emod_nonneg _ (by omega), Int.emod_lt_of_pos _ h⟩
theorem script_at (ns : List Int) {p : Int} (h0 : 0 ≤ p) (h1 : p < ((ns.map D.int).length : Nat)) : ∃ c, atI (ns.map D.int) p = some (.int c) := by
  have h2 : p.toNat < ns.length := by
    rw [List.length_map] at h1
    omega
  refine ⟨ns[p.toNat], atI_get h0 ?_⟩
  rw [List.getElem?_map, List.getElem?_eq_getElem h2]
  rfl
theorem take_last {α : Type} {l : List α} {i : Nat} {x : α} (h : l[i]? = some x) : l.take (i + 1) = l.take i ++ [x] := by
  rw [List.take_add_one, h]; rfl
theorem range_at {lo : Int} {n i : Nat} {x : D} (h : (rangeL lo n)[i]? = some x) : i < n ∧ x = .int (lo + (i : Nat)) := by
  unfold rangeL at h
  rw [List.getElem?_map] at h
  obtain ⟨c, h3, h4⟩ := Option.map_eq_some_iff.mp h
  obtain ⟨h5, h6⟩ := List.getElem?_eq_some_iff.mp h3
  rw [List.length_range] at h5
  rw [List.getElem_range] at h6
  exact ⟨h5, by rw [← h4, ← h6]⟩
theorem range_len {lo : Int} {n : Nat} : (rangeL lo n).length = n := by simp [rangeL]
theorem chars_at {z : PySem.Str} {i : Nat} {x : D} (h : (chars z)[i]? = some x) : ∃ c, z.cps.toList[i]? = some c ∧ x = .str ⟨#[c]⟩ := by
  unfold chars at h
  rw [List.getElem?_map] at h
  obtain ⟨c, h3, h4⟩ := Option.map_eq_some_iff.mp h
  exact ⟨c, h3, h4.symm⟩
theorem chars_len {z : PySem.Str} : (chars z).length = z.cps.toList.length := by simp [chars]
theorem noWatch {st : Sto} : watchOk [] st := fun _ h => nomatch h
/-- all but the n-th object are as they were -/
def Oth (n : Nat) (st st' : Sto) : Prop := st'.length = st.length ∧ ∀ m, m ≠ n → st'[m]? = st[m]?
theorem Oth.refl {n : Nat} {st : Sto} : Oth n st st := ⟨rfl, fun _ _ => rfl⟩
theorem Oth.trans {n : Nat} {a b c : Sto} (x : Oth n a b) (y : Oth n b c) : Oth n a c := ⟨y.1.trans x.1, fun m h => (y.2 m h).trans (x.2 m h)⟩
theorem Oth.set {n : Nat} {st : Sto} {o : O} : Oth n st (st.set n o) := ⟨by simp, fun m h => List.getElem?_set_ne (fun e => h e.symm)⟩
theorem str_at {z : PySem.Str} {i : Int} (h0 : 0 ≤ i) (h1 : i < (z.cps.toList.length : Nat)) : ∃ c, atI z.cps.toList i = some c ∧ c ∈ z.cps.toList := by
  have h2 : i.toNat < z.cps.toList.length := by omega
  exact ⟨_, atI_get h0 (List.getElem?_eq_getElem h2), List.getElem_mem h2⟩
/-! ### zip and enumerate of lists and tuples in any mix -/
def SeqB (K : Frag) (t : Bool) (H : Hp) (a : Addr) (xs : List V) : Prop := if t = true then SqT K H a xs else SqL K H a xs
def IterB (t : Bool) (h : Heap) (i a : Addr) (k : Nat) : Prop := if t = true then h.IsTupleIter i a k else h.IsListIter i a k
def SeqH (t : Bool) (h : Heap) (a : Addr) (its : Array Value) : Prop := if t = true then h.IsTuple a its else h.IsList a its
theorem SeqB.items {X : Cx} {pins : List (Addr × Obj)} {σ : L2.St} {H : Hp} {s : Shared} {t : Bool} {a : Addr} {xs : List V} (I : Inv X pins σ H s) (h : SeqB X.K t H a xs) : ∃ its : List Value, Vals xs its ∧ SeqH t s.heap a its.toArray := by
  cases t with
  | true =>
    obtain ⟨its, r, p, _⟩ := I.tuple (show SqT X.K H a xs from h)
    exact ⟨its, r, p⟩
  | false =>
    obtain ⟨its, r, p, _⟩ := I.list (show SqL X.K H a xs from h)
    exact ⟨its, r, p.isList⟩
theorem SeqB.inj {X : Cx} {pins : List (Addr × Obj)} {σ : L2.St} {H : Hp} {s : Shared} {t : Bool} {a : Addr} {xs ys : List V} (I : Inv X pins σ H s) (h : SeqB X.K t H a xs) (h' : SeqB X.K t H a ys) : xs = ys := by
  cases t with
  | true => exact I.tuple_inj (show SqT X.K H a xs from h) h'
  | false => exact I.list_inj (show SqL X.K H a xs from h) h'
theorem SeqH.lt {t : Bool} {h : Heap} {a : Addr} {its : Array Value} (x : SeqH t h a its) : a < h.objs.size := by
  cases t with
  | true => obtain ⟨o, e, _⟩ := (show h.IsTuple a its from x); exact Heap.lt_size e
  | false => obtain ⟨o, e, _⟩ := (show h.IsList a its from x); exact Heap.lt_size e
theorem IterB.obj {t : Bool} {h : Heap} {i a : Addr} {k : Nat} (x : IterB t h i a k) : ∃ o, h.get? i = some o ∧ ∀ v, o.data ≠ .cell v := by
  cases t with
  | true =>
    obtain ⟨o, e, _, d⟩ := (show h.IsTupleIter i a k from x)
    exact ⟨o, e, fun v q => by rw [d] at q; cases q⟩
  | false =>
    obtain ⟨o, e, _, d⟩ := (show h.IsListIter i a k from x)
    exact ⟨o, e, fun v q => by rw [d] at q; cases q⟩
theorem IterB.keep {t : Bool} {h h' : Heap} {i a : Addr} {k : Nat} (x : IterB t h i a k) (e : ∀ o, h.get? i = some o → h'.get? i = some o) : IterB t h' i a k := by
  cases t with
  | true => exact (show h.IsTupleIter i a k from x).at e
  | false => exact (show h.IsListIter i a k from x).at e
/-- what an iterator over such a thing draws -/
theorem drawsB {prog : Program} {w : World} {A : Around} (hh : A.handled = none) (t : Bool) (it l : Addr) (hne : l ≠ it) (items : Array Value) :
    Draws prog w A it [it, l] items.size (fun i v => items[i]? = some v) (fun i h => IterB t h it l i ∧ SeqH t h l items) := by
  cases t with
  | true => exact Draws.tuple hh it l hne items
  | false => exact Draws.list hh it l hne items
def ItZ (K : Frag) (t1 t2 : Bool) (a b : Addr) : It :=
  ⟨fun i H => ∃ (xs ys : List V) (x y : V), SeqB K t1 H a xs ∧ SeqB K t2 H b ys ∧ xs[i]? = some x ∧ ys[i]? = some y,
    fun i H v H' => ∃ T x y, v = .ref T ∧ H T = none ∧ H' = upd H T (.tup [x, y]) ∧ (∀ xs, SeqB K t1 H a xs → xs[i]? = some x) ∧ ∀ ys, SeqB K t2 H b ys → ys[i]? = some y,
    fun i H => ∃ xs ys : List V, SeqB K t1 H a xs ∧ SeqB K t2 H b ys ∧ i ≤ xs.length ∧ i ≤ ys.length ∧ (i = xs.length ∨ i = ys.length)⟩
theorem turnZ {P : Program} {w : World} {K : Frag} {elts : List Expr} {kk : Nat} {tpos : Pos} {t1 t2 : Bool} {a b z TI TO i1 i2 : Addr} (D : ZipSep2 z TI TO i1 i2 [i1, a] [i2, b]) :
    Turn P w K (.Tuple elts kk tpos) (ItZ K t1 t2 a b) [z, TI, TO, i1, i2] z (fun i h => IsZip h z TI TO .none ∧ IsTupOf2 h TI (.ref i1) (.ref i2) ∧ (∃ x y, IsTupOf2 h TO x y) ∧ IterB t1 h i1 a i ∧ IterB t2 h i2 b i) where
  mem := by simp
  obj := fun i h q c hc => by
    obtain ⟨hz, hTI, ⟨x, y, hTO⟩, h1, h2⟩ := q
    simp only [List.mem_cons, List.not_mem_nil, or_false] at hc
    rcases hc with rfl | rfl | rfl | rfl | rfl
    · exact ⟨_, hz, fun v q => nomatch q⟩
    · exact ⟨_, hTI, fun v q => nomatch q⟩
    · exact ⟨_, hTO, fun v q => nomatch q⟩
    · exact h1.obj
    · exact h2.obj
  keep := fun i h h' q k => by
    obtain ⟨hz, hTI, ⟨x, y, hTO⟩, h1, h2⟩ := q
    exact ⟨k z (by simp) _ hz, k TI (by simp) _ hTI, ⟨x, y, k TO (by simp) _ hTO⟩, h1.keep fun o e => k i1 (by simp) o e, h2.keep fun o e => k i2 (by simp) o e⟩
  item := by
    intro X hP hw hK hc i pins s σ H E I hf q hg
    subst hP hw hK
    obtain ⟨hz, hTI, ⟨x0, y0, hTO⟩, h1, h2⟩ := q
    obtain ⟨xs, ys, x, y, hqx, hqy, hx, hy⟩ := hg
    obtain ⟨its, rv, p1⟩ := hqx.items I
    obtain ⟨its2, rv2, p2⟩ := hqy.items I
    obtain ⟨u, hu, ru⟩ := rv.get hx
    obtain ⟨u2, hu2, ru2⟩ := rv2.get hy
    have hzl : z < s.heap.objs.size := Heap.lt_size hz
    have hd : X.A.in1.handled = none := I.ok.hd hc
    have na : a ≠ i1 := fun e => D.sep1_2 (by have := D.Tf1; exact absurd e (fun e2 => by
      obtain ⟨o1, g1, n1⟩ := h1.obj
      subst e2
      cases t1 with
      | true =>
        obtain ⟨o, e, c, n, d⟩ := (show s.heap.IsTuple a its.toArray from p1)
        obtain ⟨o', e', c', d'⟩ := (show s.heap.IsTupleIter a a i from h1)
        rw [e] at e'; cases e'; rw [d] at d'; cases d'
      | false =>
        obtain ⟨o, e, c, n, d⟩ := (show s.heap.IsList a its.toArray from p1)
        obtain ⟨o', e', c', d'⟩ := (show s.heap.IsListIter a a i from h1)
        rw [e] at e'; cases e'; rw [d] at d'; cases d'))
    have nb : b ≠ i2 := fun e => by
      subst e
      cases t2 with
      | true =>
        obtain ⟨o, e, c, n, d⟩ := (show s.heap.IsTuple b its2.toArray from p2)
        obtain ⟨o', e', c', d'⟩ := (show s.heap.IsTupleIter b b i from h2)
        rw [e] at e'; cases e'; rw [d] at d'; cases d'
      | false =>
        obtain ⟨o, e, c, n, d⟩ := (show s.heap.IsList b its2.toArray from p2)
        obtain ⟨o', e', c', d'⟩ := (show s.heap.IsListIter b b i from h2)
        rw [e] at e'; cases e'; rw [d] at d'; cases d'
    have l1 : i < its.toArray.size := by
      have := (List.getElem?_eq_some_iff.mp hu).1
      simpa using this
    have l2 : i < its2.toArray.size := by
      have := (List.getElem?_eq_some_iff.mp hu2).1
      simpa using this
    refine wpAny_pyNext_zipD2_item D (drawsB hd t1 i1 a na its.toArray) (drawsB hd t2 i2 b nb its2.toArray) hz hTI hTO ⟨h1, p1⟩ ⟨h2, p2⟩ l1 l2 fun y1 y2 h' tk e1 e2 z' TO' s1' s2' hT hsz hk => ?_
    have eu : u = y1 := by simpa [hu] using e1
    have eu2 : u2 = y2 := by simpa [hu2] using e2
    subst eu eu2
    refine ⟨_, rfl, wpAny_letOwnedTupleGo_zip (s := { s with heap := h', toks := tk }) z' fun h'' z'' sb => ?_⟩
    have hT2 : IsTupOf2 h'' s.heap.objs.size u u2 := (sb.2 _ (Nat.ne_of_gt hzl)).trans hT
    have new : ObjOk X.prog X.w (upd H s.heap.objs.size (.tup [x, y])) h'' s.heap.objs.size (.tup [x, y]) :=
      ⟨by show 2 ≤ sizeLine; decide, [u, u2], .cons ru (.cons ru2 .nil), ⟨_, hT2, rfl, _, rfl⟩⟩
    have I1 : Inv X pins σ (upd H s.heap.objs.size (.tup [x, y])) { s with heap := h'', toks := tk } :=
      I.turnedNew (t' := tk) (ch := [z, TI, TO, i1, i2]) (fun c o hb q => (sb.2 c (fun q' => hb (by simp [q']))).trans (hk c o (fun q' => hb (by simp [q'])) (fun q' => hb (by simp [q'])) (fun q' => hb (by simp [q'])) (fun q' => hb (by simp [q'])) q)) hf (Nat.le_refl _) new
    refine ⟨.ref s.heap.objs.size, _, I1, rfl, ⟨_, x, y, rfl, I.hok.fresh (Nat.le_refl _), rfl, fun l hl => by rw [hl.inj I hqx]; exact hx, fun l hl => by rw [hl.inj I hqy]; exact hy⟩, ⟨z'', ?_, ⟨u, u2, ?_⟩, ?_, ?_⟩, fun c hcm => ?_⟩
    · exact (sb.2 _ D.TIz).trans (hk _ _ D.TIz D.TITO D.TIi1 D.TIi2 hTI)
    · exact (sb.2 _ D.TOz).trans TO'
    · exact s1'.1.keep fun o q => (sb.2 _ (Ne.symm D.zi1)).trans q
    · exact s2'.1.keep fun o q => (sb.2 _ (Ne.symm D.zi2)).trans q
    · have hlt : c < s.heap.objs.size := by
        simp only [List.mem_cons, List.not_mem_nil, or_false] at hcm
        rcases hcm with rfl | rfl | rfl | rfl | rfl
        · exact hzl
        · exact Heap.lt_size hTI
        · exact Heap.lt_size hTO
        · obtain ⟨_, e1, _⟩ := h1.obj; exact Heap.lt_size e1
        · obtain ⟨_, e2, _⟩ := h2.obj; exact Heap.lt_size e2
      rw [upd_ne (Nat.ne_of_lt hlt)]
      exact (hf c hcm).1
  done := by
    intro X hP hw hK hc i pins s σ H E I hf q hg
    subst hP hw hK
    obtain ⟨hz, hTI, ⟨x0, y0, hTO⟩, h1, h2⟩ := q
    obtain ⟨xs, ys, hqx, hqy, hi1, hi2, hend⟩ := hg
    obtain ⟨its, rv, p1⟩ := hqx.items I
    obtain ⟨its2, rv2, p2⟩ := hqy.items I
    have l1 := rv.length
    have l2 := rv2.length
    have hd : X.A.in1.handled = none := I.ok.hd hc
    have na : a ≠ i1 := fun e => by
      subst e
      cases t1 with
      | true =>
        obtain ⟨o, e, c, n, d⟩ := (show s.heap.IsTuple a its.toArray from p1)
        obtain ⟨o', e', c', d'⟩ := (show s.heap.IsTupleIter a a i from h1)
        rw [e] at e'; cases e'; rw [d] at d'; cases d'
      | false =>
        obtain ⟨o, e, c, n, d⟩ := (show s.heap.IsList a its.toArray from p1)
        obtain ⟨o', e', c', d'⟩ := (show s.heap.IsListIter a a i from h1)
        rw [e] at e'; cases e'; rw [d] at d'; cases d'
    have nb : b ≠ i2 := fun e => by
      subst e
      cases t2 with
      | true =>
        obtain ⟨o, e, c, n, d⟩ := (show s.heap.IsTuple b its2.toArray from p2)
        obtain ⟨o', e', c', d'⟩ := (show s.heap.IsTupleIter b b i from h2)
        rw [e] at e'; cases e'; rw [d] at d'; cases d'
      | false =>
        obtain ⟨o, e, c, n, d⟩ := (show s.heap.IsList b its2.toArray from p2)
        obtain ⟨o', e', c', d'⟩ := (show s.heap.IsListIter b b i from h2)
        rw [e] at e'; cases e'; rw [d] at d'; cases d'
    exact wpAny_pyNext_zipD2_end D (drawsB hd t1 i1 a na its.toArray) (drawsB hd t2 i2 b nb its2.toArray) hz hTI hTO ⟨h1, p1⟩ ⟨h2, p2⟩ (by simp; omega) (by simp; omega) (by simp; omega) fun h' tk hk =>
      ⟨rfl, I.turnedL (t' := tk) (ch := [z, TI, TO, i1, i2]) (fun c o hb q => hk c o (fun q' => hb (by simp [q'])) (fun q' => hb (by simp [q'])) (fun q' => hb (by simp [q'])) (fun q' => hb (by simp [q'])) q) hf⟩
  self := fun A i s Q E q h => wpAny_pyIter_zip q.1 h

def iZ (K : Frag) (ta : TA) : TI := fun σ H R => ta σ H fun vs H1 => ∃ a b t1 t2 xs ys, vs = [.ref a, .ref b] ∧ SeqB K t1 H1 a xs ∧ SeqB K t2 H1 b ys ∧ R (ItZ K t1 t2 a b) H1
def itO (t : Bool) (a : Addr) : Obj := if t = true then { cls := .type "tuple_iterator", data := .fields #[.ref a, .int 0 0] } else { cls := .type "list_iterator", data := .fields #[.ref a, .int 0 0] }
theorem beginsB (t : Bool) (a : Addr) (its : Array Value) : Begins (.ref a) (itO t a) fun h => SeqH t h a its := by
  cases t with
  | true => exact begins_tuple a its
  | false => exact begins_list a its
theorem IterB.of {t : Bool} {h : Heap} {i a : Addr} (e : h.get? i = some (itO t a)) : IterB t h i a 0 := by
  cases t with
  | true => exact ⟨_, e, rfl, rfl⟩
  | false => exact ⟨_, e, rfl, rfl⟩
theorem pi_Z {X : Cx} {e e2 : Expr} {ta : TA} {p pos tpos : Pos} {elts : List Expr} {kk : Nat} (hg : Gl X "zip") (hm : X.mg "zip" = none) (ha : PA X [e, e2] ta)
    (hs : starEach [e, e2] X.env = (false, eval e X.env) :: starEach [e2] X.env := by rfl) (hpl : (backTo pos (starEach [e2] X.env)).any (·.1) = false := by rfl) :
    PI X (.Tuple elts kk tpos) (.Call (.Name "zip" p) [e, e2] [] pos) (iZ X.K ta) := by
  refine ⟨fun pins s σ H R I h => Call_ (ld_blt I hg hm PyProof.Rows.boot_zip (PyProof.Rows.callWith_type1 (thn (ha.run pos pins s σ H _ I h) fun us s1 ⟨vs, H1, I1, r1, q1⟩ => ?_) hs hpl))⟩
  obtain ⟨a, b, t1, t2, xs, ys, rfl, hqx, hqy, q⟩ := q1
  obtain ⟨u, w', rfl, rx, ry⟩ := vals2 r1
  cases rx
  cases ry
  obtain ⟨its, rv, p1⟩ := hqx.items I1
  obtain ⟨its2, rv2, p2⟩ := hqy.items I1
  have la := p1.lt
  have lb := p2.lt
  refine zip_begins2 (beginsB t1 a its.toArray) (beginsB t2 b its2.toArray) p1 p2 fun h' hz hTI hTO g1 g2 hsz hk => wpAny_pyIter_zip hz ?_
  have I2 : Inv X pins σ H1 { s1 with heap := h' } := I1.kept (t' := s1.toks) hk
  refine ⟨s1.heap.objs.size + 4, [s1.heap.objs.size + 4, s1.heap.objs.size + 2, s1.heap.objs.size + 3, s1.heap.objs.size, s1.heap.objs.size + 1], _, _, H1, rfl, I2,
    turnZ (zip_sep2 (N := s1.heap.objs.size) (fp1 := [a]) (fp2 := [b]) (by simpa using la) (by simpa using lb)), ⟨hz, hTI, ⟨_, _, hTO⟩, .of g1, .of g2⟩, fun c hcm => ?_, q⟩
  have hle : s1.heap.objs.size ≤ c := by
    simp only [List.mem_cons, List.not_mem_nil, or_false] at hcm
    rcases hcm with e | e | e | e | e <;> rw [e] <;> first | exact Nat.le_add_right _ _ | exact Nat.le_refl _
  exact I1.fpOk hle (I1.hok.fresh hle)
/-- the items of a list or a tuple, and what must stay for them -/
def anyD (st : Sto) : D → Option (Bool × List D)
  | .tup ds => some (true, ds)
  | d => (sqD st d).map fun ds => (false, ds)
def watchA : D → List D → Watch
  | .ref n, ds => [(n, ds)]
  | _, _ => []
section
variable {K : Frag} {θ : List Addr} {G H : Hp} {st : Sto} {v : V} {d : D} {ds : List D} {t : Bool}
theorem anyD.ok [Tbs] (S : Sim K θ G H st) (r : Rep K θ G v d) (h : anyD st d = some (t, ds)) : ∃ a, v = .ref a ∧ (∃ vs, SeqB K t H a vs ∧ vs.length = ds.length) ∧
    ∀ θ' G' H' st', (∃ l, θ' = θ ++ l) → Gle G G' → Sim K θ' G' H' st' → watchOk (watchOf d ds) st' → ∃ vs, SeqB K t H' a vs ∧ Reps K θ' G' vs ds := by
  have sq : ∀ es, sqD st d = some es → t = false → ds = es → ∃ a, v = .ref a ∧ (∃ vs, SeqB K t H a vs ∧ vs.length = ds.length) ∧
    ∀ θ' G' H' st', (∃ l, θ' = θ ++ l) → Gle G G' → Sim K θ' G' H' st' → watchOk (watchOf d ds) st' → ∃ vs, SeqB K t H' a vs ∧ Reps K θ' G' vs ds := by
    intro es e ht he
    subst ht
    subst he
    obtain ⟨a, vs, rfl, h1, h2⟩ := sqD.ok S r e
    refine ⟨a, rfl, ⟨vs, h1, h2.len⟩, fun θ' G' H' st' p g S' w => ?_⟩
    cases d with
    | ref n =>
      have hw : st'[n]? = some (.lst ds) := w (n, ds) (List.mem_singleton.mpr rfl)
      cases r with
      | ref h3 =>
        obtain ⟨o, h4, h5⟩ := S'.at (pre_at p h3)
        rw [hw] at h4
        cases h4
        obtain ⟨ws, h6, h7⟩ := h5
        exact ⟨ws, SqL.of h6, h7⟩
    | lst es =>
      cases e
      cases r with
      | lst h3 h4 => exact ⟨_, SqL.of (S'.sub _ _ (g _ _ h3)), h4.mono p g _ _⟩
    | sq es =>
      cases e
      cases r with
      | sq h3 h4 => exact ⟨_, S'.l (g.l h3), h4.mono p g _ _⟩
    | _ => cases e
  cases d with
  | tup es =>
    cases h
    cases r with
    | @tup a vs _ h1 h2 => exact ⟨a, rfl, ⟨vs, S.t h1, h2.len⟩, fun θ' G' H' st' p g S' w => ⟨vs, S'.t (g.t h1), h2.mono p g _ _⟩⟩
  | lst es => cases h; exact sq _ rfl rfl rfl
  | sq es => cases h; exact sq _ rfl rfl rfl
  | ref n =>
    obtain ⟨es, h1, h2⟩ := Option.map_eq_some_iff.mp (show (sqD st (.ref n)).map (fun ds => (false, ds)) = some (t, ds) from h)
    cases h2
    exact sq _ h1 rfl rfl
  | non => cases h
  | bl _ => cases h
  | int _ => cases h
  | str _ => cases h
  | adr _ => cases h
  | ty _ => cases h
  | exc _ _ _ _ _ _ => cases h
end
def zipL (a b : List D) : List D := List.zipWith (fun x y => .tup [x, y]) a b
def Izip (g : FA) : FI := fun env st => (g env st).bind fun p => match p.1 with
  | [x, y] => match anyD p.2 x, anyD p.2 y with
    | some (_, a), some (_, b) => some (zipL a b, watchOf x a ++ watchOf y b, p.2)
    | _, _ => none
  | _ => none
theorem watch_app {w w' : Watch} {st : Sto} (h : watchOk (w ++ w') st) : watchOk w st ∧ watchOk w' st := ⟨fun p hp => h p (List.mem_append_left _ hp), fun p hp => h p (List.mem_append_right _ hp)⟩
theorem watch_mk {w w' : Watch} {st : Sto} (h : watchOk w st) (h' : watchOk w' st) : watchOk (w ++ w') st := fun p hp => (List.mem_append.mp hp).elim (h p) (h' p)
theorem i_zip [Tbs] {X : Cx} {e e2 : Expr} {g : FA} {p pos tpos : Pos} {elts : List Expr} {kk : Nat} (hg : Gl X "zip") (hm : X.mg "zip" = none) (ha : PA X [e, e2] (tA X.K g))
    (hs : starEach [e, e2] X.env = (false, eval e X.env) :: starEach [e2] X.env := by rfl) (hpl : (backTo pos (starEach [e2] X.env)).any (·.1) = false := by rfl) :
    PI X (.Tuple elts kk tpos) (.Call (.Name "zip" p) [e, e2] [] pos) (tI X.K (Izip g)) :=
  piImp (pi_Z hg hm ha hs hpl) fun σ H R ⟨θ, G, env, st, items, w, st', S, EN, hf, post⟩ => by
    obtain ⟨⟨x, st1⟩, h1, h2⟩ := Option.bind_eq_some_iff.mp hf
    dsimp only at h2
    split at h2
    · rename_i x1 y1
      split at h2
      · rename_i t1 a t2 b ha hb
        cases h2
        refine tA.go S EN h1 fun θ1 G1 H1 v1 e1 S1 EN1 r1 => ?_
        cases r1 with
        | cons r1 r2 =>
          cases r2 with
          | cons r2 r3 =>
            cases r3
            obtain ⟨pa, rfl, ⟨va, ka, la⟩, qa⟩ := anyD.ok S1 r1 ha
            obtain ⟨pb, rfl, ⟨vb, kb, lb⟩, qb⟩ := anyD.ok S1 r2 hb
            refine ⟨pa, pb, t1, t2, va, vb, rfl, ka, kb, post _ _ _ _ e1 S1 ?_⟩
            have hl : (zipL a b).length = min a.length b.length := by simp [zipL]
            refine ⟨fun H => (∃ vs, SeqB X.K t1 H pa vs ∧ vs.length = a.length) ∧ ∃ vs, SeqB X.K t2 H pb vs ∧ vs.length = b.length,
              fun i H v H' => ∃ T x y, v = .ref T ∧ H T = none ∧ H' = upd H T (.tup [x, y]) ∧ (∀ xs, SeqB X.K t1 H pa xs → xs[i]? = some x) ∧ ∀ ys, SeqB X.K t2 H pb ys → ys[i]? = some y, ⟨?_, ?_, fun i H x H' _ _ q => q⟩, ?_, ?_⟩
            · rintro i H2 hi ⟨⟨us, ku, lu⟩, ⟨ws, kw, lw⟩⟩
              rw [hl] at hi
              exact ⟨us, ws, us[i]'(by omega), ws[i]'(by omega), ku, kw, List.getElem?_eq_getElem (by omega), List.getElem?_eq_getElem (by omega)⟩
            · rintro H2 ⟨⟨us, ku, lu⟩, ⟨ws, kw, lw⟩⟩
              rw [hl]
              exact ⟨us, ws, ku, kw, by omega, by omega, by omega⟩
            · intro θ' G' H' st' p g S' w
              obtain ⟨w1, w2⟩ := watch_app w
              obtain ⟨us, ku, ru⟩ := qa θ' G' H' st' p g S' w1
              obtain ⟨ws, kw, rw'⟩ := qb θ' G' H' st' p g S' w2
              exact ⟨⟨us, ku, ru.len⟩, ⟨ws, kw, rw'.len⟩⟩
            · rintro i x H2 H3 θ' G' st' hi p g S' w ⟨T, x2, y2, rfl, hT, rfl, hx, hy⟩
              obtain ⟨w1, w2⟩ := watch_app w
              obtain ⟨us, ku, ru⟩ := qa θ' G' H2 st' p g S' w1
              obtain ⟨ws, kw, rw'⟩ := qb θ' G' H2 st' p g S' w2
              obtain ⟨d1, e1', r1'⟩ := ru.at' (hx us ku)
              obtain ⟨d2, e2', r2'⟩ := rw'.at' (hy ws kw)
              refine ⟨_, Ext.newG S' hT _, S'.newG hT _, .tup [d1, d2], by simp [zipL, List.getElem?_zipWith, e1', e2'], ?_⟩
              exact .tup (.inl (.inl upd_same)) (.cons (r1'.ext (Ext.newG S' hT _)) (.cons (r2'.ext (Ext.newG S' hT _)) .nil))
      · cases h2
    · cases h2
/-! ### more built-ins -/
section
variable {K : Frag}
def fTup : FC := fun ds st => match ds with
  | [.tup es] => some (.tup es, st)
  | [d] => (sqD st d).map fun es => (.tup es, st)
  | _ => none
theorem s_tupc [Tbs] {X : Cx} : CallS X.K (fun xs H Q => ∃ p ys, xs = [.ref p] ∧ ((SqL X.K H p ys ∧ ∀ l, H l = none → Q (.ref l) (upd H l (.tup ys))) ∨ (SqT X.K H p ys ∧ Q (.ref p) H))) fTup := by
  intro θ G H st vs ds z st' Q S r h post
  unfold fTup at h
  split at h
  · cases h
    cases r with
    | cons r1 r2 =>
      cases r2
      cases r1 with
      | tup h1 h2 => exact ⟨_, _, rfl, .inr ⟨S.t h1, post.same S (.tup h1 h2)⟩⟩
  · obtain ⟨es, h1, h2⟩ := Option.map_eq_some_iff.mp h
    cases h2
    cases r with
    | cons r1 r2 =>
      cases r2
      obtain ⟨a, ws, rfl, h3, h4⟩ := sqD.ok S r1 h1
      exact ⟨_, _, rfl, .inl ⟨h3, fun l hl => post.newT S hl h4⟩⟩
  · cases h
def listItems (st : Sto) : D → Option (List D)
  | .tup es => some es
  | d => sqD st d
def fList : FC := fun ds st => match ds with
  | [d] => (listItems st d).map fun es => (.lst es, st)
  | _ => none
def fListN : FC := fun ds st => match ds with
  | [d] => (listItems st d).map fun es => (.ref st.length, st ++ [.lst es])
  | _ => none
theorem listItems.ok [Tbs] {θ : List Addr} {G H : Hp} {st : Sto} {v : V} {d : D} {es : List D} (S : Sim K θ G H st) (r : Rep K θ G v d) (h : listItems st d = some es) : ∃ p ys, v = .ref p ∧ (SqL K H p ys ∨ SqT K H p ys) ∧ Reps K θ G ys es := by
  have sq : sqD st d = some es → ∃ p ys, v = .ref p ∧ (SqL K H p ys ∨ SqT K H p ys) ∧ Reps K θ G ys es := fun e => by
    obtain ⟨a, ws, rfl, h3, h4⟩ := sqD.ok S r e
    exact ⟨a, ws, rfl, .inl h3, h4⟩
  cases d with
  | tup ds =>
    cases h
    cases r with
    | tup h1 h2 => exact ⟨_, _, rfl, .inr (S.t h1), h2⟩
  | _ => exact sq h
theorem s_list [Tbs] {X : Cx} : CallS X.K (fun xs H Q => ∃ p ys, xs = [.ref p] ∧ (SqL X.K H p ys ∨ SqT X.K H p ys) ∧ ∀ l, H l = none → Q (.ref l) (upd H l (.lst ys))) fList := by
  intro θ G H st vs ds z st' Q S r h post
  unfold fList at h
  split at h
  · obtain ⟨es, h1, h2⟩ := Option.map_eq_some_iff.mp h
    cases h2
    cases r with
    | cons r1 r2 =>
      cases r2
      obtain ⟨p, ys, rfl, h3, h4⟩ := listItems.ok S r1 h1
      exact ⟨p, ys, rfl, h3, fun l hl => post.newL S hl h4⟩
  · cases h
theorem s_listN [Tbs] {X : Cx} : CallS X.K (fun xs H Q => ∃ p ys, xs = [.ref p] ∧ (SqL X.K H p ys ∨ SqT X.K H p ys) ∧ ∀ l, H l = none → Q (.ref l) (upd H l (.lst ys))) fListN := by
  intro θ G H st vs ds z st' Q S r h post
  unfold fListN at h
  split at h
  · obtain ⟨es, h1, h2⟩ := Option.map_eq_some_iff.mp h
    cases h2
    cases r with
    | cons r1 r2 =>
      cases r2
      obtain ⟨p, ys, rfl, h3, h4⟩ := listItems.ok S r1 h1
      exact ⟨p, ys, rfl, h3, fun l hl => post.newM S hl h4⟩
  · cases h
/-- a list of ints -/
def intsD : List D → Option (List Int)
  | [] => some []
  | .int i :: ds => (intsD ds).map (i :: ·)
  | _ => none
theorem intsD.eq : ∀ {ds : List D} {ns : List Int}, intsD ds = some ns → ds = ns.map D.int
  | [], _, h => by cases h; rfl
  | .int i :: ds, _, h => by
    obtain ⟨ms, h1, rfl⟩ := Option.map_eq_some_iff.mp (show (intsD ds).map (i :: ·) = some _ from h)
    rw [intsD.eq h1]
    rfl
  | .non :: _, _, h => by cases h
  | .bl _ :: _, _, h => by cases h
  | .str _ :: _, _, h => by cases h
  | .tup _ :: _, _, h => by cases h
  | .lst _ :: _, _, h => by cases h
  | .sq _ :: _, _, h => by cases h
  | .ref _ :: _, _, h => by cases h
  | .adr _ :: _, _, h => by cases h
  | .ty _ :: _, _, h => by cases h
theorem intsD_map (ns : List Int) : intsD (ns.map D.int) = some ns := by
  induction ns with
  | nil => rfl
  | cons n ns ih => simp [intsD, ih]
def maxL : List Int → Option Int
  | [] => none
  | x :: xs => some (xs.foldl max x)
def minL : List Int → Option Int
  | [] => none
  | x :: xs => some (xs.foldl min x)
theorem foldl_max_mem : ∀ (xs : List Int) (x : Int), xs.foldl max x ∈ x :: xs ∧ ∀ y, y ∈ x :: xs → y ≤ xs.foldl max x
  | [], x => ⟨by simp, fun y hy => by simp at hy; simp [hy]⟩
  | z :: xs, x => by
    obtain ⟨h1, h2⟩ := foldl_max_mem xs (max x z)
    rw [List.foldl_cons]
    refine ⟨?_, fun y hy => ?_⟩
    · rcases List.mem_cons.mp h1 with h | h
      · rw [h]
        by_cases hc : x ≤ z
        · rw [Int.max_eq_right hc]; simp
        · rw [Int.max_eq_left (by omega)]; simp
      · exact List.mem_cons_of_mem _ (List.mem_cons_of_mem _ h)
    · rcases List.mem_cons.mp hy with rfl | hy
      · have := h2 (max y z) (by simp)
        omega
      · rcases List.mem_cons.mp hy with rfl | hy
        · have := h2 (max x y) (by simp)
          omega
        · exact h2 y (List.mem_cons_of_mem _ hy)
theorem foldl_min_mem : ∀ (xs : List Int) (x : Int), xs.foldl min x ∈ x :: xs ∧ ∀ y, y ∈ x :: xs → xs.foldl min x ≤ y
  | [], x => ⟨by simp, fun y hy => by simp at hy; simp [hy]⟩
  | z :: xs, x => by
    obtain ⟨h1, h2⟩ := foldl_min_mem xs (min x z)
    rw [List.foldl_cons]
    refine ⟨?_, fun y hy => ?_⟩
    · rcases List.mem_cons.mp h1 with h | h
      · rw [h]
        by_cases hc : x ≤ z
        · rw [Int.min_eq_left hc]; simp
        · rw [Int.min_eq_right (by omega)]; simp
      · exact List.mem_cons_of_mem _ (List.mem_cons_of_mem _ h)
    · rcases List.mem_cons.mp hy with rfl | hy
      · have := h2 (min y z) (by simp)
        omega
      · rcases List.mem_cons.mp hy with rfl | hy
        · have := h2 (min x y) (by simp)
          omega
        · exact h2 y (List.mem_cons_of_mem _ hy)
theorem max_is {ns : List Int} {m k : Int} (h : maxL ns = some k) (h1 : m ∈ ns) (h2 : ∀ y, y ∈ ns → y ≤ m) : m = k := by
  cases ns with
  | nil => cases h
  | cons x xs =>
    cases h
    obtain ⟨a, b⟩ := foldl_max_mem xs x
    have := h2 _ a
    have := b _ h1
    omega
theorem min_is {ns : List Int} {m k : Int} (h : minL ns = some k) (h1 : m ∈ ns) (h2 : ∀ y, y ∈ ns → m ≤ y) : m = k := by
  cases ns with
  | nil => cases h
  | cons x xs =>
    cases h
    obtain ⟨a, b⟩ := foldl_min_mem xs x
    have := h2 _ a
    have := b _ h1
    omega
def fMax : FC := fun ds st => match ds with
  | [d] => ((sqD st d).bind intsD).bind fun ns => (maxL ns).map fun m => (.int m, st)
  | _ => none
def fMin : FC := fun ds st => match ds with
  | [d] => ((sqD st d).bind intsD).bind fun ns => (minL ns).map fun m => (.int m, st)
  | _ => none
theorem s_max [Tbs] : CallS K (rMax K) fMax := by
  intro θ G H st vs ds z st' Q S r h post
  unfold fMax at h
  split at h
  · obtain ⟨ns, h1, h2⟩ := Option.bind_eq_some_iff.mp h
    obtain ⟨es, h3, h4⟩ := Option.bind_eq_some_iff.mp h1
    obtain ⟨m, h5, h6⟩ := Option.map_eq_some_iff.mp h2
    cases h6
    have h4 := intsD.eq h4
    subst h4
    cases r with
    | cons r1 r2 =>
      cases r2
      obtain ⟨a, ws, rfl, h7, h8⟩ := sqD.ok S r1 h3
      have e := h8.ints
      subst e
      refine ⟨a, ns, rfl, h7, ?_, fun k hk1 hk2 => ?_⟩
      · cases ns with
        | nil => cases h5
        | cons _ _ => simp
      · rw [max_is h5 hk1 hk2]
        exact post.same S (.int _)
  · cases h
theorem s_min [Tbs] : CallS K (rMin K) fMin := by
  intro θ G H st vs ds z st' Q S r h post
  unfold fMin at h
  split at h
  · obtain ⟨ns, h1, h2⟩ := Option.bind_eq_some_iff.mp h
    obtain ⟨es, h3, h4⟩ := Option.bind_eq_some_iff.mp h1
    obtain ⟨m, h5, h6⟩ := Option.map_eq_some_iff.mp h2
    cases h6
    have h4 := intsD.eq h4
    subst h4
    cases r with
    | cons r1 r2 =>
      cases r2
      obtain ⟨a, ws, rfl, h7, h8⟩ := sqD.ok S r1 h3
      have e := h8.ints
      subst e
      refine ⟨a, ns, rfl, h7, ?_, fun k hk1 hk2 => ?_⟩
      · cases ns with
        | nil => cases h5
        | cons _ _ => simp
      · rw [min_is h5 hk1 hk2]
        exact post.same S (.int _)
  · cases h
def fMax2 : FC := fun ds st => match ds with
  | [.int i, .int j] => some (.int (if j > i then j else i), st)
  | _ => none
def fMin2 : FC := fun ds st => match ds with
  | [.int i, .int j] => some (.int (if j < i then j else i), st)
  | _ => none
theorem s_max2 [Tbs] : CallS K (fun xs H Q => ∃ i j, xs = [.int i, .int j] ∧ Q (.int (if j > i then j else i)) H) fMax2 := by
  intro θ G H st vs ds z st' Q S r h post
  unfold fMax2 at h
  split at h
  · cases h
    cases r with
    | cons r1 r2 =>
      cases r2 with
      | cons r2 r3 => cases r1; cases r2; cases r3; exact ⟨_, _, rfl, post.same S (.int _)⟩
  · cases h
theorem s_min2 [Tbs] : CallS K (fun xs H Q => ∃ i j, xs = [.int i, .int j] ∧ Q (.int (if j < i then j else i)) H) fMin2 := by
  intro θ G H st vs ds z st' Q S r h post
  unfold fMin2 at h
  split at h
  · cases h
    cases r with
    | cons r1 r2 =>
      cases r2 with
      | cons r2 r3 => cases r1; cases r2; cases r3; exact ⟨_, _, rfl, post.same S (.int _)⟩
  · cases h
end
section
variable {X : Cx} {e e2 : Expr} {g : FA} {p pos : Pos}
theorem c_tupc [Tbs] (hg : Gl X "tuple") (hm : X.mg "tuple" = none) (ha : PA X [e] (tA X.K g)) (he : starEach [e] X.env = (false, eval e X.env) :: starEach [] X.env := by rfl) : PE X (.Call (.Name "tuple" p) [e] [] pos) (tE X.K (EC fTup g)) := c_ct call_tuple_of s_tupc hg hm (by decide +kernel) ha (by decide) (by decide) he
theorem c_listc [Tbs] (hg : Gl X "list") (hm : X.mg "list" = none) (ha : PA X [e] (tA X.K g)) (he : starEach [e] X.env = (false, eval e X.env) :: starEach [] X.env := by rfl) : PE X (.Call (.Name "list" p) [e] [] pos) (tE X.K (EC fList g)) := c_ct call_list_of s_list hg hm (by decide +kernel) ha (by decide) (by decide) he
theorem c_listN [Tbs] (hg : Gl X "list") (hm : X.mg "list" = none) (ha : PA X [e] (tA X.K g)) (he : starEach [e] X.env = (false, eval e X.env) :: starEach [] X.env := by rfl) : PE X (.Call (.Name "list" p) [e] [] pos) (tE X.K (EC fListN g)) := c_ct call_list_of s_listN hg hm (by decide +kernel) ha (by decide) (by decide) he
theorem c_max1 [Tbs] (hc : X.calm = true) (hg : Gl X "max") (hm : X.mg "max" = none) (ha : PA X [e] (tA X.K g)) (he : starEach [e] X.env = (false, eval e X.env) :: starEach [] X.env := by rfl) : PE X (.Call (.Name "max" p) [e] [] pos) (tE X.K (EC fMax g)) := c_cb (cr_max hc) s_max hg hm (by decide +kernel) ha (by decide) (by decide) he
theorem c_min1 [Tbs] (hc : X.calm = true) (hg : Gl X "min") (hm : X.mg "min" = none) (ha : PA X [e] (tA X.K g)) (he : starEach [e] X.env = (false, eval e X.env) :: starEach [] X.env := by rfl) : PE X (.Call (.Name "min" p) [e] [] pos) (tE X.K (EC fMin g)) := c_cb (cr_min hc) s_min hg hm (by decide +kernel) ha (by decide) (by decide) he
theorem c_max2 [Tbs] (hc : X.calm = true) (hg : Gl X "max") (hm : X.mg "max" = none) (ha : PA X [e, e2] (tA X.K g)) (he : starEach [e, e2] X.env = (false, eval e X.env) :: starEach [e2] X.env := by rfl) (hpl : (backTo pos (starEach [e2] X.env)).any (·.1) = false := by rfl) : PE X (.Call (.Name "max" p) [e, e2] [] pos) (tE X.K (EC fMax2 g)) := c_cb (call_max2 hc) s_max2 hg hm (by decide +kernel) ha (by decide) (by decide) he hpl
theorem c_min2 [Tbs] (hc : X.calm = true) (hg : Gl X "min") (hm : X.mg "min" = none) (ha : PA X [e, e2] (tA X.K g)) (he : starEach [e, e2] X.env = (false, eval e X.env) :: starEach [e2] X.env := by rfl) (hpl : (backTo pos (starEach [e2] X.env)).any (·.1) = false := by rfl) : PE X (.Call (.Name "min" p) [e, e2] [] pos) (tE X.K (EC fMin2 g)) := c_cb (call_min2 hc) s_min2 hg hm (by decide +kernel) ha (by decide) (by decide) he hpl
end

/-! ### sum, max, min of lists and tuples -/
section
variable {prog : Program} {w : World} {A : Around} {E : Value → Shared → Prop} {s : Shared} {l t : Addr} {its : List Value} {ns : List Int} {Q : Value → Shared → Prop} {xs : Array (Int × Tok)}
theorem sum_rawT (hh : A.handled = none) (hl : s.heap.IsTuple l its.toArray) (hi : IntsAre its ns)
    (h : ∀ h' tk t', (∀ b o, s.heap.get? b = some o → h'.get? b = some o) → Q (.int ns.sum t') { s with heap := h', toks := tk }) : wpAny (model prog w) A (call (.builtin "sum") [.ref l]) Q E s := by
  obtain ⟨xs, e⟩ := hi.allInts.items
  have hn : numsOf (intItems xs).toList = ns := by rw [← e]; exact hi.numsOf
  rw [nums_intItems] at hn
  rw [e] at hl
  refine PySem.W.ktm_sumG hh hl fun h' tk t' hk => ?_
  have := h h' tk t' hk
  rw [preSum_eq, List.take_of_length_le (by simp), hn]; exact this
theorem old_keptT {h' : Heap} (hk : ∀ b o, b ∉ [s.heap.objs.size] → (s.heap.push { cls := .type "tuple_iterator", data := .fields #[.ref l, .int 0 0] }).get? b = some o → h'.get? b = some o) :
    ∀ b o, s.heap.get? b = some o → h'.get? b = some o := fun b o e => by
  refine hk b o (fun hm => ?_) (Heap.get?_push_of_some _ e)
  rcases List.mem_cons.mp hm with e1 | hm
  · exact absurd (e1 ▸ Heap.lt_size e) (Nat.lt_irrefl _)
  · cases hm
theorem tup_fp (ht : s.heap.IsTuple t its.toArray) : ∀ b ∈ [s.heap.objs.size, t], b < (s.heap.push { cls := .type "tuple_iterator", data := .fields #[.ref t, .int 0 0] }).objs.size := fun b hb => by
  obtain ⟨o, ho, _⟩ := ht
  rcases List.mem_cons.mp hb with rfl | hb
  · exact Heap.lt_size (Heap.get?_push_size _ rfl)
  · obtain rfl := List.mem_singleton.mp hb
    exact Heap.lt_size (Heap.get?_push_of_some _ ho)
theorem max_rawT (hh : A.handled = none) (hl : s.heap.IsTuple l its.toArray) (hi : IntsAre its ns) (hne : 0 < ns.length)
    (h : ∀ h' tk M t', (∀ b o, s.heap.get? b = some o → h'.get? b = some o) → M ∈ ns → (∀ a, a ∈ ns → a ≤ M) → Q (.int M t') { s with heap := h', toks := tk }) : wpAny (model prog w) A (call (.builtin "max") [.ref l]) Q E s := by
  have hfp := tup_fp hl
  obtain ⟨xs, e⟩ := hi.allInts.items
  have hn : numsOf (intItems xs).toList = ns := by rw [← e]; exact hi.numsOf
  rw [nums_intItems] at hn
  subst hn
  rw [e] at hl
  have hsz : 0 < xs.size := by simpa using hne
  have hne' : l ≠ s.heap.objs.size := by obtain ⟨o, ho, _⟩ := id hl; exact Nat.ne_of_lt (Heap.lt_size ho)
  refine call_max_walk (wpAny_pyIter_tuple hl ?_)
  refine ⟨s.heap.objs.size, _, _, _, _, _, _, rfl, Walks.tuple (A := A.in1) hh s.heap.objs.size l hne' (intItems xs), ⟨⟨_, Heap.get?_push_size _ rfl, rfl, rfl⟩, hl.at fun o e => Heap.get?_push_of_some _ e⟩, hfp, by simpa [intItems] using hsz, CmpOf.ints_gt (numAt xs) (fun _ _ => intItems_at), fun v h' tk hv hk => ?_⟩
  have hv' : (intItems xs)[argBest (fun i j => decide (numAt xs i > numAt xs j)) (xs.size - 1)]? = some v := by simpa [intItems] using hv
  obtain ⟨t, rfl⟩ := intItems_at hv'
  obtain ⟨h1, h2⟩ := argBest_gt (numAt xs) (xs.size - 1)
  refine h h' tk _ t (old_keptT hk) ?_ fun a ha => ?_
  · rw [numAt_eq]; exact PySem.getD_mem (by rw [List.length_map, Array.length_toList]; omega)
  · obtain ⟨j, hj, rfl⟩ := mem_getD ha
    rw [List.length_map, Array.length_toList] at hj
    rw [← numAt_eq]; exact h2 j (by omega)
end
def SqA (K : Frag) (H : Hp) (a : Addr) (xs : List V) : Prop := SqL K H a xs ∨ SqT K H a xs
def rSumA (K : Frag) : List V → Hp → VK → Prop := fun vs H Q => ∃ (a : Addr) (ns : List Int), vs = [V.ref a] ∧ SqA K H a (ns.map V.int) ∧ Q (.int ns.sum) H
def rMaxA (K : Frag) : List V → Hp → VK → Prop := fun vs H Q => ∃ (a : Addr) (ns : List Int), vs = [V.ref a] ∧ SqA K H a (ns.map V.int) ∧ 0 < ns.length ∧ ∀ m, m ∈ ns → (∀ y, y ∈ ns → y ≤ m) → Q (.int m) H
section
variable {X : Cx} {K : Frag}
theorem cr_sumA (hc : X.calm = true) : CallR X (.builtin "sum") (rSumA X.K) := by
  intro pins s σ H vs us Q I r h
  obtain ⟨a, ns, rfl, hs, q⟩ := h
  rcases hs with hs | hs
  · exact cr_sum hc pins s σ H _ us Q I r ⟨a, ns, rfl, hs, q⟩
  · obtain ⟨its, rv, hl, _⟩ := I.tuple hs
    rw [Vals.ref1 r]
    exact sum_rawT (I.ok.hd hc) hl rv.ints fun h' tk t' hk => ⟨.int _, H, I.kept hk, ⟨_, rfl⟩, q⟩
theorem cr_maxA (hc : X.calm = true) : CallR X (.builtin "max") (rMaxA X.K) := by
  intro pins s σ H vs us Q I r h
  obtain ⟨a, ns, rfl, hs, hne, q⟩ := h
  rcases hs with hs | hs
  · exact cr_max hc pins s σ H _ us Q I r ⟨a, ns, rfl, hs, hne, q⟩
  · obtain ⟨its, rv, hl, _⟩ := I.tuple hs
    rw [Vals.ref1 r]
    exact max_rawT (I.ok.hd hc) hl rv.ints hne fun h' tk m t' hk h1 h2 => ⟨.int _, H, I.kept hk, ⟨_, rfl⟩, q m h1 h2⟩
theorem intsA [Tbs] {θ : List Addr} {G H : Hp} {st : Sto} {v : V} {d : D} {ns : List Int} (S : Sim K θ G H st) (r : Rep K θ G v d) (h : (listItems st d).bind intsD = some ns) : ∃ a, v = .ref a ∧ SqA K H a (ns.map V.int) := by
  obtain ⟨es, h3, h4⟩ := Option.bind_eq_some_iff.mp h
  have h4 := intsD.eq h4
  subst h4
  obtain ⟨a, ws, rfl, h7, h8⟩ := listItems.ok S r h3
  have e := h8.ints
  subst e
  exact ⟨a, rfl, h7⟩
def fSum : FC := fun ds st => match ds with
  | [d] => ((listItems st d).bind intsD).map fun ns => (.int ns.sum, st)
  | _ => none
theorem s_sum [Tbs] : CallS K (rSumA K) fSum := by
  intro θ G H st vs ds z st' Q S r h post
  unfold fSum at h
  split at h
  · obtain ⟨ns, h1, h2⟩ := Option.map_eq_some_iff.mp h
    cases h2
    cases r with
    | cons r1 r2 =>
      cases r2
      obtain ⟨a, rfl, h7⟩ := intsA S r1 h1
      exact ⟨a, ns, rfl, h7, post.same S (.int _)⟩
  · cases h
def fMaxA : FC := fun ds st => match ds with
  | [d] => ((listItems st d).bind intsD).bind fun ns => (maxL ns).map fun m => (.int m, st)
  | _ => none
theorem s_maxA [Tbs] : CallS K (rMaxA K) fMaxA := by
  intro θ G H st vs ds z st' Q S r h post
  unfold fMaxA at h
  split at h
  · obtain ⟨ns, h1, h2⟩ := Option.bind_eq_some_iff.mp h
    obtain ⟨m, h5, h6⟩ := Option.map_eq_some_iff.mp h2
    cases h6
    cases r with
    | cons r1 r2 =>
      cases r2
      obtain ⟨a, rfl, h7⟩ := intsA S r1 h1
      refine ⟨a, ns, rfl, h7, ?_, fun k hk1 hk2 => ?_⟩
      · cases ns with
        | nil => cases h5
        | cons _ _ => simp
      · rw [max_is h5 hk1 hk2]
        exact post.same S (.int _)
  · cases h
end
section
variable {X : Cx} {e e2 : Expr} {g : FA} {p pos : Pos}
theorem c_sum [Tbs] (hc : X.calm = true) (hg : Gl X "sum") (hm : X.mg "sum" = none) (ha : PA X [e] (tA X.K g)) (he : starEach [e] X.env = (false, eval e X.env) :: starEach [] X.env := by rfl) : PE X (.Call (.Name "sum" p) [e] [] pos) (tE X.K (EC fSum g)) := c_cb (cr_sumA hc) s_sum hg hm (by decide +kernel) ha (by decide) (by decide) he
theorem c_maxA [Tbs] (hc : X.calm = true) (hg : Gl X "max") (hm : X.mg "max" = none) (ha : PA X [e] (tA X.K g)) (he : starEach [e] X.env = (false, eval e X.env) :: starEach [] X.env := by rfl) : PE X (.Call (.Name "max" p) [e] [] pos) (tE X.K (EC fMaxA g)) := c_cb (cr_maxA hc) s_maxA hg hm (by decide +kernel) ha (by decide) (by decide) he
end
/-! ### index, extend -/
def idxL (p : PyData) : List PyData → Option Nat
  | [] => none
  | q :: qs => if PyData.eqv q p = true then some 0 else (idxL p qs).map (· + 1)
theorem idxL_ok {p : PyData} : ∀ {qs : List PyData} {j : Nat}, idxL p qs = some j → ∃ z, qs[j]? = some z ∧ PyData.eqv z p = true ∧ ∀ (m : Nat) (z' : PyData), m < j → qs[m]? = some z' → PyData.eqv z' p = false
  | [], _, h => by cases h
  | q :: qs, j, h => by
    unfold idxL at h
    split at h
    · rename_i hq
      cases h
      exact ⟨q, rfl, hq, fun m z' hm => absurd hm (Nat.not_lt_zero m)⟩
    · rename_i hq
      obtain ⟨i, h1, rfl⟩ := Option.map_eq_some_iff.mp h
      obtain ⟨z, h2, h3, h4⟩ := idxL_ok h1
      refine ⟨z, h2, h3, fun m z' hm hz => ?_⟩
      cases m with
      | zero => cases hz; exact Bool.eq_false_iff.mpr hq
      | succ m => exact h4 m z' (by omega) hz
def mIndex : FM := fun d ds st => match ds with
  | [y] => match pyD st d, pyD st y with
    | some (.list ps), some p => if SeqAt.shaped (.list ps) = true ∧ SeqAt.shaped p = true then (idxL p ps).map fun j => (.int (j : Nat), st) else none
    | _, _ => none
  | _ => none
theorem s_index [Tbs] {K : Frag} : MtS K (rIndexD K) mIndex := by
  intro θ G H st x d vs ds z st' Q S rx r h post
  unfold mIndex at h
  split at h
  · split at h
    · rename_i ps p h1 h2
      split at h
      · rename_i hs
        obtain ⟨j, h3, h4⟩ := Option.map_eq_some_iff.mp h
        cases h4
        obtain ⟨z, h5, h6, h7⟩ := idxL_ok h3
        cases r with
        | cons r1 r2 =>
          cases r2
          have hd := pyD.ok S rx h1
          obtain ⟨a, rfl⟩ : ∃ a, x = .ref a := by cases hd; exact ⟨_, rfl⟩
          exact ⟨a, _, p, ps, j, z, rfl, rfl, hd, pyD.ok S r1 h2, hs.1, hs.2, h5, h6, h7, post.same S (.int _)⟩
      · cases h
    · cases h
  · cases h
/-! ### slices -/
abbrev FO := Env → Sto → Option (Option Int × Sto)
def Onone : FO := fun _ st => some (none, st)
def Osome (f : FE) : FO := fun env st => (f env st).bind fun p => match p.1 with
  | .int i => some (some i, p.2)
  | _ => none
def cutL {α : Type} (xs : List α) (lo hi : Option Int) : List α := (xs.drop (HT.sIx xs.length 0 lo)).take (HT.sIx xs.length xs.length hi - HT.sIx xs.length 0 lo)
def slD (x : D) (lo hi : Option Int) (st : Sto) : Option (D × Sto) := match x with
  | .tup ds => some (.tup (cutL ds lo hi), st)
  | .str z => if z.length ≤ 16777216 then some (.str (cutS z lo hi), st) else none
  | d => (sqD st d).map fun ds => (.lst (cutL ds lo hi), st)
def Esl (fo : FE) (fl fh : FO) : FE := fun env st => (fo env st).bind fun p => (fl env p.2).bind fun q => (fh env q.2).bind fun r => slD p.1 q.1 r.1 r.2

/-! a slice's own rules -/
def tO [Tbs] (K : Frag) (f : FO) : TO := fun σ H Q => ∃ θ G env st o st', Sim K θ G H st ∧ EnvR K θ G σ env ∧ f env st = some (o, st') ∧ ∀ θ' G' H', Ext θ θ' G G' H H' → Sim K θ' G' H' st' → Q o H'
theorem poImp {X : Cx} {e : Option Expr} {t t' : TO} (h : PO X e t) (i : ∀ σ H Q, t' σ H Q → t σ H Q) : PO X e t' := ⟨fun pins s σ H Q I q => h.run pins s σ H Q I (i _ _ _ q)⟩
theorem o_none [Tbs] {X : Cx} : PO X none (tO X.K Onone) := poImp po_none fun σ H Q ⟨θ, G, env, st, o, st', S, EN, hf, post⟩ => by
  cases hf
  exact post _ _ _ .refl S
theorem o_some [Tbs] {X : Cx} {e : Expr} {f : FE} (h : PE X e (tE X.K f)) : PO X (some e) (tO X.K (Osome f)) := poImp (po_some h) fun σ H Q ⟨θ, G, env, st, o, st', S, EN, hf, post⟩ => by
  obtain ⟨⟨d, st1⟩, h1, h2⟩ := Option.bind_eq_some_iff.mp hf
  dsimp only at h2
  split at h2
  · cases h2
    refine tE.go S EN h1 fun θ1 G1 H1 v1 e1 S1 EN1 r1 => ?_
    cases r1
    exact ⟨_, rfl, post _ _ _ e1 S1⟩
  · cases h2
theorem Reps.cut {K : Frag} {θ : List Addr} {G : Hp} : ∀ {vs : List V} {ds : List D} (a b : Nat), Reps K θ G vs ds → Reps K θ G ((vs.drop a).take b) ((ds.drop a).take b)
  | [], _, a, b, r => by cases r; simp; exact .nil
  | v :: vs, d :: ds, 0, 0, r => by simp; exact .nil
  | v :: vs, d :: ds, 0, b + 1, r => by
    cases r with
    | cons r1 r2 => simpa using Reps.cons r1 (by simpa using Reps.cut 0 b r2)
  | v :: vs, d :: ds, a + 1, b, r => by
    cases r with
    | cons r1 r2 => simpa using Reps.cut a b r2
theorem cut_rep {K : Frag} {θ : List Addr} {G : Hp} {vs : List V} {ds : List D} (lo hi : Option Int) (r : Reps K θ G vs ds) : Reps K θ G (cutV vs lo hi) (cutL ds lo hi) := by
  unfold cutV cutL
  rw [r.len]
  exact r.cut _ _
theorem cutL_all {α : Type} {xs : List α} {lo hi : Option Int} (h1 : HT.sIx xs.length 0 lo = 0) (h2 : HT.sIx xs.length xs.length hi = xs.length) : cutL xs lo hi = xs := by
  unfold cutL
  rw [h1, h2, List.drop_zero, Nat.sub_zero, List.take_length]
def rSlAll (K : Frag) : V → Option Int → Option Int → Hp → VK → Prop := fun x lo hi H Q => (rSlL K x lo hi H Q ∨ rSlA K x lo hi H Q) ∨ rSlS x lo hi H Q
theorem sl_all {X : Cx} : SlR X (rSlAll X.K) := (sl_list.or sl_tupA).or sl_str
theorem c_sl [Tbs] {X : Cx} {e : Expr} {lo hi : Option Expr} {fo : FE} {fl fh : FO} {pos p2 : Pos} (he : PE X e (tE X.K fo)) (hl : PO X lo (tO X.K fl)) (hh : PO X hi (tO X.K fh)) : PE X (.Subscript e (.Slice lo hi none p2) pos) (tE X.K (Esl fo fl fh)) :=
  peImp (pe_slice sl_all he hl hh) fun σ H Q ⟨θ, G, env, st, d, st', S, EN, hf, post⟩ => by
    obtain ⟨⟨x, st1⟩, h1, hf⟩ := Option.bind_eq_some_iff.mp hf
    obtain ⟨⟨a, st2⟩, h2, hf⟩ := Option.bind_eq_some_iff.mp hf
    obtain ⟨⟨b, st3⟩, h3, hf⟩ := Option.bind_eq_some_iff.mp hf
    refine tE.go S EN h1 fun θ1 G1 H1 v1 e1 S1 EN1 r1 => ⟨_, _, _, _, _, _, S1, EN1, h2, fun θ2 G2 H2 e2 S2 => ⟨_, _, _, _, _, _, S2, EN1.ext e2, h3, fun θ3 G3 H3 e3 S3 => ?_⟩⟩
    have r3 := (r1.ext e2).ext e3
    have post' : PostE X.K θ3 G3 H3 st' d Q := fun θ' G' H' v e s r => post _ _ _ _ (((e1.trans S1 e2).trans S2 e3).trans S3 e) s r
    dsimp only at hf r3
    clear h1 r1
    unfold slD at hf
    split at hf
    · cases hf
      cases r3 with
      | @tup p vs ds g1 g2 =>
        refine .inl (.inr ⟨p, vs, rfl, S3.t g1, fun hw => ?_, fun hw q hq => post'.newT S3 hq (cut_rep a b g2)⟩)
        rw [g2.len] at hw
        rw [cutL_all hw.1 hw.2] at post'
        exact post'.same S3 (.tup g1 g2)
    · split at hf
      · rename_i hz
        cases hf
        cases r3
        exact .inr ⟨_, rfl, szl hz, post'.same S3 (.str _)⟩
      · cases hf
    · obtain ⟨ds, h4, h5⟩ := Option.map_eq_some_iff.mp hf
      cases h5
      obtain ⟨p, vs, rfl, h6, h7⟩ := sqD.ok S3 r3 h4
      exact .inl (.inl ⟨p, vs, rfl, h6, fun q hq => post'.newL S3 hq (cut_rep a b h7)⟩)
/-! ### reckoning, more -/
theorem toPys_ints (ns : List Int) : toPys (ns.map D.int) = some (ns.map PyData.int) := by
  induction ns with
  | nil => rfl
  | cons n ns ih =>
    show (toPy (.int n)).bind (fun p => (toPys (ns.map D.int)).map (p :: ·)) = _
    rw [ih]
    rfl
theorem shaped_tints (ns : List Int) : SeqAt.shaped (.tuple (ns.map PyData.int)) = true := by
  simp [SeqAt.shaped, PyData.canLay0, PyData.depth, PySem.W.ke_canLayAll0, PySem.W.ke_depthAll]
theorem eqv_ints : ∀ ns ms : List Int, PyData.eqvAll (ns.map PyData.int) (ms.map PyData.int) = decide (ns = ms)
  | [], [] => by simp [PyData.eqvAll]
  | [], _ :: _ => by simp [PyData.eqvAll]
  | _ :: _, [] => by simp [PyData.eqvAll]
  | n :: r, k :: q => by
    simp only [List.map_cons, PyData.eqvAll, PyData.eqv, eqv_ints r q]
    by_cases h : n = k <;> simp [h]
theorem idxL_ints : ∀ (ns : List Int) (j : Nat) (m : Int), ns[j]? = some m → (∀ i, i < j → ns[i]? ≠ some m) → idxL (.int m) (ns.map PyData.int) = some j
  | [], _, _, h, _ => by cases h
  | n :: ns, 0, m, h, _ => by
    cases h
    simp [idxL, PyData.eqv]
  | n :: ns, j + 1, m, h, hn => by
    have h0 := hn 0 (by omega)
    have e : ¬ (PyData.eqv (.int n) (.int m) = true) := fun q => h0 (by simp [PyData.eqv] at q; simp [q])
    simp only [List.map_cons, idxL]
    rw [if_neg e, idxL_ints ns j m h fun i hi => hn (i + 1) (by omega)]
    rfl
theorem maxL_of {ns : List Int} {m : Int} (h1 : m ∈ ns) (h2 : ∀ y, y ∈ ns → y ≤ m) : maxL ns = some m := by
  cases ns with
  | nil => cases h1
  | cons x xs =>
    have h : maxL (x :: xs) = some (xs.foldl max x) := rfl
    rw [h, max_is h h1 h2]
section
variable {env env' : Env} {st : Sto} {QE : D → Sto → Prop} {QS : Fl → Sto → Prop} {QI : List D → Watch → Sto → Prop} {g : FA} {fo : FE}
theorem any_ref {n : Nat} {ds : List D} (e : st[n]? = some (.lst ds)) : anyD st (.ref n) = some (false, ds) := by simp only [anyD, sqD, e, Option.map_some]
theorem li_ref {n : Nat} {ds : List D} (e : st[n]? = some (.lst ds)) : listItems st (.ref n) = some ds := by simp only [listItems, sqD, e]
def zipK (QI : List D → Watch → Sto → Prop) : List D → Sto → Prop := fun xs st1 => ∃ x y t a t' b, xs = [x, y] ∧ anyD st1 x = some (t, a) ∧ anyD st1 y = some (t', b) ∧ QI (zipL a b) (watchOf x a ++ watchOf y b) st1
theorem x_zip (h : wp (g env st) (zipK QI)) : wpI (Izip g env st) QI := by
  refine wpI_bind (h.mono fun d st1 q => ?_)
  obtain ⟨x, y, t, a, t', b, rfl, e1, e2, q⟩ := q
  exact ⟨_, _, _, by simp only [e1, e2], q⟩
theorem y_zip {x y : D} {t t' : Bool} {a b : List D} (e : anyD st x = some (t, a)) (f : anyD st y = some (t', b)) (h : QI (zipL a b) (watchOf x a ++ watchOf y b) st) : zipK QI [x, y] st := ⟨_, _, _, _, _, _, rfl, e, f, h⟩
theorem y_tbk {b : Bool} {A B : Prop} (e : b = true) (h : A) : if b = true then A else B := by rw [e]; exact h
theorem y_fbk {b : Bool} {A B : Prop} (e : b = false) (h : B) : if b = true then A else B := by rw [e]; exact h
theorem y_nn {d : D} {A B : Prop} (e : isNon d = false) (h : B) : if isNon d = true then A else B := by rw [e]; exact h
theorem y_ny {d : D} {A B : Prop} (e : isNon d = true) (h : A) : if isNon d = true then A else B := by rw [e]; exact h
theorem y_nnn {d : D} {A B : Prop} (e : isNon d = false) (h : A) : if (!isNon d) = true then A else B := by rw [e]; exact h
theorem y_nny {d : D} {A B : Prop} (e : isNon d = true) (h : B) : if (!isNon d) = true then A else B := by rw [e]; exact h
theorem z_tupT {ds : List D} (h : QE (.tup ds) st) : wp (fTup [.tup ds] st) QE := wp_some h
theorem z_tupL {ds : List D} (h : QE (.tup ds) st) : wp (fTup [.lst ds] st) QE := wp_some h
theorem z_tupQ {ds : List D} (h : QE (.tup ds) st) : wp (fTup [.sq ds] st) QE := wp_some h
theorem z_tupR {n : Nat} {ds : List D} (e : st[n]? = some (.lst ds)) (h : QE (.tup ds) st) : wp (fTup [.ref n] st) QE := ⟨_, _, by simp only [fTup, sqD, e, Option.map_some], h⟩
theorem z_lst {d : D} {ds : List D} (e : listItems st d = some ds) (h : QE (.lst ds) st) : wp (fList [d] st) QE := ⟨_, _, by simp only [fList, e, Option.map_some], h⟩
theorem z_lsn {d : D} {ds : List D} (e : listItems st d = some ds) (h : QE (.ref st.length) (st ++ [.lst ds])) : wp (fListN [d] st) QE := ⟨_, _, by simp only [fListN, e, Option.map_some], h⟩
theorem ints_ref {n : Nat} {ns : List Int} (e : st[n]? = some (.lst (ns.map D.int))) : (listItems st (.ref n)).bind intsD = some ns := by rw [li_ref e]; exact intsD_map ns
theorem ints_refD {n : Nat} {ds : List D} {ns : List Int} (e : st[n]? = some (.lst ds)) (f : intsD ds = some ns) : (listItems st (.ref n)).bind intsD = some ns := by rw [li_ref e]; exact f
theorem ints_tup {ns : List Int} : (listItems st (.tup (ns.map D.int))).bind intsD = some ns := intsD_map ns
theorem z_sum {d : D} {ns : List Int} (e : (listItems st d).bind intsD = some ns) (h : QE (.int ns.sum) st) : wp (fSum [d] st) QE := ⟨_, _, by simp only [fSum, e, Option.map_some], h⟩
theorem z_max {d : D} {ns : List Int} {m : Int} (e : (listItems st d).bind intsD = some ns) (e2 : maxL ns = some m) (h : QE (.int m) st) : wp (fMaxA [d] st) QE := ⟨_, _, by simp only [fMaxA, e, e2, Option.bind_some, Option.map_some], h⟩
theorem z_max2 {i j : Int} (h : QE (.int (if j > i then j else i)) st) : wp (fMax2 [.int i, .int j] st) QE := wp_some h
theorem z_min2 {i j : Int} (h : QE (.int (if j < i then j else i)) st) : wp (fMin2 [.int i, .int j] st) QE := wp_some h
theorem z_isi {T n : String} {d : D} {b : Bool} (e : tyN st d = some n) (e2 : kitB n T = some b) (h : QE (.bl b) st) : wp (fIsi [d, .ty T] st) QE := ⟨_, _, by simp only [fIsi, e, e2, Option.map_some], h⟩
theorem z_idxI {n : Nat} {ns : List Int} {m : Int} {j : Nat} (e : st[n]? = some (.lst (ns.map D.int))) (h1 : ns[j]? = some m) (h2 : ∀ i, i < j → ns[i]? ≠ some m) (h : QE (.int (j : Nat)) st) : wp (mIndex (.ref n) [.int m] st) QE := by
  refine ⟨_, _, ?_, h⟩
  have e1 : pyD st (.ref n) = some (.list (ns.map PyData.int)) := by simp only [pyD, e, toPys_ints, Option.map_some]
  have e2 : pyD st (.int m) = some (.int m) := rfl
  have e3 : SeqAt.shaped (.int m) = true := by simp [SeqAt.shaped, PyData.canLay0, PyData.depth]
  simp only [mIndex, e1, e2]
  rw [if_pos ⟨PySem.W.ke_shaped_ints ns, e3⟩, idxL_ints ns j m h1 h2]
  rfl
theorem z_eqTI {ns ms : List Int} (h : QE (.bl (decide (ns = ms))) st) : wp (eqD false (.tup (ns.map D.int)) (.tup (ms.map D.int)) st) QE := by
  refine ⟨_, _, ?_, h⟩
  have e1 : ∀ ns : List Int, pyD st (.tup (ns.map D.int)) = some (.tuple (ns.map PyData.int)) := fun ns => by
    show toPy (.tup (ns.map D.int)) = _
    show (toPys (ns.map D.int)).map PyData.tuple = _
    rw [toPys_ints]
    rfl
  simp only [eqD, e1]
  rw [if_pos ⟨shaped_tints ns, shaped_tints ms⟩]
  simp only [PyData.eqv, eqv_ints, Bool.false_eq_true, if_false]
theorem x_sl {fl fh : FO} (h : wp (fo env st) fun x st1 => wp (fl env st1) fun a st2 => wp (fh env st2) fun b st3 => wp (slD x a b st3) QE) : wp (Esl fo fl fh env st) QE := wp_bind (h.mono fun _ _ q => wp_bind (q.mono fun _ _ q => wp_bind q))
theorem x_on {Q : Option Int → Sto → Prop} (h : Q none st) : wp (Onone env st) Q := wp_some h
theorem x_os {Q : Option Int → Sto → Prop} {f : FE} (h : wp (f env st) fun d st1 => ∃ i, d = .int i ∧ Q (some i) st1) : wp (Osome f env st) Q := wp_bind (h.mono fun d st1 ⟨i, e, q⟩ => by subst e; exact wp_some q)
theorem z_slT {ds : List D} {a b : Option Int} (h : QE (.tup (cutL ds a b)) st) : wp (slD (.tup ds) a b st) QE := wp_some h
theorem z_slL {ds : List D} {a b : Option Int} (h : QE (.lst (cutL ds a b)) st) : wp (slD (.lst ds) a b st) QE := wp_some h
theorem z_slS {z : PySem.Str} {a b : Option Int} (hz : z.length ≤ 16777216) (h : QE (.str (cutS z a b)) st) : wp (slD (.str z) a b st) QE := wp_if hz (wp_some h)
theorem sIx_nn {n : Nat} {i d : Int} (h : 0 ≤ i) : HT.sIx n d.toNat (some i) = min i.toNat n := by
  simp only [HT.sIx]
  rw [if_neg (by omega)]
theorem cut_hi {α : Type} {xs : List α} {i : Int} (h : 0 ≤ i) : cutL xs none (some i) = xs.take i.toNat := by
  unfold cutL
  have e : HT.sIx xs.length 0 none = 0 := rfl
  have e2 : HT.sIx xs.length xs.length (some i) = min i.toNat xs.length := by
    simp only [HT.sIx]
    rw [if_neg (by omega)]
  rw [e, e2, List.drop_zero, Nat.sub_zero, List.take_eq_take_min]
  simp [Nat.min_comm]
end
section
variable {α : Type}
theorem set_map_range (f : Nat → α) (n k : Nat) (x : α) : ((List.range n).map f).set k x = (List.range n).map fun j => if j = k then x else f j := by
  apply List.ext_getElem?
  intro i
  rw [List.getElem?_set]
  simp only [List.length_map, List.length_range, List.getElem?_map]
  by_cases h : k = i
  · subst h
    by_cases h2 : k < n
    · simp [h2]
    · simp [h2]
  · rw [if_neg h]
    by_cases h2 : i < n
    · simp [h2, Ne.symm h]
    · simp [h2]
theorem at_map_range {f : Nat → α} {n : Nat} {i : Int} (h0 : 0 ≤ i) (h1 : i < (n : Nat)) : atI ((List.range n).map f) i = some (f i.toNat) := by
  have h2 : i.toNat < n := by omega
  exact atI_get h0 (by simp [h2])
end

/-! ### lists that are made to change; a list turned round; extend -/
def mulN : F2 := fun x y st => match y with
  | .int k => match lsD st x with
    | some ds => if -(2 ^ 63) ≤ k ∧ k < 2 ^ 63 ∧ ds.length * k.toNat ≤ 16777216 then some (.ref st.length, st ++ [.lst (List.replicate k.toNat ds).flatten]) else none
    | none => none
  | _ => none
theorem s_mulN [Tbs] {K : Frag} : Op2 K (rMulA K) mulN := by
  intro θ G H st x y d e z st' Q S rx ry h post
  unfold mulN at h
  split at h
  · split at h
    · rename_i ds hq
      split at h
      · rename_i hm
        cases h; cases ry
        obtain ⟨a, vs, rfl, h1, h2⟩ := lsD.ok S rx hq
        exact .inr (.inr (.inl ⟨_, _, vs, rfl, rfl, h1, hm.1, hm.2.1, by rw [h2.len]; exact szl hm.2.2, fun p hp => post.newM S hp (h2.rep _)⟩))
      · cases h
    · cases h
  · cases h
def addN : F2 := fun x y st => match lsD st x, lsD st y with
  | some a, some b => if a.length + b.length ≤ 16777216 then some (.ref st.length, st ++ [.lst (a ++ b)]) else none
  | _, _ => none
theorem s_addN [Tbs] {K : Frag} : Op2 K (rAddA K) addN := by
  intro θ G H st x y d e z st' Q S rx ry h post
  unfold addN at h
  split at h
  · rename_i a b ha hb
    split at h
    · rename_i hl
      cases h
      obtain ⟨p, vs, rfl, h1, h2⟩ := lsD.ok S rx ha
      obtain ⟨q, ws, rfl, h3, h4⟩ := lsD.ok S ry hb
      exact .inr (.inr (.inr ⟨_, _, _, _, rfl, rfl, h1, h3, by rw [h2.len, h4.len]; exact szl hl, fun p hp => post.newM S hp (h2.append h4)⟩))
    · cases h
  · cases h
def revD (x : D) (st : Sto) : Option (D × Sto) := (sqD st x).map fun ds => (.lst ds.reverse, st)
theorem Reps.rev {K : Frag} {θ : List Addr} {G : Hp} {vs : List V} {ds : List D} (r : Reps K θ G vs ds) : Reps K θ G vs.reverse ds.reverse := by
  induction vs generalizing ds with
  | nil => cases r; exact .nil
  | cons v vs ih =>
    cases r with
    | cons r1 r2 =>
      rw [List.reverse_cons, List.reverse_cons]
      exact (ih r2).append (.cons r1 .nil)
def mExt : FM := fun d ds st => match d, ds with
  | .ref n, [y] => match st[n]?, lsD st y with
    | some (.lst es), some zs => if es.length + zs.length ≤ 16777216 then some (.non, st.set n (.lst (es ++ zs))) else none
    | _, _ => none
  | _, _ => none
theorem s_ext [Tbs] {K : Frag} : MtS K rExtend mExt := by
  intro θ G H st x d vs ds z st' Q S rx r h post
  unfold mExt at h
  split at h
  · split at h
    · rename_i es zs he hz
      split at h
      · rename_i hl
        cases h
        cases rx with
        | ref h1 =>
          obtain ⟨o, h2, h3⟩ := S.at h1
          rw [he] at h2
          cases h2
          obtain ⟨ws, h4, h5⟩ := h3
          cases r with
          | cons r1 r2 =>
            cases r2
            obtain ⟨b, us, rfl, h6, h7⟩ := lsD.ok S r1 hz
            exact ⟨_, b, ws, us, rfl, rfl, h4, h6, by rw [h5.len, h7.len]; exact szl hl, post _ _ _ _ (Ext.set S h1 _) (S.set h1 (h5.append h7)) .non⟩
      · cases h
    · cases h
  · cases h
section
variable {X : Cx} {a b : Expr} {fa fb : FE} {pos : Pos}
theorem c_mulN [Tbs] (ha : PE X a (tE X.K fa)) (hb : PE X b (tE X.K fb)) : PE X (.BinOp a .Mult b pos) (tE X.K (E2 mulN fa fb)) := c_op o_mul s_mulN ha hb
theorem c_addN [Tbs] (ha : PE X a (tE X.K fa)) (hb : PE X b (tE X.K fb)) : PE X (.BinOp a .Add b pos) (tE X.K (E2 addN fa fb)) := c_op o_add s_addN ha hb
theorem c_rev [Tbs] {k : Nat} {p1 p2 p3 : Pos} (ha : PE X a (tE X.K fa)) : PE X (.Subscript a (.Slice none none (some (.UnaryOp .USub (.Constant (.int 1) k p1) p2)) p3) pos) (tE X.K (E1 revD fa)) :=
  peImp (pe_revL ha) fun σ H Q ⟨θ, G, env, st, d, st', S, EN, hf, post⟩ => by
    obtain ⟨⟨x, st1⟩, h1, h2⟩ := Option.bind_eq_some_iff.mp hf
    obtain ⟨ds, h3, h4⟩ := Option.map_eq_some_iff.mp h2
    cases h4
    refine tE.go S EN h1 fun θ1 G1 H1 v1 e1 S1 EN1 r1 => ?_
    obtain ⟨p, vs, rfl, h5, h6⟩ := sqD.ok S1 r1 h3
    exact ⟨p, vs, rfl, h5, fun q hq => PostE.newL (fun θ' G' H' v e s r => post _ _ _ _ (e1.trans S1 e) s r) S1 hq h6.rev⟩
end
section
variable {st : Sto} {QE : D → Sto → Prop}
theorem z_mulN {x : D} {k : Int} {ds : List D} (e : lsD st x = some ds) (h1 : -(2 ^ 63) ≤ k ∧ k < 2 ^ 63 ∧ ds.length * k.toNat ≤ 16777216) (h : QE (.ref st.length) (st ++ [.lst (List.replicate k.toNat ds).flatten])) : wp (mulN x (.int k) st) QE := ⟨_, _, by simp only [mulN, e]; exact if_pos h1, h⟩
theorem z_addL {a b : List D} (hl : a.length + b.length ≤ 16777216) (h : QE (.lst (a ++ b)) st) : wp (addD (.lst a) (.lst b) st) QE := ⟨_, _, by simp only [addD, lsD]; exact if_pos hl, h⟩
theorem z_revR {n : Nat} {ds : List D} (e : st[n]? = some (.lst ds)) (h : QE (.lst ds.reverse) st) : wp (revD (.ref n) st) QE := ⟨_, _, by simp only [revD, sqD, e, Option.map_some], h⟩
theorem z_ext {n : Nat} {y : D} {es zs : List D} {st' : Sto} (e : st[n]? = some (.lst es)) (e2 : lsD st y = some zs) (hl : es.length + zs.length ≤ 16777216) (e3 : st.set n (.lst (es ++ zs)) = st') (h : QE .non st') : wp (mExt (.ref n) [y] st) QE := ⟨_, _, by simp only [mExt, e, e2]; exact if_pos hl, by rw [e3]; exact h⟩
end

/-! ### str of an int; texts in a row -/
def fStr : FC := fun ds st => match ds with
  | [.int i] => if i.natAbs.log2 < 1920 then some (.str (toString i), st) else none
  | _ => none
theorem s_str [Tbs] {K : Frag} : CallS K (fun xs H Q => ∃ i, xs = [.int i] ∧ i.natAbs.log2 < 1920 ∧ Q (.str (toString i)) H) fStr := by
  intro θ G H st vs ds z st' Q S r h post
  unfold fStr at h
  split at h
  · split at h
    · rename_i hl
      cases h
      cases r with
      | cons r1 r2 =>
        cases r2
        cases r1
        exact ⟨_, rfl, hl, post.same S (.str _)⟩
    · cases h
  · cases h
section
variable {X : Cx} {e : Expr} {g : FA} {p pos : Pos}
theorem c_strc [Tbs] (hg : Gl X "str") (hm : X.mg "str" = none) (ha : PA X [e] (tA X.K g)) (he : starEach [e] X.env = (false, eval e X.env) :: starEach [] X.env := by rfl) : PE X (.Call (.Name "str" p) [e] [] pos) (tE X.K (EC fStr g)) := c_ct call_str_int s_str hg hm (by decide +kernel) ha (by decide) (by decide) he
end
theorem small_str : ∀ n : Nat, n < 64 → n.log2 < 1920 ∧ (Str.ofString (toString (n : Int))).length ≤ 3 := by decide +kernel
def strsD : List D → Option (List PySem.Str)
  | [] => some []
  | .str z :: ds => (strsD ds).map (z :: ·)
  | _ => none
theorem strsD.eq : ∀ {ds : List D} {zs : List PySem.Str}, strsD ds = some zs → ds = zs.map D.str
  | [], _, h => by cases h; rfl
  | .str i :: ds, _, h => by
    obtain ⟨ms, h1, rfl⟩ := Option.map_eq_some_iff.mp (show (strsD ds).map (i :: ·) = some _ from h)
    rw [strsD.eq h1]
    rfl
  | .non :: _, _, h => by cases h
  | .bl _ :: _, _, h => by cases h
  | .int _ :: _, _, h => by cases h
  | .tup _ :: _, _, h => by cases h
  | .lst _ :: _, _, h => by cases h
  | .sq _ :: _, _, h => by cases h
  | .ref _ :: _, _, h => by cases h
  | .adr _ :: _, _, h => by cases h
  | .ty _ :: _, _, h => by cases h
section
variable {st : Sto} {QE : D → Sto → Prop}
theorem z_strI {i : Int} (h0 : 0 ≤ i) (h1 : i < 64) (h : ∀ z : PySem.Str, z.length ≤ 3 → QE (.str z) st) : wp (fStr [.int i] st) QE := by
  obtain ⟨n, rfl⟩ : ∃ n : Nat, i = (n : Int) := ⟨i.toNat, by omega⟩
  obtain ⟨a, b⟩ := small_str n (by omega)
  exact ⟨_, _, if_pos a, h _ b⟩
theorem z_eqP {a b c d : Int} (h : QE (.bl (decide ([a, b] = [c, d]))) st) : wp (eqD false (.tup [.int a, .int b]) (.tup [.int c, .int d]) st) QE := z_eqTI (ns := [a, b]) (ms := [c, d]) h
theorem z_slR {n : Nat} {ds : List D} {a b : Option Int} (e : st[n]? = some (.lst ds)) (h : QE (.lst (cutL ds a b)) st) : wp (slD (.ref n) a b st) QE := ⟨_, _, by simp only [slD, sqD, e, Option.map_some], h⟩
end
theorem cut_lo {α : Type} {xs : List α} {i : Int} (h : 0 ≤ i) : cutL xs (some i) none = xs.drop i.toNat := by
  unfold cutL
  have e : HT.sIx xs.length 0 (some i) = min i.toNat xs.length := by
    simp only [HT.sIx]
    rw [if_neg (by omega)]
  have e2 : HT.sIx xs.length xs.length none = xs.length := rfl
  rw [e, e2]
  by_cases hl : i.toNat ≤ xs.length
  · rw [Nat.min_eq_left hl, ← List.length_drop, List.take_length]
  · rw [Nat.min_eq_right (by omega), List.drop_length, List.take_nil, List.drop_eq_nil_of_le (by omega)]
theorem y_tb {b : Bool} {A B : Prop} (e : b = true) (h : A) : if b = true then A else B := by rw [e]; exact h
theorem y_fb {b : Bool} {A B : Prop} (e : b = false) (h : B) : if b = true then A else B := by rw [e]; exact h
/-! ### in -/
theorem toPys_strs (zs : List PySem.Str) : toPys (zs.map D.str) = some (zs.map PyData.str) := by
  induction zs with
  | nil => rfl
  | cons n ns ih =>
    show (toPy (.str n)).bind (fun p => (toPys (ns.map D.str)).map (p :: ·)) = _
    rw [ih]
    rfl
theorem lay_strs : ∀ zs : List PySem.Str, zs.all PyData.strOk = true → PyData.canLayAll0 (zs.map PyData.str) = true ∧ PyData.depthAll (zs.map PyData.str) = 0
  | [], _ => ⟨rfl, rfl⟩
  | z :: zs, h => by
    rw [List.all_cons, Bool.and_eq_true] at h
    simp [PyData.canLayAll0, PyData.canLay0, PyData.depthAll, PyData.depth, lay_strs zs h.2, h.1]
theorem any_ints (m : Int) : ∀ ns : List Int, ((ns.map PyData.int).any fun z => PyData.eqv z (.int m)) = decide (m ∈ ns)
  | [] => by simp
  | n :: ns => by
    rw [List.map_cons, List.any_cons, any_ints m ns]
    by_cases h : n = m
    · subst h; simp [PyData.eqv]
    · have h' : m ≠ n := fun e => h e.symm
      simp [PyData.eqv, h, h']
theorem any_strs (m : PySem.Str) : ∀ ns : List PySem.Str, ((ns.map PyData.str).any fun z => PyData.eqv z (.str m)) = decide (m ∈ ns)
  | [] => by simp
  | n :: ns => by
    rw [List.map_cons, List.any_cons, any_strs m ns]
    by_cases h : n = m
    · subst h; simp [PyData.eqv]
    · have h' : m ≠ n := fun e => h e.symm
      simp [PyData.eqv, h, h']
section
variable {st : Sto} {QE : D → Sto → Prop}
theorem sh_int (m : Int) : SeqAt.shaped (.int m) = true := by simp [SeqAt.shaped, PyData.canLay0, PyData.depth]
theorem sh_str {m : PySem.Str} (h : PyData.strOk m = true) : SeqAt.shaped (.str m) = true := by simp [SeqAt.shaped, PyData.canLay0, PyData.depth, h]
theorem sh_strs {zs : List PySem.Str} (h : zs.all PyData.strOk = true) : SeqAt.shaped (.list (zs.map PyData.str)) = true := by simp [SeqAt.shaped, PyData.canLay0, PyData.depth, lay_strs zs h]
theorem z_inI {m : Int} {ns : List Int} (h : QE (.bl (decide (m ∈ ns))) st) : wp (inD false (.int m) (.lst (ns.map D.int)) st) QE := by
  refine ⟨_, _, ?_, h⟩
  have e1 : pyD st (.int m) = some (.int m) := rfl
  have e2 : (pyD st (.lst (ns.map D.int))).bind seqPy = some (ns.map PyData.int) := by
    show ((toPys (ns.map D.int)).map PyData.list).bind seqPy = _
    rw [toPys_ints]
    rfl
  simp only [inD, e1, e2]
  rw [if_pos ⟨sh_int m, PySem.W.ke_shaped_ints ns⟩, any_ints]
  simp only [Bool.false_eq_true, if_false]
theorem z_inT {m : PySem.Str} {zs : List PySem.Str} (hm : PyData.strOk m = true) (hz : zs.all PyData.strOk = true) (h : QE (.bl (decide (m ∈ zs))) st) : wp (inD false (.str m) (.tup (zs.map D.str)) st) QE := by
  refine ⟨_, _, ?_, h⟩
  have e1 : pyD st (.str m) = some (.str m) := rfl
  have e2 : (pyD st (.tup (zs.map D.str))).bind seqPy = some (zs.map PyData.str) := by
    show ((toPys (zs.map D.str)).map PyData.tuple).bind seqPy = _
    rw [toPys_strs]
    rfl
  simp only [inD, e1, e2]
  rw [if_pos ⟨sh_str hm, sh_strs hz⟩, any_strs]
  simp only [Bool.false_eq_true, if_false]
end
theorem z_inG {st : Sto} {QE : D → Sto → Prop} {m : PySem.Str} {ds : List D} {zs : List PySem.Str} (e : strsD ds = some zs) (hm : PyData.strOk m = true) (hz : zs.all PyData.strOk = true) (h : QE (.bl (decide (m ∈ zs))) st) : wp (inD false (.str m) (.tup ds) st) QE := by
  rw [strsD.eq e]
  exact z_inT hm hz h
theorem down_at {hi : Int} {n i : Nat} {x : D} (h : (downL hi n)[i]? = some x) : i < n ∧ x = .int (hi + (i : Nat) * (-1)) := by
  unfold downL at h
  rw [List.getElem?_map] at h
  obtain ⟨c, h3, h4⟩ := Option.map_eq_some_iff.mp h
  have h5 := List.getElem?_eq_some_iff.mp h3
  obtain ⟨h6, h7⟩ := h5
  rw [List.length_range] at h6
  rw [List.getElem_range] at h7
  subst h7
  exact ⟨h6, h4.symm⟩
theorem down_len {hi : Int} {n : Nat} : (downL hi n).length = n := by simp [downL]

/-! ### a dict of the module, read by a text; a def called by a name of the def's own -/
def tabD (T : List (PySem.Str × D)) (x : D) (st : Sto) : Option (D × Sto) := match x with
  | .str z => (T.lookup z).map fun d => (d, st)
  | _ => none
def DctOk (K : Frag) (w : World) (a : Addr) (T : List (PySem.Str × D)) : Prop := ∀ z d, T.lookup z = some d → ∃ v, KDct K w a z v ∧ ∀ θ G, Rep K θ G v d
theorem DctOk.nil {K : Frag} {w : World} {a : Addr} : DctOk K w a [] := fun z d h => by cases h
theorem DctOk.cons {K : Frag} {w : World} {a : Addr} {T : List (PySem.Str × D)} {z : PySem.Str} {d : D} {v : V} {u : Value} {es : Array DictEntry} {n : Nat} (hl : K.lookup a = some ⟨.type "dict", none, .dict es n, #[]⟩) (hk : PySem.W.KeysLit w.params es.toList)
    (e : PySem.W.nsIn K a z = some (some u)) (r : RelV v u) (rd : ∀ θ G, Rep K θ G v d) (h : DctOk K w a T) : DctOk K w a ((z, d) :: T) := fun y c hy => by
  rw [List.lookup_cons] at hy
  split at hy
  · rename_i hb
    cases hy
    have : y = z := by simpa using hb
    subst this
    exact ⟨v, ⟨es, n, u, hl, hk, e, r⟩, rd⟩
  · exact h y c hy
def Ecv (i : Nat) (T : List (PySem.Str × FC)) (g : FA) : FE := fun env st => match env[i]? with
  | some (some (.adr n)) => match T.lookup n with
    | some m => EC m g env st
    | none => none
  | _ => none
def CallOk [Tbs] (X : Cx) (n : PySem.Str) (m : FC) : Prop := ∃ f k fd ps np m', m = arN np m' ∧ FnOk X.prog X.w X.K X.mg X.base CX0 k f fd ps (spF X.K np m') ∧ Room k X.A ∧ PySem.W.nsIn X.K PySem.mainGlobals n = some (some (.ref f)) ∧ PySem.W.keepIn X.K (.ref f) = true ∧ Binds X.K fd ps []
theorem CallOk.nil [Tbs] {X : Cx} : ∀ n m, ([] : List (PySem.Str × FC)).lookup n = some m → CallOk X n m := fun n m h => by cases h
theorem CallOk.cons [Tbs] {X : Cx} {T : List (PySem.Str × FC)} {z : PySem.Str} {f : Addr} {k : Nat} {fd : FuncData} {ps : List PySem.Str} {np : Nat} {m' : FC} (F : FnOk X.prog X.w X.K X.mg X.base CX0 k f fd ps (spF X.K np m')) (hr : Room k X.A) (e : PySem.W.nsIn X.K PySem.mainGlobals z = some (some (.ref f)))
    (hk : PySem.W.keepIn X.K (.ref f) = true) (hb : Binds X.K fd ps []) (h : ∀ n m, T.lookup n = some m → CallOk X n m) : ∀ n m, ((z, arN np m') :: T).lookup n = some m → CallOk X n m := fun y c hy => by
  rw [List.lookup_cons] at hy
  split at hy
  · rename_i hb2
    cases hy
    have : y = z := by simpa using hb2
    subst this
    exact ⟨f, k, fd, ps, np, m', rfl, F, hr, e, hk, hb⟩
  · exact h y c hy
section
variable {X : Cx} {b e : Expr} {es : List Expr} {fb : FE} {g : FA} {p pos : Pos} {x : PySem.Str}
theorem c_tab [Tbs] {T : List (PySem.Str × D)} (hg : Gl X x) (hm : ∃ a, X.mg x = some (.ref a) ∧ DctOk X.K X.w a T) (hb : PE X b (tE X.K fb)) (hd : (x == ("__debug__" : PySem.Str)) = false := by decide) (hs : PlainIx b := by exact fun _ _ => rfl) : PE X (.Subscript (.Name x p) b pos) (tE X.K (E1 (tabD T) fb)) := by
  obtain ⟨a, hm, ht⟩ := hm
  refine peImp (pe_ix ix_kdict (pe_glob hg hm (v := .ref a) rfl hd) hb hs) fun σ H Q ⟨θ, G, env, st, d, st', S, EN, hf, post⟩ => ?_
  obtain ⟨⟨y, st1⟩, h1, h2⟩ := Option.bind_eq_some_iff.mp hf
  refine tE.go S EN h1 fun θ1 G1 H1 v1 e1 S1 EN1 r1 => ?_
  dsimp only at h2
  unfold tabD at h2
  split at h2
  · obtain ⟨c, h3, h4⟩ := Option.map_eq_some_iff.mp h2
    cases h4
    obtain ⟨v, kd, r⟩ := ht _ _ h3
    cases r1
    exact ⟨a, _, v, rfl, rfl, kd, post _ _ _ _ e1 S1 (r θ1 G1)⟩
  · cases h2
theorem c_callv [Tbs] (i : Nat) {T : List (PySem.Str × FC)} (hT : ∀ n m, T.lookup n = some m → CallOk X n m) (ha : PA X (e :: es) (tA X.K g)) (hN : X.N[i]? = some x := by rfl) (hv : Vis X.env.scope x := by first | exact Or.inl rfl | exact Or.inr (Or.inl rfl) | exact Or.inr (Or.inr rfl))
    (hdb : (x == ("__debug__" : PySem.Str)) = false := by decide) (hcd : (x == ("__classdict__" : PySem.Str)) = false := by decide)
    (he : starEach (e :: es) X.env = (false, eval e X.env) :: starEach es X.env := by rfl) (hpl : (backTo pos (starEach es X.env)).any (·.1) = false := by rfl) : PE X (.Call (.Name x p) (e :: es) [] pos) (tE X.K (Ecv i T g)) := by
  refine ⟨fun pins s σ H Q I h => ?_⟩
  obtain ⟨θ, G, env, st, d, st', S, EN, hf, post⟩ := h
  unfold Ecv at hf
  split at hf
  · rename_i n hn
    split at hf
    · rename_i m hm
      obtain ⟨f, k, fd, ps, np, m', rfl, F, hr, e0, hk, hb⟩ := hT _ _ hm
      obtain ⟨v, hv1, hv2⟩ := EN.2 _ _ hn
      cases hv2 with
      | adr e1 =>
        rw [e0] at e1
        cases e1
        exact (pe_callL (sp_ar F) hr hN hv hk hb .nil pass0 ha hdb hcd he hpl).run pins s σ H Q I ⟨hv1, goF arN.len ⟨θ, G, env, st, d, st', S, EN, hf, post⟩⟩
    · cases hf
  · cases hf
end
section
variable {env : Env} {st : Sto} {QE : D → Sto → Prop} {g : FA}
theorem z_tab {T : List (PySem.Str × D)} {z : PySem.Str} {d : D} (e : T.lookup z = some d) (h : QE d st) : wp (tabD T (.str z) st) QE := ⟨_, _, by simp only [tabD, e, Option.map_some], h⟩
theorem x_cv {i : Nat} {T : List (PySem.Str × FC)} {n : PySem.Str} {m : FC} (e1 : env[i]? = some (some (.adr n))) (e2 : T.lookup n = some m) (h : wp (EC m g env st) QE) : wp (Ecv i T g env st) QE := by
  unfold Ecv
  rw [e1]
  dsimp only
  rw [e2]
  exact h
end

/-! ### list(range(n)) -/
def lrgD (x : D) (st : Sto) : Option (D × Sto) := match x with
  | .int n => if 0 ≤ n ∧ n ≤ 16777216 then some (.lst (rangeL 0 n.toNat), st) else none
  | _ => none
theorem reps_range {K : Frag} {θ : List Addr} {G : Hp} (b : Int) : Reps K θ G (rgV 0 b) (rangeL 0 b.toNat) := by
  unfold rgV rangeL
  rw [Int.sub_zero]
  have key : ∀ l : List Nat, Reps K θ G (l.map fun i => V.int (0 + (i : Nat))) (l.map fun i => D.int (0 + (i : Nat))) := fun l => by
    induction l with
    | nil => exact .nil
    | cons x l ih => exact .cons (.int _) ih
  exact key _
section
variable {X : Cx} {e : Expr} {fe : FE} {p p2 pos pos2 : Pos}
theorem c_lrg [Tbs] (hc : X.calm = true) (hg : Gl X "list") (hm : X.mg "list" = none) (hg2 : Gl X "range") (hm2 : X.mg "range" = none) (he : PE X e (tE X.K fe)) (na : starEach [e] X.env = (false, eval e X.env) :: starEach [] X.env := by rfl)
    (na2 : starEach [.Call (.Name "range" p2) [e] [] pos2] X.env = (false, eval (.Call (.Name "range" p2) [e] [] pos2) X.env) :: starEach [] X.env := by rfl) : PE X (.Call (.Name "list" p) [.Call (.Name "range" p2) [e] [] pos2] [] pos) (tE X.K (E1 lrgD fe)) :=
  peImp (pe_listRg hc hg hm (prg_1 hg2 hm2 he na) na2) fun σ H Q ⟨θ, G, env, st, d, st', S, EN, hf, post⟩ => by
    obtain ⟨⟨x, st1⟩, h1, h2⟩ := Option.bind_eq_some_iff.mp hf
    dsimp only at h2
    unfold lrgD at h2
    split at h2
    · split at h2
      · rename_i hb
        cases h2
        refine tE.go S EN h1 fun θ1 G1 H1 v1 e1 S1 EN1 r1 => ?_
        cases r1
        exact ⟨_, rfl, RgOk.of_le (by decide) hb.2 (by decide) hb.1, fun q hq => PostE.newL (fun θ' G' H' v e s r => post _ _ _ _ (e1.trans S1 e) s r) S1 hq (reps_range _)⟩
      · cases h2
    · cases h2
end
theorem z_lrg {st : Sto} {QE : D → Sto → Prop} {n : Int} (h0 : 0 ≤ n ∧ n ≤ 16777216) (h : QE (.lst (rangeL 0 n.toNat)) st) : wp (lrgD (.int n) st) QE := wp_if h0 (wp_some h)
end ML

set_option Elab.async false
set_option linter.all false
set_option maxRecDepth 100000
set_option maxHeartbeats 4000000
namespace ML
open PySem PySem.Spec PyProof.Rows L2
/-! ## lists by place -/
abbrev ix (l : Nat) (f : Nat → Int) : List D := (List.range l).map fun k => .int (f k)
abbrev mx (r c : Nat) (f : Nat → Nat → Int) : D := .tup ((List.range r).map fun i => .tup ((List.range c).map fun j => .int (f i j)))
abbrev sm (l : Nat) (f : Nat → Int) : Int := ((List.range l).map f).sum
abbrev smf (l : Nat) (p : Nat → Bool) (f : Nat → Int) : Int := (((List.range l).filter p).map f).sum
section
variable {st : Sto} {env : Env} {QE : D → Sto → Prop} {QA : List D → Sto → Prop} {QI : List D → Watch → Sto → Prop} {l l' r c : Nat} {F G : Nat → D} {f g : Nat → Int}
theorem len_R : ((List.range l).map F).length = l := by simp
theorem z_lenTR (h : QE (.int (l : Int)) st) : wp (fLen [.tup ((List.range l).map F)] st) QE := z_lenT (by rw [len_R]; exact h)
theorem z_lenLR (h : QE (.int (l : Int)) st) : wp (fLen [.lst ((List.range l).map F)] st) QE := z_lenL (by rw [len_R]; exact h)
theorem z_ixTR {i : Int} (h0 : 0 ≤ i ∧ i < (l : Nat)) (h : QE (F i.toNat) st) : wp (ixD (.tup ((List.range l).map F)) (.int i) st) QE := z_ixT (at_map_range h0.1 h0.2) h
theorem z_ixTN {i : Nat} (h0 : i < l) (h : QE (F i) st) : wp (ixD (.tup ((List.range l).map F)) (.int (i : Int)) st) QE := z_ixTR ⟨by omega, by omega⟩ (by rw [Int.toNat_natCast]; exact h)
theorem z_ixT0 (h0 : 0 < l) (h : QE (F 0) st) : wp (ixD (.tup ((List.range l).map F)) (.int 0) st) QE := z_ixTR ⟨by omega, by omega⟩ h
theorem z_ixLR {i : Int} (h0 : 0 ≤ i ∧ i < (l : Nat)) (h : QE (F i.toNat) st) : wp (ixD (.lst ((List.range l).map F)) (.int i) st) QE := z_ixL (at_map_range h0.1 h0.2) h
theorem z_ixLN {i : Nat} (h0 : i < l) (h : QE (F i) st) : wp (ixD (.lst ((List.range l).map F)) (.int (i : Int)) st) QE := z_ixLR ⟨by omega, by omega⟩ (by rw [Int.toNat_natCast]; exact h)
theorem z_ixL0 (h0 : 0 < l) (h : QE (F 0) st) : wp (ixD (.lst ((List.range l).map F)) (.int 0) st) QE := z_ixLR ⟨by omega, by omega⟩ h
theorem ints_R : intsD ((List.range l).map fun j => .int (f j)) = some ((List.range l).map f) := by
  have := intsD_map ((List.range l).map f)
  rw [List.map_map] at this
  exact this
theorem z_sumTR (h : QE (.int (sm l f)) st) : wp (fSum [.tup ((List.range l).map fun j => .int (f j))] st) QE := z_sum (ns := (List.range l).map f) ints_R h
theorem z_sumLR (h : QE (.int (sm l f)) st) : wp (fSum [.lst ((List.range l).map fun j => .int (f j))] st) QE := z_sum (ns := (List.range l).map f) ints_R h
theorem z_sumLF {p : Nat → Bool} (h : QE (.int (smf l p f)) st) : wp (fSum [.lst (((List.range l).filter p).map fun j => .int (f j))] st) QE := z_sum (by
  have := intsD_map (((List.range l).filter p).map f)
  rw [List.map_map] at this
  exact this) h
theorem rngL0 : rangeL 0 l = (List.range l).map fun i => .int (i : Int) := by simp [rangeL]
theorem x_rng1R {g : FA} (h : wp (g env st) fun xs st1 => ∃ n : Nat, xs = [.int (n : Int)] ∧ Sd (n < 4611686018427387904) (QI ((List.range n).map fun i : Nat => .int (i : Int)) [] st1)) : wpI (Irng1 g env st) QI :=
  x_rng1 (h.mono fun xs s ⟨n, e, h1, q⟩ => ⟨n, e, ⟨by omega, by omega⟩, by rw [Int.toNat_natCast, rngL0]; exact q⟩)
theorem zip_R : zipL ((List.range l).map F) ((List.range l).map G) = (List.range l).map fun k => .tup [F k, G k] := by
  unfold zipL
  apply List.ext_getElem?
  intro i
  by_cases h : i < l
  · simp [List.getElem?_zipWith, h]
  · simp [List.getElem?_zipWith, h]
theorem y_zipR {x y : D} {t t' : Bool} (e : anyD st x = some (t, (List.range l).map F)) (f : anyD st y = some (t', (List.range l).map G)) (h : QI ((List.range l).map fun k => .tup [F k, G k]) (watchOf x ((List.range l).map F) ++ watchOf y ((List.range l).map G)) st) : zipK QI [x, y] st :=
  y_zip e f (by rw [zip_R]; exact h)
/-- a comprehension over places -/
theorem x_mapR {w : Watch} {t : Tg} {fe : FE} (hw : watchOk w st) (hs : ∀ i, i < l → ∃ e1, bindT t (F i) env = some e1 ∧ wp (fe e1 st) fun y s2 => y = G i ∧ s2 = st)
    (hd : QA ((List.range l).map G) st) : wp (compL w t Tyes fe env ((List.range l).map F) st) QA := by
  refine x_comp (fun i a s => i ≤ l ∧ a = (List.range i).map G ∧ s = st) ⟨Nat.zero_le _, rfl, rfl⟩ (fun i a s h => by rw [h.2.2]; exact hw) ?_ ?_
  · rintro i x a s hx ⟨hi, rfl, rfl⟩
    have hl := (List.getElem?_eq_some_iff.mp hx).1
    simp at hl
    have e : x = F i := by simpa [hl] using hx.symm
    subst e
    obtain ⟨e1, hb, q⟩ := hs i hl
    refine ⟨e1, hb, wp_some ?_⟩
    rw [if_pos rfl]
    refine q.mono fun y s2 ⟨h1, h2⟩ => ⟨by omega, ?_, h2⟩
    rw [h1, List.range_succ, List.map_append]
    rfl
  · rintro a s ⟨hi, rfl, rfl⟩
    simpa using hd
/-- .. with a test -/
theorem x_filR {w : Watch} {t : Tg} {fe : FE} {ga : FT} {p : Nat → Bool} (hw : watchOk w st) (hs : ∀ i, i < l → ∃ e1, bindT t (F i) env = some e1 ∧ wp (ga e1 st) fun b s1 => (b = p i ∧ s1 = st) ∧ (p i = true → wp (fe e1 st) fun y s2 => y = G i ∧ s2 = st))
    (hd : QA (((List.range l).filter p).map G) st) : wp (compL w t ga fe env ((List.range l).map F) st) QA := by
  refine x_comp (fun i a s => i ≤ l ∧ a = ((List.range i).filter p).map G ∧ s = st) ⟨Nat.zero_le _, rfl, rfl⟩ (fun i a s h => by rw [h.2.2]; exact hw) ?_ ?_
  · rintro i x a s hx ⟨hi, rfl, rfl⟩
    have hl := (List.getElem?_eq_some_iff.mp hx).1
    simp at hl
    have e : x = F i := by simpa [hl] using hx.symm
    subst e
    obtain ⟨e1, hb, q⟩ := hs i hl
    refine ⟨e1, hb, q.mono fun b s1 ⟨⟨h1, h2⟩, h3⟩ => ?_⟩
    subst h1 h2
    refine y_ite (fun hp => (h3 hp).mono fun y s2 ⟨h1, h2⟩ => ⟨by omega, ?_, h2⟩) (fun hp => ⟨by omega, ?_, rfl⟩)
    · rw [h1, List.range_succ, List.filter_append, List.map_append]
      simp [hp]
    · rw [List.range_succ, List.filter_append, List.map_append]
      simp [hp]
  · rintro a s ⟨hi, rfl, rfl⟩
    simpa using hd
theorem x_mapM {α : Type} {xs : List α} {F G : α → D} {w : Watch} {t : Tg} {fe : FE} (hw : watchOk w st) (hs : ∀ i, i ∈ xs → ∃ e1, bindT t (F i) env = some e1 ∧ wp (fe e1 st) fun y s2 => y = G i ∧ s2 = st)
    (hd : QA (xs.map G) st) : wp (compL w t Tyes fe env (xs.map F) st) QA := by
  induction xs generalizing QA with
  | nil =>
    unfold compL
    exact wp_if hw (wp_some hd)
  | cons x xs ih =>
    rw [List.map_cons]
    unfold compL
    refine wp_if hw ?_
    obtain ⟨e1, hb, q⟩ := hs x (List.mem_cons_self ..)
    rw [hb]
    refine wp_bind (q.mono fun y s2 ⟨h1, h2⟩ => ?_)
    subst h1 h2
    refine wp_bind (ih (QA := fun ys s => QA (G x :: ys) s) (fun i hi => hs i (List.mem_cons_of_mem _ hi)) ?_ |>.mono fun ys s3 h => wp_some h)
    rw [List.map_cons] at hd
    exact hd
theorem x_cmpC {x : D} {xs : List D} {w : Watch} {t : Tg} {ga : FT} {fe : FE} (hw : watchOk w st) (hs : ∃ e1, bindT t x env = some e1 ∧ wp (ga e1 st) fun b s1 => if b = true then wp (fe e1 s1) fun y s2 => wp (compL w t ga fe env xs s2) fun ys s3 => QA (y :: ys) s3 else wp (compL w t ga fe env xs s1) QA) :
    wp (compL w t ga fe env (x :: xs) st) QA := by
  unfold compL
  refine wp_if hw ?_
  obtain ⟨e1, hb, q⟩ := hs
  rw [hb]
  refine wp_bind (q.mono fun b s1 h => ?_)
  cases b with
  | true => exact wp_bind (h.mono fun y s2 h => wp_bind (h.mono fun ys s3 h => wp_some h))
  | false => exact h
theorem x_cmpE {w : Watch} {t : Tg} {ga : FT} {fe : FE} (hw : watchOk w st) (h : QA [] st) : wp (compL w t ga fe env [] st) QA := by
  unfold compL
  exact wp_if hw (wp_some h)
theorem x_mapR1 {w : Watch} {t : Tg} {fe : FE} (hw : watchOk w st) (hs : ∀ i, i < l → ∃ e1, bindT t (.int (i : Int)) env = some e1 ∧ wp (fe e1 st) fun y s2 => y = G i ∧ s2 = st)
    (hd : QA ((List.range l).map G) st) : wp (compL w t Tyes fe env (rangeL 0 l) st) QA := by
  rw [rngL0]
  exact x_mapR hw hs hd
theorem x_mapR0 {w : Watch} {t : Tg} {fe : FE} (hw : watchOk w st) (hs : ∀ i, i < l → ∃ e1, bindT t (.int (i : Int)) env = some e1 ∧ wp (fe e1 st) fun y s2 => y = G i ∧ s2 = st)
    (hd : QA ((List.range l).map G) st) : wp (compL w t Tyes fe env (rangeL 0 (l : Int).toNat) st) QA := by
  rw [Int.toNat_natCast]
  exact x_mapR1 hw hs hd
theorem x_filR1 {w : Watch} {t : Tg} {fe : FE} {ga : FT} {p : Nat → Bool} (hw : watchOk w st) (hs : ∀ i, i < l → ∃ e1, bindT t (.int (i : Int)) env = some e1 ∧ wp (ga e1 st) fun b s1 => (b = p i ∧ s1 = st) ∧ (p i = true → wp (fe e1 st) fun y s2 => y = G i ∧ s2 = st))
    (hd : QA (((List.range l).filter p).map G) st) : wp (compL w t ga fe env (rangeL 0 l) st) QA := by
  rw [rngL0]
  exact x_filR hw hs hd
theorem x_filR0 {w : Watch} {t : Tg} {fe : FE} {ga : FT} {p : Nat → Bool} (hw : watchOk w st) (hs : ∀ i, i < l → ∃ e1, bindT t (.int (i : Int)) env = some e1 ∧ wp (ga e1 st) fun b s1 => (b = p i ∧ s1 = st) ∧ (p i = true → wp (fe e1 st) fun y s2 => y = G i ∧ s2 = st))
    (hd : QA (((List.range l).filter p).map G) st) : wp (compL w t ga fe env (rangeL 0 (l : Int).toNat) st) QA := by
  rw [Int.toNat_natCast]
  exact x_filR1 hw hs hd
theorem const_R {α : Type} {x : α} : ∀ k : Nat, ((List.range k).map fun _ => x) = List.replicate k x
  | 0 => rfl
  | k + 1 => by rw [List.range_succ, List.map_append, const_R k, List.replicate_succ']; rfl
theorem flat_rep {α : Type} {x : α} : ∀ n : Nat, (List.replicate n [x]).flatten = List.replicate n x
  | 0 => rfl
  | n + 1 => by rw [List.replicate_succ, List.flatten_cons, flat_rep n, List.replicate_succ]; rfl
theorem watch_one {n : Nat} {ds : List D} (e : st[n]? = some (.lst ds)) : watchOk [(n, ds)] st := fun p hp => by
  cases List.mem_singleton.mp hp
  exact e
theorem z_neTI {ns ms : List Int} (h : QE (.bl (!decide (ns = ms))) st) : wp (eqD true (.tup (ns.map D.int)) (.tup (ms.map D.int)) st) QE := by
  refine ⟨_, _, ?_, h⟩
  have e1 : ∀ ns : List Int, pyD st (.tup (ns.map D.int)) = some (.tuple (ns.map PyData.int)) := fun ns => by
    show toPy (.tup (ns.map D.int)) = _
    show (toPys (ns.map D.int)).map PyData.tuple = _
    rw [toPys_ints]
    rfl
  simp only [eqD, e1]
  rw [if_pos ⟨shaped_tints ns, shaped_tints ms⟩]
  simp only [PyData.eqv, eqv_ints, if_true]
theorem z_neP {a b c d : Int} (h : QE (.bl (!decide ([a, b] = [c, d]))) st) : wp (eqD true (.tup [.int a, .int b]) (.tup [.int c, .int d]) st) QE := z_neTI (ns := [a, b]) (ms := [c, d]) h
/-- an if whose ways meet behind it -/
theorem x_jif {ga : FT} {s s1 s' : FS} {QS : Fl → Sto → Prop} (J : Env → Sto → Prop) (h : wp (Sif ga s s1 env st) fun f st' => ∃ e, f = .nx e ∧ J e st') (k : ∀ e st', J e st' → wp (s' e st') QS) : wp (Sseq (Sif ga s s1) s' env st) QS :=
  x_seq (h.mono fun f st' ⟨e, hf, j⟩ => by subst hf; exact k e st' j)
theorem z_mulT1 {x : D} {k : Int} (h0 : 1 ≤ k ∧ k ≤ 1000) (h : QE (.tup ((List.range k.toNat).map fun _ => x)) st) : wp (mulD (.tup [x]) (.int k) st) QE := by
  rw [const_R] at h
  refine ⟨.tup (List.replicate k.toNat x), st, ?_, h⟩
  show (if k = 1 then some (D.tup [x], st) else if ([x] : List D) ≠ [] ∧ 2 ≤ k ∧ k ≤ 1000 ∧ [x].length ≤ 1000 then some (.tup (List.replicate k.toNat [x]).flatten, st) else none) = _
  by_cases h1 : k = 1
  · subst h1; rfl
  · rw [if_neg h1, if_pos ⟨by simp, by omega, h0.2, by simp⟩, flat_rep]
theorem z_mulL1 {x : D} {k : Int} (h0 : 0 ≤ k ∧ k ≤ 1000000) (h : QE (.lst ((List.range k.toNat).map fun _ => x)) st) : wp (mulD (.lst [x]) (.int k) st) QE := by
  rw [const_R] at h
  refine ⟨.lst (List.replicate k.toNat x), st, ?_, h⟩
  show (if -(2 ^ 63) ≤ k ∧ k < 2 ^ 63 ∧ [x].length * k.toNat ≤ 16777216 then some (D.lst (List.replicate k.toNat [x]).flatten, st) else none) = _
  rw [if_pos ⟨by omega, by omega, by simp; omega⟩, flat_rep]
/-- a test whose ends are ints, read as one int -/
theorem y_pureI {p : Prop} [Decidable p] {A B : Option (D × Sto)} {x y : Int} (h1 : wp A fun v s => v = .int x ∧ s = st) (h2 : wp B fun v s => v = .int y ∧ s = st) (k : QE (.int (if p then x else y)) st) : if decide p = true then wp A QE else wp B QE := by
  refine y_d (fun h => ?_) (fun h => ?_)
  · rw [if_pos h] at k
    exact h1.mono fun v s ⟨e, e'⟩ => by subst e e'; exact k
  · rw [if_neg h] at k
    exact h2.mono fun v s ⟨e, e'⟩ => by subst e e'; exact k
theorem belows_of {n : Nat} : ∀ {ds : List D}, (∀ d, d ∈ ds → d.blw n) → belows n ds
  | [], _ => trivial
  | d :: ds, h => ⟨h d (List.mem_cons_self ..), belows_of fun e he => h e (List.mem_cons_of_mem _ he)⟩
theorem blw_R {n : Nat} (h : ∀ i, i < l → (F i).blw n) : belows n ((List.range l).map F) := belows_of fun d hd => by
  obtain ⟨i, hi, rfl⟩ := List.mem_map.mp hd
  exact h i (List.mem_range.mp hi)
theorem blw_mx {n : Nat} {f : Nat → Nat → Int} : D.blw n (mx r c f) := blw_R fun i _ => blw_R fun j _ => trivial
theorem smf_succ {p : Nat → Bool} : smf (l + 1) p f = smf l p f + if p l = true then f l else 0 := by
  unfold smf
  rw [List.range_succ, List.filter_append, List.map_append, List.sum_append]
  congr 1
  cases h : p l
  · simp [h]
  · simp [h]
end
/-! ## sameness of plain data -/
mutual
def D.pln : D → Prop
  | .non => True
  | .int _ => True
  | .str s => PyData.strOk s = true
  | .tup ds => plns ds
  | .lst ds => plns ds
  | _ => False
def plns : List D → Prop
  | [] => True
  | d :: ds => d.pln ∧ plns ds
end
mutual
def D.dep : D → Nat
  | .tup ds => deps ds + 1
  | .lst ds => deps ds + 1
  | _ => 0
def deps : List D → Nat
  | [] => 0
  | d :: ds => max d.dep (deps ds)
end
mutual
theorem D.toPy_ok : ∀ d : D, d.pln → ∃ p, toPy d = some p ∧ p.canLay0 = true ∧ p.depth = d.dep
  | .non, _ => ⟨.none, rfl, rfl, rfl⟩
  | .int i, _ => ⟨.int i, rfl, rfl, rfl⟩
  | .str s, h => ⟨.str s, rfl, h, rfl⟩
  | .tup ds, h => by
    obtain ⟨ps, e, h1, h2⟩ := toPys_ok ds h
    refine ⟨.tuple ps, ?_, ?_, ?_⟩
    · show (toPys ds).map PyData.tuple = _
      rw [e]; rfl
    · simpa [PyData.canLay0] using h1
    · simp [PyData.depth, D.dep, h2]
  | .lst ds, h => by
    obtain ⟨ps, e, h1, h2⟩ := toPys_ok ds h
    refine ⟨.list ps, ?_, ?_, ?_⟩
    · show (toPys ds).map PyData.list = _
      rw [e]; rfl
    · simpa [PyData.canLay0] using h1
    · simp [PyData.depth, D.dep, h2]
theorem toPys_ok : ∀ ds : List D, plns ds → ∃ ps, toPys ds = some ps ∧ PyData.canLayAll0 ps = true ∧ PyData.depthAll ps = deps ds
  | [], _ => ⟨[], rfl, rfl, rfl⟩
  | d :: ds, h => by
    obtain ⟨p, e, h1, h2⟩ := D.toPy_ok d h.1
    obtain ⟨ps, e', h1', h2'⟩ := toPys_ok ds h.2
    refine ⟨p :: ps, ?_, ?_, ?_⟩
    · show ((toPy d).bind fun p => (toPys ds).map (p :: ·)) = _
      rw [e, e']; rfl
    · simp [PyData.canLayAll0, h1, h1']
    · simp [PyData.depthAll, deps, h2, h2']
end
theorem tupPy {ds : List D} {p : PyData} (h : toPy (.tup ds) = some p) : ∃ ps, p = .tuple ps ∧ toPys ds = some ps := by
  have h' : (toPys ds).map PyData.tuple = some p := h
  cases e : toPys ds with
  | none => rw [e] at h'; cases h'
  | some ps => rw [e] at h'; cases h'; exact ⟨ps, rfl, rfl⟩
theorem lstPy {ds : List D} {p : PyData} (h : toPy (.lst ds) = some p) : ∃ ps, p = .list ps ∧ toPys ds = some ps := by
  have h' : (toPys ds).map PyData.list = some p := h
  cases e : toPys ds with
  | none => rw [e] at h'; cases h'
  | some ps => rw [e] at h'; cases h'; exact ⟨ps, rfl, rfl⟩
theorem consPy {d : D} {ds : List D} {ps : List PyData} (h : toPys (d :: ds) = some ps) : ∃ p qs, ps = p :: qs ∧ toPy d = some p ∧ toPys ds = some qs := by
  have h' : ((toPy d).bind fun p => (toPys ds).map (p :: ·)) = some ps := h
  cases e : toPy d with
  | none => rw [e] at h'; cases h'
  | some p =>
    rw [e] at h'
    cases e2 : toPys ds with
    | none => rw [e2] at h'; cases h'
    | some qs => rw [e2] at h'; cases h'; exact ⟨p, qs, rfl, rfl, rfl⟩
mutual
theorem eqv_pln : ∀ (d e : D) (p q : PyData), d.pln → e.pln → toPy d = some p → toPy e = some q → (PyData.eqv p q = true ↔ d = e)
  | .non, e, p, q, _, he, hp, hq => by
    cases hp
    cases e <;> first
      | (exact absurd he id)
      | (obtain ⟨ps, rfl, _⟩ := tupPy hq; simp [PyData.eqv])
      | (obtain ⟨ps, rfl, _⟩ := lstPy hq; simp [PyData.eqv])
      | (cases hq; simp [PyData.eqv])
  | .int i, e, p, q, _, he, hp, hq => by
    cases hp
    cases e <;> first
      | (exact absurd he id)
      | (obtain ⟨ps, rfl, _⟩ := tupPy hq; simp [PyData.eqv])
      | (obtain ⟨ps, rfl, _⟩ := lstPy hq; simp [PyData.eqv])
      | (cases hq; simp [PyData.eqv])
  | .str s, e, p, q, _, he, hp, hq => by
    cases hp
    cases e <;> first
      | (exact absurd he id)
      | (obtain ⟨ps, rfl, _⟩ := tupPy hq; simp [PyData.eqv])
      | (obtain ⟨ps, rfl, _⟩ := lstPy hq; simp [PyData.eqv])
      | (cases hq; simp [PyData.eqv])
  | .tup ds, e, p, q, hd, he, hp, hq => by
    obtain ⟨ps, rfl, hps⟩ := tupPy hp
    cases e with
    | tup es =>
      obtain ⟨qs, rfl, hqs⟩ := tupPy hq
      simp only [PyData.eqv, D.tup.injEq]
      exact eqvs_pln ds es ps qs hd he hps hqs
    | lst es => obtain ⟨qs, rfl, _⟩ := lstPy hq; simp [PyData.eqv]
    | non => cases hq; simp [PyData.eqv]
    | int i => cases hq; simp [PyData.eqv]
    | str s => cases hq; simp [PyData.eqv]
    | _ => exact absurd he id
  | .lst ds, e, p, q, hd, he, hp, hq => by
    obtain ⟨ps, rfl, hps⟩ := lstPy hp
    cases e with
    | lst es =>
      obtain ⟨qs, rfl, hqs⟩ := lstPy hq
      simp only [PyData.eqv, D.lst.injEq]
      exact eqvs_pln ds es ps qs hd he hps hqs
    | tup es => obtain ⟨qs, rfl, _⟩ := tupPy hq; simp [PyData.eqv]
    | non => cases hq; simp [PyData.eqv]
    | int i => cases hq; simp [PyData.eqv]
    | str s => cases hq; simp [PyData.eqv]
    | _ => exact absurd he id
theorem eqvs_pln : ∀ (ds es : List D) (ps qs : List PyData), plns ds → plns es → toPys ds = some ps → toPys es = some qs → (PyData.eqvAll ps qs = true ↔ ds = es)
  | [], es, ps, qs, _, _, hp, hq => by
    cases hp
    cases es with
    | nil => cases hq; simp [PyData.eqvAll]
    | cons e es => obtain ⟨q, qs, rfl, _, _⟩ := consPy hq; simp [PyData.eqvAll]
  | d :: ds, es, ps, qs, hd, he, hp, hq => by
    obtain ⟨p, ps, rfl, hp1, hp2⟩ := consPy hp
    cases es with
    | nil => cases hq; simp [PyData.eqvAll]
    | cons e es =>
      obtain ⟨q, qs, rfl, hq1, hq2⟩ := consPy hq
      simp only [PyData.eqvAll, Bool.and_eq_true, List.cons.injEq]
      rw [eqv_pln d e p q hd.1 he.1 hp1 hq1, eqvs_pln ds es ps qs hd.2 he.2 hp2 hq2]
end
theorem pyD_pln {st : Sto} {d : D} (h : d.pln) : pyD st d = toPy d := by
  cases d <;> first | rfl | exact absurd h id
theorem sh_pln {d : D} {p : PyData} (h : d.pln) (hd : d.dep ≤ 64) (e : toPy d = some p) : SeqAt.shaped p = true := by
  obtain ⟨p', e', h1, h2⟩ := D.toPy_ok d h
  rw [e] at e'
  cases e'
  simp [SeqAt.shaped, h1, h2, hd]
section
variable {st : Sto} {QE : D → Sto → Prop}
theorem z_eqD {d e : D} {b : Bool} (hd : d.pln) (he : e.pln) (dd : d.dep ≤ 64) (de : e.dep ≤ 64) (hb : b = true ↔ d = e) (h : QE (.bl b) st) : wp (eqD false d e st) QE := by
  obtain ⟨p, hp, _⟩ := D.toPy_ok d hd
  obtain ⟨q, hq, _⟩ := D.toPy_ok e he
  have hv : PyData.eqv p q = b := by
    have := eqv_pln d e p q hd he hp hq
    rw [Bool.eq_iff_iff, this, hb]
  refine ⟨_, _, ?_, h⟩
  unfold eqD
  split
  · rename_i x y
    cases hp
    cases hq
    simp only [PyData.eqv] at hv
    rw [hv]
    rfl
  · rw [pyD_pln hd, pyD_pln he, hp, hq]
    simp only
    rw [if_pos ⟨sh_pln hd dd hp, sh_pln he de hq⟩, hv]
    rfl
theorem z_neD {d e : D} {b : Bool} (hd : d.pln) (he : e.pln) (dd : d.dep ≤ 64) (de : e.dep ≤ 64) (hb : b = true ↔ d = e) (h : QE (.bl (!b)) st) : wp (eqD true d e st) QE := by
  obtain ⟨p, hp, _⟩ := D.toPy_ok d hd
  obtain ⟨q, hq, _⟩ := D.toPy_ok e he
  have hv : PyData.eqv p q = b := by
    have := eqv_pln d e p q hd he hp hq
    rw [Bool.eq_iff_iff, this, hb]
  refine ⟨_, _, ?_, h⟩
  unfold eqD
  split
  · rename_i x y
    cases hp
    cases hq
    simp only [PyData.eqv] at hv
    rw [hv]
    rfl
  · rw [pyD_pln hd, pyD_pln he, hp, hq]
    simp only
    rw [if_pos ⟨sh_pln hd dd hp, sh_pln he de hq⟩, hv]
    rfl
theorem anyPy {d : D} {p : PyData} (hd : d.pln) (hp : toPy d = some p) : ∀ (es : List D) (qs : List PyData), plns es → toPys es = some qs → (qs.any (fun z => PyData.eqv z p) = true ↔ d ∈ es)
  | [], qs, _, hq => by cases hq; simp
  | e :: es, qs, he, hq => by
    obtain ⟨q, qs, rfl, hq1, hq2⟩ := consPy hq
    rw [List.any_cons, Bool.or_eq_true, eqv_pln e d q p he.1 hd hq1 hp, anyPy hd hp es qs he.2 hq2, List.mem_cons]
    exact ⟨fun h => h.imp Eq.symm id, fun h => h.imp Eq.symm id⟩
theorem shl_pln {es : List D} {qs : List PyData} (he : plns es) (de : deps es ≤ 63) (hq : toPys es = some qs) : SeqAt.shaped (.list qs) = true := by
  obtain ⟨q', e', h1, h2⟩ := toPys_ok es he
  rw [hq] at e'
  cases e'
  simp [SeqAt.shaped, PyData.canLay0, PyData.depth, h1, h2]
  omega
theorem z_inDT {neg : Bool} {d : D} {es : List D} {b : Bool} (hd : d.pln) (he : plns es) (dd : d.dep ≤ 64) (de : deps es ≤ 63) (hb : b = true ↔ d ∈ es) (h : QE (.bl (if neg then !b else b)) st) : wp (inD neg d (.tup es) st) QE := by
  obtain ⟨p, hp, _⟩ := D.toPy_ok d hd
  obtain ⟨qs, hq, _⟩ := toPys_ok es he
  have hv : qs.any (fun z => PyData.eqv z p) = b := by
    rw [Bool.eq_iff_iff, anyPy hd hp es qs he hq, hb]
  refine ⟨_, _, ?_, h⟩
  have e1 : pyD st (.tup es) = some (.tuple qs) := by
    show (toPys es).map PyData.tuple = _
    rw [hq]; rfl
  simp only [inD, pyD_pln hd, hp, e1, Option.bind_some, seqPy]
  rw [if_pos ⟨sh_pln hd dd hp, shl_pln he de hq⟩, hv]
theorem z_inDL {neg : Bool} {d : D} {es : List D} {b : Bool} (hd : d.pln) (he : plns es) (dd : d.dep ≤ 64) (de : deps es ≤ 63) (hb : b = true ↔ d ∈ es) (h : QE (.bl (if neg then !b else b)) st) : wp (inD neg d (.lst es) st) QE := by
  obtain ⟨p, hp, _⟩ := D.toPy_ok d hd
  obtain ⟨qs, hq, _⟩ := toPys_ok es he
  have hv : qs.any (fun z => PyData.eqv z p) = b := by
    rw [Bool.eq_iff_iff, anyPy hd hp es qs he hq, hb]
  refine ⟨_, _, ?_, h⟩
  have e1 : pyD st (.lst es) = some (.list qs) := by
    show (toPys es).map PyData.list = _
    rw [hq]; rfl
  simp only [inD, pyD_pln hd, hp, e1, Option.bind_some, seqPy]
  rw [if_pos ⟨sh_pln hd dd hp, shl_pln he de hq⟩, hv]
theorem z_inDR {neg : Bool} {d : D} {n : Nat} {es : List D} {b : Bool} (e : st[n]? = some (.lst es)) (hd : d.pln) (he : plns es) (dd : d.dep ≤ 64) (de : deps es ≤ 63) (hb : b = true ↔ d ∈ es) (h : QE (.bl (if neg then !b else b)) st) : wp (inD neg d (.ref n) st) QE := by
  obtain ⟨p, hp, _⟩ := D.toPy_ok d hd
  obtain ⟨qs, hq, _⟩ := toPys_ok es he
  have hv : qs.any (fun z => PyData.eqv z p) = b := by
    rw [Bool.eq_iff_iff, anyPy hd hp es qs he hq, hb]
  refine ⟨_, _, ?_, h⟩
  have e1 : pyD st (.ref n) = some (.list qs) := by
    simp only [pyD, e, hq, Option.map_some]
  simp only [inD, pyD_pln hd, hp, e1, Option.bind_some, seqPy]
  rw [if_pos ⟨sh_pln hd dd hp, shl_pln he de hq⟩, hv]
theorem plns_of : ∀ {ds : List D}, (∀ d, d ∈ ds → d.pln) → plns ds
  | [], _ => trivial
  | d :: ds, h => ⟨h d (List.mem_cons_self ..), plns_of fun e he => h e (List.mem_cons_of_mem _ he)⟩
theorem deps_of {k : Nat} : ∀ {ds : List D}, (∀ d, d ∈ ds → d.dep ≤ k) → deps ds ≤ k
  | [], _ => Nat.zero_le _
  | d :: ds, h => Nat.max_le.mpr ⟨h d (List.mem_cons_self ..), deps_of fun e he => h e (List.mem_cons_of_mem _ he)⟩
theorem plns_R {l : Nat} {F : Nat → D} (h : ∀ i, i < l → (F i).pln) : plns ((List.range l).map F) := plns_of fun d hd => by
  obtain ⟨i, hi, rfl⟩ := List.mem_map.mp hd
  exact h i (List.mem_range.mp hi)
theorem deps_R {l k : Nat} {F : Nat → D} (h : ∀ i, i < l → (F i).dep ≤ k) : deps ((List.range l).map F) ≤ k := deps_of fun d hd => by
  obtain ⟨i, hi, rfl⟩ := List.mem_map.mp hd
  exact h i (List.mem_range.mp hi)
theorem row_pln {l : Nat} {f : Nat → Int} : D.pln (.tup (ix l f)) := plns_R fun i _ => trivial
theorem row_dep {l : Nat} {f : Nat → Int} : D.dep (.tup (ix l f)) ≤ 1 := Nat.succ_le_succ (deps_R fun i _ => Nat.le_refl 0)
theorem mx_pln {r c : Nat} {f : Nat → Nat → Int} : D.pln (mx r c f) := plns_R fun i _ => row_pln
theorem mx_dep {r c : Nat} {f : Nat → Nat → Int} : D.dep (mx r c f) ≤ 2 := Nat.succ_le_succ (deps_R fun i _ => row_dep)
theorem map_R {α : Type} {l : Nat} {F G : Nat → α} : (List.range l).map F = (List.range l).map G ↔ ∀ i, i < l → F i = G i := by
  simp [List.map_inj_left]
theorem row_eq {l : Nat} {f g : Nat → Int} : D.tup (ix l f) = .tup (ix l g) ↔ ∀ i, i < l → f i = g i := by
  rw [D.tup.injEq, map_R]
  simp
theorem mx_eq {r c : Nat} {f g : Nat → Nat → Int} : mx r c f = mx r c g ↔ ∀ i j, i < r → j < c → f i j = g i j := by
  rw [D.tup.injEq, map_R]
  constructor
  · exact fun h i j hi hj => row_eq.mp (h i hi) j hj
  · exact fun h i hi => row_eq.mpr fun j hj => h i j hi hj
end
mutual
theorem D.blw_pln {n : Nat} : ∀ d : D, d.pln → d.blw n
  | .non, _ => trivial
  | .int _, _ => trivial
  | .str _, _ => trivial
  | .tup ds, h => belows_pln ds h
  | .lst ds, h => belows_pln ds h
theorem belows_pln {n : Nat} : ∀ ds : List D, plns ds → belows n ds
  | [], _ => trivial
  | d :: ds, h => ⟨D.blw_pln d h.1, belows_pln ds h.2⟩
end
section
variable {st : Sto} {x y z : O}
theorem two_0 : (st ++ [x, y])[st.length]? = some x := by rw [List.getElem?_append_right (Nat.le_refl _), Nat.sub_self]; rfl
theorem two_1 : (st ++ [x, y])[st.length + 1]? = some y := by rw [List.getElem?_append_right (by omega), Nat.add_sub_cancel_left]; rfl
theorem two_s0 : (st ++ [x, y]).set st.length z = st ++ [z, y] := by rw [List.set_append_right _ _ (Nat.le_refl _), Nat.sub_self]; rfl
theorem two_s1 : (st ++ [x, y]).set (st.length + 1) z = st ++ [x, z] := by rw [List.set_append_right _ _ (by omega), Nat.add_sub_cancel_left]; rfl
theorem one_s {z : O} : (st ++ [x]).set st.length z = st ++ [z] := by rw [List.set_append_right _ _ (Nat.le_refl _), Nat.sub_self]; rfl
theorem one_0 : (st ++ [x])[st.length]? = some x := by rw [List.getElem?_append_right (Nat.le_refl _), Nat.sub_self]; rfl
end
theorem plns_app : ∀ {a b : List D}, plns a → plns b → plns (a ++ b)
  | [], _, _, h => h
  | _ :: _, _, h, h' => ⟨h.1, plns_app h.2 h'⟩
theorem z_addNN {st : Sto} {QE : D → Sto → Prop} {x y : D} {a b : List D} (e1 : lsD st x = some a) (e2 : lsD st y = some b) (hl : a.length + b.length ≤ 16777216) (h : QE (.ref st.length) (st ++ [.lst (a ++ b)])) : wp (addN x y st) QE := ⟨_, _, by simp only [addN, e1, e2]; exact if_pos hl, h⟩
theorem z_min1 {st : Sto} {QE : D → Sto → Prop} {ns : List Int} {m : Int} {ds : List D} (e : ds = ns.map D.int) (h : minL ns = some m) (q : QE (.int m) st) : wp (fMin [.lst ds] st) QE := by
  subst e
  refine ⟨_, _, ?_, q⟩
  show (((some (ns.map D.int)).bind intsD).bind fun ns => (minL ns).map fun m => (D.int m, st)) = _
  rw [Option.bind_some, intsD_map, Option.bind_some, h]
  rfl
theorem z_slQ {st : Sto} {QE : D → Sto → Prop} {ds : List D} {a b : Option Int} (h : QE (.lst (cutL ds a b)) st) : wp (slD (.sq ds) a b st) QE := wp_some h
section
variable {st : Sto} {env : Env} {QS : Fl → Sto → Prop} {x y z u : O}
theorem x_forC {w : Watch} {t : Tg} {b : FS} {d : D} {r : List D} (hw : watchOk w st) (h : ∃ e1, bindT t d env = some e1 ∧ wp (b e1 st) (loopK QS fun e s => wp (forL w t b r e s) QS)) : wp (forL w t b (d :: r) env st) QS := by
  obtain ⟨e1, hb, q⟩ := h
  unfold forL
  refine wp_if hw ?_
  rw [hb]
  refine wp_bind (q.mono fun f s1 q => ?_)
  cases f with
  | nx e2 => exact q
  | ct e2 => exact q
  | bk e2 => exact wp_some q
  | rt d => exact wp_some q
theorem x_forE {w : Watch} {t : Tg} {b : FS} (hw : watchOk w st) (h : QS (.nx env) st) : wp (forL w t b [] env st) QS := by
  unfold forL
  exact wp_if hw (wp_some h)
theorem four_0 : (st ++ [x, y, z, u])[st.length]? = some x := by rw [List.getElem?_append_right (Nat.le_refl _), Nat.sub_self]; rfl
theorem four_1 : (st ++ [x, y, z, u])[st.length + 1]? = some y := by rw [List.getElem?_append_right (by omega), Nat.add_sub_cancel_left]; rfl
theorem four_2 : (st ++ [x, y, z, u])[st.length + 2]? = some z := by rw [List.getElem?_append_right (by omega), Nat.add_sub_cancel_left]; rfl
theorem four_3 : (st ++ [x, y, z, u])[st.length + 3]? = some u := by rw [List.getElem?_append_right (by omega), Nat.add_sub_cancel_left]; rfl
theorem four_s0 {o : O} : (st ++ [x, y, z, u]).set st.length o = st ++ [o, y, z, u] := by rw [List.set_append_right _ _ (Nat.le_refl _), Nat.sub_self]; rfl
theorem four_s1 {o : O} : (st ++ [x, y, z, u]).set (st.length + 1) o = st ++ [x, o, z, u] := by rw [List.set_append_right _ _ (by omega), Nat.add_sub_cancel_left]; rfl
theorem four_s2 {o : O} : (st ++ [x, y, z, u]).set (st.length + 2) o = st ++ [x, y, o, u] := by rw [List.set_append_right _ _ (by omega), Nat.add_sub_cancel_left]; rfl
end
end ML

set_option Elab.async false
set_option linter.all false
set_option maxRecDepth 100000
set_option maxHeartbeats 4000000
namespace SUP
open PySem PySem.Spec PySem.Calls PyProof.Rows L2

/-! ## an own exception class whose __init__ says super().__init__(text); self.fld = fld -/
abbrev exB (txt fld : Str) (k : Option Str) (q : Nat → Pos) : List Stmt :=
  [.Expr (.Call (.Attribute (.Call (.Name "super" (q 1)) [] [] (q 2)) "__init__" (q 3)) [.Constant (.str txt) 0 (q 4)] [] (q 5)) (q 6),
   .Assign [.Attribute (.Name "self" (q 7)) fld (q 8)] (.Name fld (q 9)) (q 10)]
abbrev exS (fld : Str) : List (Str × NameKind) := [(PySem.Str.ofString "self", .local), (fld, .local), (PySem.Str.ofString "__class__", .free), (PySem.Str.ofString "super", .globalImplicit)]
abbrev excMade (C t : Addr) (d : Option Addr) : Obj := { cls := .ref C, dict := d, data := .fields #[.ref t, .none, .none, .none, .bool false, .none] }
structure ExT (P : Program) (K : PySem.W.Frag) (cn fld : Str) (C fI : Addr) : Prop where
  gC : PySem.W.nsIn K mainGlobals cn = some (some (.ref C))
  cls : ∃ nm q N bs bm sn sub ab col dd k0 k1 k2 k3 k5, K.lookup C = some (excClassObj nm q C N bs bm true sn sub ab col dd k0 k1 k2 k3 k5 "ValueError.__new__") ∧ PySem.HandSPX.refsVE bm = true
  sa : PySem.W.findIn K (.ref C) "__setattr__" = some (some (.builtin "object.__setattr__"))
  ga : PySem.W.findIn K (.ref C) "__getattribute__" = some (some (.builtin "BaseException.__getattribute__"))
  gg : PySem.W.findIn K (.ref C) "__getattr__" = some none
  noN : PySem.W.findIn K (.ref C) fld = some none
  iC : PySem.W.findIn K (.ref C) "__init__" = some (some (.ref fI))
  tC : PySem.W.typeIn K (.ref fI) = some (.type "function")
  kC : PySem.W.keepIn K (.ref C) = true
  exC : PySem.W.subIn K (.ref C) (.type "BaseException") = some true
  veC : PySem.W.subIn K (.ref C) (.type "ValueError") = some true
  tyC : PySem.W.typeIn K (.ref C) = some (.type "type")
  hdC : PySem.W.hasDictIn K C = true
  fn : ∃ (oc : Value) (od : Option Addr) (kV doc pm : Value) (an : Option Addr) (cda cc : Addr) (ct : Value) (osl : Array (Option Value)) (params : Arguments) (scope : Scope) (txt : Str) (qual : Str) (q : Nat → Pos) (ar : Arg) (nm : Str),
    K.lookup fI = some ⟨oc, od, .func (PySem.W.ksFn nm qual params (exB txt fld none q) scope .none kV doc pm an (.ref cda) ct cc), osl⟩ ∧ PySem.W.codeIn K (.ref cda) qual = true ∧
    (scope = { kind := .function, names := exS fld, isGenerator := false, isCoroutine := false, more := [] }) ∧ (∀ env : Env, ∃ pl, eval (.Call (.Attribute (.Call (.Name "super" (q 1)) [] [] (q 2)) "__init__" (q 3)) [.Constant (.str txt) 0 (q 4)] [] (q 5)) env = (do
      let ov ← attributeBase (.Call (.Name "super" (q 1)) [] [] (q 2)) "__init__" env (eval (.Call (.Name "super" (q 1)) [] [] (q 2)) env)
      standAt (q 3).atName
      let (f, first) ← holding [ov] (getMethod ov "__init__" pl)
      callWith (q 5) f first (backTo (q 5) (starEach [.Constant (.str txt) 0 (q 4)] env)) [])) ∧ ((params.posonlyargs ++ params.args).head? = some ar ∧ ar.arg = "self") ∧
    (∀ doc pm (s : Shared) (a b : Value), BindsTo s (PySem.W.ksFn nm qual params (exB txt fld none q) scope .none kV doc pm an (.ref cda) ct cc) ⟨[a, b], []⟩ [("self", a), (fld, b)]) ∧
    (∃ ccl cdd vs ccs file tf, K.lookup cda = some ⟨ccl, cdd, .fields vs, ccs⟩ ∧ vs[2]? = some (.str file tf) ∧ ((P.main.file : Str) == file) = true) ∧
    ∃ cl cld csl, K.lookup cc = some ⟨cl, cld, .cell (some (.ref C)), csl⟩
  sup : PySem.W.ks_superIn K C C "__init__" = some (some (.builtin "ValueError.__init__"))
  self : PySem.W.mroIn K C (.ref C) = some true
  zs : PySem.W.nsIn K mainGlobals "super" = some none
  top : (P.main.scope.names.lookup ("super" : Str)).isSome = false
  opq : PySem.W.nsIn K cStatics "thirdparty.any" = some none
  fs : (fld == ("self" : Str)) = false ∧ (fld == ("__debug__" : Str)) = false ∧ (fld == ("__class__" : Str)) = false ∧ (fld == ("super" : Str)) = false
structure InitEnd (h h' : Heap) (x C dx t1 : Addr) (fld : Str) (v : Value) : Prop where
  keep : ∀ b o, b ≠ x → h.get? b = some o → h'.get? b = some o
  obj : h'.get? x = some (excMade C t1 (some dx))
  dbig : h.objs.size ≤ dx
  dne : dx ≠ x
  ns : h'.Ns1 dx (fun y => if y = fld then some v else none)
section
variable {P : Program} {w : World} {A : Around} {E : Value → Shared → Prop} {R : Result → Shared → Prop} {s : Shared} {K : PySem.W.Frag} {mg : Str → Option Value} {base : Heap} {C fI : Addr} {cn fld : Str}
theorem mw_call {h : Heap} {g : Array GenState} {d : Drawn} {t : Nat} {os : OsState} {nm q : Str} {N : Addr} {bs bm : List Value} {hdct : Bool} {sn : List Str} {sub : List Value} {ab : Bool} {col : Option Bool} {dd : Option Addr} {k0 k1 k2 k3 k5 : Option Value}
    {u x t0 : Addr} {dv : Option Addr} {rest : List Value} {Q : Value → Shared → Prop} (hC : h.get? C = some (excClassObj nm q C N bs bm hdct sn sub ab col dd k0 k1 k2 k3 k5 "ValueError.__new__")) (he : h.get? x = some (excMade C t0 dv)) (hu : h.get? u = some (PySem.W.kxs_mw "ValueError.__init__" x)) (hz : rest.length ≤ sizeLine)
    (hq : ∀ h' t1, (∀ b o, b ≠ x → h.get? b = some o → h'.get? b = some o) → h'.get? x = some (excMade C t1 dv) → Q .none ⟨h', g, d, t, os⟩) : wpAny (model P w) A (call (.ref u) rest) Q E ⟨h, g, d, t, os⟩ := by
  have FB := F.excBase_ValueError
  refine wpAny_call (codeAny_of_tree (show wpAny _ A.in1 (callAny (.ref u) ⟨rest, []⟩) _ _ _ from ?_))
  simp only [callAny]
  refine wpAny_bind (wpAny_load hu ?_)
  have c1 : (Value.type "method-wrapper" == Value.type "method" || Value.type "method-wrapper" == Value.type "builtin_function_or_method" || Value.type "method-wrapper" == Value.type "method-wrapper") = true := by decide
  simp only [PySem.W.kxs_mw, c1, if_true]
  refine PySem.W.KFB.if_so (by decide) (wpAny_bind (PySem.W.check_bound_init FB.toExcCallFacts hC he rfl (wpAny_bind (wpAny_pure (wpAny_pure ⟨plainId_quiet FB.init.plain _, codeAny_builtin FB.initEntry ?_⟩)))))
  exact PySem.W.exc_init_tree (cls := .ref C) (t0 := t0) (dv := dv) (c2 := .none) (c3 := .none) (b4 := .bool false) he hz fun h' k e' t' => hq h' _ k e'
theorem ex_init (T : ExT P K cn fld C fI) {x t0 : Addr} {v : Value} (M : Mod K mg base) (kb : ∀ b o, base.get? b = some o → s.heap.get? b = some o) (hx : s.heap.get? x = some (excMade C t0 none)) (hnx : K.lookup x = none) (hroom : A.depth < recursionLimit)
    (hq : ∀ h' tk dx t1, InitEnd s.heap h' x C dx t1 fld v → R (.ok (.ret .none)) { s with heap := h', toks := tk }) :
    codeAny (model P w) A (.call (.ref fI) ⟨[.ref x, v], []⟩) R s := by
  obtain ⟨oc, od, kV, doc, pm, an, cda, cc, ct, osl, params, scope, txt, qual, q, ar, nmF, ho, hcd, hsc, hev, ⟨hp1, hp2⟩, hbind, ⟨ccl, cdd, vs, ccs, file, tf, hcode, hvs, hfile⟩, cl, cld, csl, hcell⟩ := T.fn
  obtain ⟨nm, qn, N, bs, bm, sn, sub, ab, col, dd, k0, k1, k2, k3, k5, hC, hbm⟩ := T.cls
  obtain ⟨f1, f2, f3, f4⟩ := T.fs
  have hk : scope.kind = .function := by rw [hsc]
  have hco : scope.isCoroutine = false := by rw [hsc]
  have hgen : scope.isGenerator = false := by rw [hsc]
  have hnames : scope.names = exS fld := by rw [hsc]
  have hcl : PySem.W.clsIn K C = some { name := nm, bases := bs, mro := .ref C :: bm, ns := N, qualname := qn, hasDict := true, slotNames := sn, subclasses := sub, abstract := ab, collection := col, hasDel := false } := by unfold PySem.W.clsIn; rw [hC] <;> rfl
  have X : K.In s.heap := M.kin.keeps kb
  have hlim : s.heap.NoLimit := M.nolimit.keeps kb
  refine ks_codeAny_call_defAt (fd := PySem.W.ksFn nmF qual params (exB txt fld none q) scope .none kV doc pm an (.ref cda) ct cc) (body := exB txt fld none q) hroom (X _ _ ho) rfl hlim (PySem.W.codeRec_of X hcd) rfl (hbind doc pm s (.ref x) v) (by show ∀ y ∈ scope.names, _; rw [hnames]; simp [exS]) (fun y hy => ?_) (fun h₁ hns k => ?_) hco hgen hk
  · show scope.names.lookup y.1 = some .local
    rw [hnames]
    simp only [List.mem_cons, List.not_mem_nil, or_false] at hy
    rcases hy with rfl | rfl
    · simp [exS, List.lookup]
    · have : (fld == (PySem.Str.ofString "self")) = false := f1
      simp [exS, List.lookup, this]
  have k' : ∀ b o, base.get? b = some o → h₁.get? b = some o := fun b o e => k b o (kb b o e)
  have X1 : K.In h₁ := M.kin.keeps k'
  have hx1 := k _ _ hx
  have lks : scope.names.lookup ("self" : Str) = some .local := by rw [hnames]; simp [exS, List.lookup]
  have lkf : scope.names.lookup fld = some .local := by
    rw [hnames]
    have : (fld == (PySem.Str.ofString "self")) = false := f1
    simp [exS, List.lookup, this]
  have lkc : scope.names.lookup ("__class__" : Str) = some .free := by
    rw [hnames]
    have h2 : ((PySem.Str.ofString "__class__") == fld) = false := by
      have := f3
      rw [beq_eq_false_iff_ne] at this ⊢
      exact fun z => this z.symm
    have h1 : ((PySem.Str.ofString "__class__") == (PySem.Str.ofString "self")) = false := by decide
    show List.lookup (PySem.Str.ofString "__class__") (exS fld) = _
    simp only [exS, List.lookup, h1, h2, beq_self_eq_true]
  have lkp : scope.names.lookup ("super" : Str) = some .globalImplicit := by
    rw [hnames]
    have h2 : ((PySem.Str.ofString "super") == fld) = false := by
      rw [beq_eq_false_iff_ne] at f4 ⊢
      exact fun z => f4 z.symm
    have h1 : ((PySem.Str.ofString "super") == (PySem.Str.ofString "self")) = false := by decide
    have h3 : ((PySem.Str.ofString "super") == (PySem.Str.ofString "__class__")) = false := by decide
    show List.lookup (PySem.Str.ofString "super") (exS fld) = _
    simp only [exS, List.lookup, h1, h2, h3, beq_self_eq_true]
  have hself : ([("self", Value.ref x), (fld, v)] : List (Str × Value)).reverse.lookup ("self" : Str) = some (.ref x) := by
    have h2 : ((PySem.Str.ofString "self") == fld) = false := by
      rw [beq_eq_false_iff_ne] at f1 ⊢
      exact fun z => f1 z.symm
    show List.lookup (PySem.Str.ofString "self") [(fld, v), (PySem.Str.ofString "self", Value.ref x)] = _
    simp only [List.lookup, h2, beq_self_eq_true]
  have hfldv : ([("self", Value.ref x), (fld, v)] : List (Str × Value)).reverse.lookup fld = some v := by
    show List.lookup fld [(fld, v), (PySem.Str.ofString "self", Value.ref x)] = _
    simp only [List.lookup, beq_self_eq_true]
  obtain ⟨mb, hmb, hmb2⟩ := M.blt
  have hD : h₁.get? C = some (excClassObj nm qn C N bs bm true sn sub ab col dd k0 k1 k2 k3 k5 "ValueError.__new__") := X1 _ _ hC
  obtain ⟨pl, hev⟩ := hev (PySem.W.ksEnv qual scope s.heap.objs.size fI (.ref cda) cc)
  refine ks_wpAt_execs_cons (ks_wpAt_Expr_any (hi := by rw [hsc]; rfl) (ks_wpAt_MethodCall (he := hev) (ks_wpAt_super_base (env := PySem.W.ksEnv qual scope s.heap.objs.size fI (.ref cda) cc) lkp lkc rfl rfl (X1 _ _ ho) rfl hp1 rfl (X1 _ _ hcode) rfl hvs hfile T.top ?_)))
  refine PySem.W.ks_loadName_global hk lkp (PySem.Calls.loadGlobal_builtin (env := PySem.W.ksEnv qual scope s.heap.objs.size fI (.ref cda) cc) (M.glob.keeps k') (PySem.W.mg_none_of M.kin M.glob T.zs) (hmb.keeps k') ((hmb2 _ (by decide)).trans PyProof.Rows.Boot.«super») ⟨rfl, ?_⟩)
  refine wpAny_loadName_free hk lkc rfl ⟨_, X1 _ _ hcell, rfl⟩ ?_
  rw [hp2]
  refine wpAny_loadName_local hk lks hns hself ?_
  refine ks_wpAny_isType_cls hD rfl ⟨rfl, ks_wpAny_call_super hD rfl hx1 rfl (fun c e => nomatch e) (PySem.W.looks_mroIn X1 T.self) fun h2 e2 k2 => ?_⟩
  have X2 : K.In h2 := X1.keeps k2
  have hx2 := k2 _ _ hx1
  have I2 : PySem.W.InstAt h2 x (excMade C t0 none) C none := ⟨hx2, rfl, rfl, trivial⟩
  have hm := T.sup
  unfold PySem.W.ks_superIn at hm
  rw [hcl] at hm
  refine PySem.W.kxs_getMethod PySem.W.kxs_ValueError e2 (PySem.W.looks_opaque X2 T.opq) (l₀ := .ref C :: bm) (fun A Q E s k q => wpAny_bind ((PySem.W.looks_clsIn X2 hcl) A _ E s k (wpAny_pure q))) rfl X2 hm (I2.type.andThen (PySem.W.looks_subIn X2 T.veC)) (PySem.W.ks_ne X2 I2 hcl) rfl ?_
  have hx3 := Heap.get?_push_of_some (PySem.W.kxs_mw "ValueError.__init__" x) hx2
  have hu3 : (h2.push (PySem.W.kxs_mw "ValueError.__init__" x)).get? h2.objs.size = some (PySem.W.kxs_mw "ValueError.__init__" x) := Heap.get?_push_size h2 rfl
  have X3 : K.In (h2.push (PySem.W.kxs_mw "ValueError.__init__" x)) := X2.keeps fun b o e => Heap.get?_push_of_some _ e
  have old3 : ∀ b o, s.heap.get? b = some o → (h2.push (PySem.W.kxs_mw "ValueError.__init__" x)).get? b = some o := fun b o e => Heap.get?_push_of_some _ (k2 _ _ (k _ _ e))
  have ns3 : (h2.push (PySem.W.kxs_mw "ValueError.__init__" x)).Ns s.heap.objs.size (fun y => [(PySem.Str.ofString "self", Value.ref x), (fld, v)].reverse.lookup y) := (hns.keeps k2).keeps fun b o e => Heap.get?_push_of_some _ e
  show wpAny _ _ (callWith (q 5) (.ref h2.objs.size) [] (backTo (q 5) ((false, eval (.Constant (.str txt) 0 (q 4)) _) :: starEach [] _)) []) _ _ _
  refine PySem.W.kxs_callWith (i := "ValueError.__init__") (x := x) rfl (evalArgs_plain ?_)
  repeat (first | wp_step)
  refine ⟨hu3, mw_call (X3 _ _ hC) hx3 hu3 (by rw [sizeLine_eq]; simp) fun h4 t4 k4 hx4 => ?_⟩
  have hnxL : s.heap.objs.size ≠ x := Nat.ne_of_gt (Heap.lt_size hx)
  have X4 : K.In h4 := fun a o e => k4 a o (fun z => by rw [z, hnx] at e; cases e) (X3 a o e)
  have ns4 : h4.Ns s.heap.objs.size (fun y => [(PySem.Str.ofString "self", Value.ref x), (fld, v)].reverse.lookup y) := by
    obtain ⟨o, es, ep, ho', r'⟩ := ns3
    exact ⟨o, es, ep, k4 _ _ hnxL ho', r'⟩
  have sz : s.heap.objs.size ≤ h4.objs.size := Nat.le_of_lt (by
    obtain ⟨o, es, ep, ho', r'⟩ := ns4
    exact Heap.lt_size ho')
  refine wpAt_of_wpAny (wpAny_execs_cons (plainObj_wpAny_Assign_Attribute (wpAny_Name (wpAny_loadName_local hk lkf ns4 hfldv (wpAny_Name (wpAny_loadName_local hk lks ns4 hself ?_) rfl)) f2)))
  refine PySem.W.set_plain X4 (ox := excMade C t4 none) (od := none) ⟨hx4, rfl, rfl, trivial⟩ T.sa (PySem.HandSPX.exc_osa X4 hx4 hcl (show PySem.HandSPX.refsVE (.ref C :: bm) = true from hbm) rfl T.noN fun h5 tk5 dx k5 dn dne hx5 ns5 => ?_)
  exact wpAny_execs_nil (hq h5 tk5 dx t4 ⟨fun b o hb e => k5 b o hb (k4 b o hb (old3 b o e)), hx5, Nat.le_trans sz dn, dne, ns5⟩)
/-- a made exception -/
structure OwnMade (h h' : Heap) (e C d : Addr) (fld : Str) (v : Value) : Prop where
  keep : ∀ b o, h.get? b = some o → h'.get? b = some o
  new : h.objs.size ≤ e
  obj : ∃ oe vs, h'.get? e = some oe ∧ oe.cls = .ref C ∧ oe.dict = some d ∧ oe.data = .fields vs ∧ vs[1]? = some .none
  dbig : h.objs.size ≤ d
  dne : d ≠ e
  ns : h'.Ns1 d (fun y => if y = fld then some v else none)
theorem ex_made (T : ExT P K cn fld C fI) {v : Value} (M : Mod K mg base) (kb : ∀ b o, base.get? b = some o → s.heap.get? b = some o) (hroom : A.depth + 1 < recursionLimit)
    (hq : ∀ h' tk e d, OwnMade s.heap h' e C d fld v → R (.ok (.ret (.ref e))) { s with heap := h', toks := tk }) :
    codeAny (model P w) A (.call (.ref C) ⟨[v], []⟩) R s := by
  obtain ⟨nm, q, N, bs, bm, sn, sub, ab, col, dd, k0, k1, k2, k3, k5, hC, hbm⟩ := T.cls
  have X : K.In s.heap := M.kin.keeps kb
  obtain ⟨hp, g, dr, tk, os⟩ := s
  have k : ∀ b o, hp.get? b = some o → ((hp.push (PySem.W.kdv_tup [v])).push (PySem.HandSPX.excO C hp.objs.size)).get? b = some o := fun b o e => Heap.get?_push_of_some _ (Heap.get?_push_of_some _ e)
  have hget : ((hp.push (PySem.W.kdv_tup [v])).push (PySem.HandSPX.excO C hp.objs.size)).get? (hp.objs.size + 1) = some (excMade C hp.objs.size none) := by heap_get
  have hnx : K.lookup (hp.objs.size + 1) = none := by
    cases e : K.lookup (hp.objs.size + 1) with
    | none => rfl
    | some o =>
      have z : hp.get? (hp.objs.size + 1) = some o := X _ _ e
      exact absurd (Nat.lt_of_succ_lt (Heap.lt_size z)) (Nat.lt_irrefl _)
  refine PySem.HandSPX.call_own F.excBase_ValueError (fun Y => PySem.HandSPX.refsVE_contains Y bm hbm) (X _ _ hC) (PySem.W.looks_findIn X T.iC) (fun self => PySem.W.bind_fn X self T.tC) (by rw [sizeLine_eq]; exact (by decide : 1 ≤ 16777216)) ?_
  refine ex_init (s := ⟨(hp.push (PySem.W.kdv_tup [v])).push (PySem.HandSPX.excO C hp.objs.size), g, dr, tk, os⟩) T M (fun b o e => k b o (kb b o e)) hget hnx ?_ fun h' tk' dx t1 ⟨k', hx, dn, dne, hns⟩ => ?_
  · show A.depth + 1 < recursionLimit
    exact hroom
  · have old : ∀ b o, hp.get? b = some o → h'.get? b = some o := fun b o e => k' b o (Nat.ne_of_lt (Nat.lt_succ_of_lt (Heap.lt_size e))) (k b o e)
    have z : hp.objs.size + 1 + 1 ≤ dx := by
      first
        | (simpa only [Heap.size_push] using dn)
        | exact dn
        | (have q := dn; rw [Heap.size_push, Heap.size_push] at q; exact q)
    exact ⟨rfl, hq h' tk' (hp.objs.size + 1) dx ⟨old, Nat.le_succ _, ⟨_, _, hx, rfl, rfl, rfl, rfl⟩, Nat.le_trans (Nat.le_trans (Nat.le_succ _) (Nat.le_succ _)) z, dne, hns⟩⟩
end
theorem relO_fld {v : V} {v' : Value} {fld : Str} (r : RelV v v') (f : Str) : RelO (List.lookup f [(fld, v)]) (if f = fld then some v' else none) := by
  by_cases hw : f = fld
  · subst hw
    rw [if_pos rfl]
    simp only [List.lookup, beq_self_eq_true]
    exact r
  · rw [if_neg hw]
    have qw : (f == fld) = false := beq_eq_false_iff_ne.mpr hw
    simp only [List.lookup, qw]
    trivial
section
variable {X : Cx} {C fI : Addr} {cn fld : Str}
/-- cn(e): the exception, its dict -/
def tMkE (C : Addr) (fld : Str) (ta : TA) : L2.St → Hp → XK → Prop := fun σ H Q => ta σ H fun vs H1 => ∃ v, vs = [v] ∧ ∀ d, H1 d = none → Q (.ref C) (some d) (upd H1 d (.xd [(fld, v)]))
theorem pmk_e {a : Expr} {ta : TA} {p pos : Pos} {k : Nat} (T : ExT X.prog X.K cn fld C fI) (hr : Room k X.A) (ha : PA X [a] ta) (hg : Gl X cn) (hd : (cn == ("__debug__" : Str)) = false := by decide)
    (he : starEach (a :: []) X.env = (false, eval a X.env) :: starEach [] X.env := by rfl) (hpl : (backTo pos (starEach [] X.env)).any (·.1) = false := by rfl) :
    PMk X (.Call (.Name cn p) [a] [] pos) (tMkE C fld ta) := by
  intro pins s σ H Q I h
  refine wpAny_Call_Name_kw (ld_glob I hg (PySem.W.mg_of I.ok.mod.kin I.ok.mod.glob T.gC) ?_ hd)
  refine PySem.W.callWith_K (h₀ := X.base) I.ok.mod.kin T.kC (thn (ha.run pos pins s σ H _ I h) fun us s1 hh => ?_) he hpl
  obtain ⟨vs, H1, I1, r1, v, ev, q1⟩ := hh
  subst ev
  refine ⟨I1.kIn, ?_⟩
  cases r1 with
  | cons rv rn =>
    rename_i v' us'
    cases rn
    show wpAny _ _ (call (.ref C) [v']) _ _ _
    have kb := I1.bk
    obtain ⟨hp, g, dr, tk, os⟩ := s1
    refine wpAny_call (ex_made T I1.ok.mod kb (by have := hr.dp; omega) fun h' tk' e d M => ?_)
    show MkP X pins σ Q (.ref e) ⟨h', g, dr, tk', os⟩
    obtain ⟨oe, fv, hoe, hc, hd, hdat, h1⟩ := M.obj
    have hns := M.ns
    obtain ⟨G', g1, g2⟩ := restrict h' fun b => decide (b ≠ e)
    have gk : ∀ b, b ≠ e → G'.get? b = h'.get? b := fun b hb => g1 b (decide_eq_true hb)
    have ge : G'.get? e = none := g2 e (by simp)
    have old : ∀ b o, hp.get? b = some o → G'.get? b = some o := fun b o q => (gk b (Nat.ne_of_lt (Nat.lt_of_lt_of_le (Heap.lt_size q) M.new))).trans (M.keep b o q)
    have ob : ObjOk X.prog X.w (upd H1 d (.xd [(fld, v)])) G' d (.xd [(fld, v)]) :=
      ⟨_, hns.at (fun o q => (gk d M.dne).trans q), fun f => relO_fld rv f⟩
    have J : Inv X pins σ (upd H1 d (.xd [(fld, v)])) ⟨G', g, dr, tk', os⟩ := I1.laid (t' := tk') old M.dbig ob
    refine ⟨e, oe, fv, ⟨G', g, dr, tk', os⟩, _, .ref C, some d, rfl, J, fun b o q => ?_, ge, hoe, ⟨hc, hd⟩, hdat, h1, ?_, rfl, I1.bare, raises_own T.exC T.tyC, q1 d (I1.hok.fresh M.dbig)⟩
    · by_cases hb : b = e
      · have q' : G'.get? b = some o := q
        rw [hb, ge] at q'; cases q'
      · exact (gk b hb).symm.trans q
    · rw [upd_ne (Ne.symm M.dne)]
      exact I1.hok.fresh M.new
end
end SUP

set_option Elab.async false
set_option linter.all false
set_option maxRecDepth 100000
set_option maxHeartbeats 4000000
namespace ML
open PySem PySem.Spec PyProof.Rows L2
/-! ### enumerate of a list or a tuple -/
set_option maxHeartbeats 1000000 in
theorem meets_enum1 {v : Value} {o : Obj} {H : Heap → Prop} (B : Begins v o H) :
    Meets (Builtin.«enumerate.__new__» ⟨[.type "enumerate", v], []⟩) (fun _ R s => H s.heap ∧
      R (.ok (.ret (.ref (s.heap.push o).objs.size))) { s with heap := (s.heap.push o).push { cls := .type "enumerate", data := .fields #[.none, .bool false, .ref s.heap.objs.size, rawInt 0, .none, .none] } }) :=
  .of_wp fun prog w A R s h => by
    obtain ⟨hp, g, d, tk, os⟩ := s; obtain ⟨h1, h⟩ := h
    have hsub := sub_enumerate
    have q1 : ∀ {A' : Around} {E : Value → Shared → Prop} {Q : Value → Shared → Prop}, Q (.ref hp.objs.size) ⟨hp.push o, g, d, tk, os⟩ → wpAny (model prog w) A' (pyIter v) Q E ⟨hp, g, d, tk, os⟩ :=
      fun q => B.iter prog w _ _ ⟨hp, g, d, tk, os⟩ _ h1 q
    wp_walk using q1
    refine wpAny_stack_any fun st => wpAny_pure ?_
    split
    · rename_i c _ _ _ _ _
      cases (c == Value.type "enumerate") <;> (wp_walk using q1; exact ⟨_, rfl, h⟩)
    all_goals (wp_walk using q1; exact ⟨_, rfl, h⟩)
theorem enum_begins1 {prog : Program} {w : World} {A : Around} {E : Value → Shared → Prop} {s : Shared} {v : Value} {o : Obj} {H : Heap → Prop} {Q : Value → Shared → Prop} (B : Begins v o H) (h1 : H s.heap)
    (h : ∀ h', IsEnum h' (s.heap.objs.size + 1) s.heap.objs.size 0 .none → h'.get? s.heap.objs.size = some o → h'.objs.size = s.heap.objs.size + 2 → (∀ b o, s.heap.get? b = some o → h'.get? b = some o) → Q (.ref (s.heap.objs.size + 1)) { s with heap := h' }) :
    wpAny (model prog w) A (call (.type "enumerate") [v]) Q E s := by
  have hz : (s.heap.push o).objs.size = s.heap.objs.size + 1 := Heap.size_push ..
  refine callType_new F.called_enumerate (by decide) (F.typeCall_enumerate_1 _) (F.newCall_enumerate_1 _) (fun obj => F.args_object_init_2 obj _) F.entry_enumerate_new (meets_enum1 B) ⟨h1, (?_ : _ ∧ _)⟩
  rw [hz]
  have he : IsEnum ((s.heap.push o).push { cls := .type "enumerate", data := .fields #[.none, .bool false, .ref s.heap.objs.size, rawInt 0, .none, .none] }) (s.heap.objs.size + 1) s.heap.objs.size 0 .none := by
    have q := Heap.get?_push_size (s.heap.push o) (o := { cls := .type "enumerate", data := .fields #[.none, .bool false, .ref s.heap.objs.size, rawInt 0, .none, .none] }) rfl
    rw [hz] at q; exact q
  exact ⟨⟨_, he, rfl⟩, h _ he (Heap.get?_push_of_some _ (Heap.get?_push_size _ B.free)) (by rw [Heap.size_push, hz]) fun b o x => Heap.get?_push_of_some _ (Heap.get?_push_of_some _ x)⟩
def ItE (K : Frag) (t : Bool) (a : Addr) : It :=
  ⟨fun i H => ∃ (xs : List V) (x : V), SeqB K t H a xs ∧ xs[i]? = some x, fun i H v H' => ∃ T x, v = .ref T ∧ H T = none ∧ H' = upd H T (.tup [.int (i : Nat), x]) ∧ ∀ xs, SeqB K t H a xs → xs[i]? = some x, fun i H => ∃ xs : List V, SeqB K t H a xs ∧ xs.length = i⟩
theorem turnE {P : Program} {w : World} {K : Frag} {elts : List Expr} {kk : Nat} {tpos : Pos} {t : Bool} (a e it : Addr) :
    Turn P w K (.Tuple elts kk tpos) (ItE K t a) [e, it] e (fun i h => (∃ old, IsEnum h e it ((i : Nat) : Int) old) ∧ IterB t h it a i ∧ e ≠ it) where
  mem := by simp
  obj := fun i h st b hb => by
    obtain ⟨⟨old, he⟩, hi, _⟩ := st
    have e' : b = e ∨ b = it := by simpa using hb
    rcases e' with z | z
    · rw [z]; exact ⟨_, he, fun v q => nomatch q⟩
    · rw [z]; exact hi.obj
  keep := fun i h h' st k => let ⟨⟨old, he⟩, hi, hne⟩ := st; ⟨⟨old, k e (by simp) _ he⟩, hi.keep fun o q => k it (by simp) o q, hne⟩
  item := by
    intro X hP hw hK hc i pins s σ H E I hf st hg
    subst hP hw hK
    obtain ⟨⟨old, he⟩, hit, hne⟩ := st
    obtain ⟨xs, x, hq, hx⟩ := hg
    obtain ⟨its, rv, p⟩ := hq.items I
    obtain ⟨u, hu, ru⟩ := rv.get hx
    have hel : e < s.heap.objs.size := Heap.lt_size he
    have hil : it < s.heap.objs.size := by obtain ⟨_, q, _⟩ := hit.obj; exact Heap.lt_size q
    have hd : X.A.in1.handled = none := I.ok.hd hc
    have na : a ≠ it := fun z => by
      subst z
      cases t with
      | true =>
        obtain ⟨o, e1, c, n, d⟩ := (show s.heap.IsTuple a its.toArray from p)
        obtain ⟨o', e', c', d'⟩ := (show s.heap.IsTupleIter a a i from hit)
        rw [e1] at e'; cases e'; rw [d] at d'; cases d'
      | false =>
        obtain ⟨o, e1, c, n, d⟩ := (show s.heap.IsList a its.toArray from p)
        obtain ⟨o', e', c', d'⟩ := (show s.heap.IsListIter a a i from hit)
        rw [e1] at e'; cases e'; rw [d] at d'; cases d'
    have nea : e ≠ a := fun z => by
      subst z
      cases t with
      | true =>
        obtain ⟨o, e1, c, n, d⟩ := (show s.heap.IsTuple e its.toArray from p)
        rw [show s.heap.get? e = some _ from he] at e1; cases e1; cases d
      | false =>
        obtain ⟨o, e1, c, n, d⟩ := (show s.heap.IsList e its.toArray from p)
        rw [show s.heap.get? e = some _ from he] at e1; cases e1; cases d
    have l1 : i < its.toArray.size := by
      have := (List.getElem?_eq_some_iff.mp hu).1
      simpa using this
    refine wpAny_pyNext_enum_itemD (drawsB hd t it a na its.toArray) he ⟨hit, p⟩ l1 hne (by simp [hne, nea]) fun y h' tk hy ho hst' hT hsz hk => ?_
    have eu : u = y := by simpa [hu] using hy
    subst eu
    refine ⟨_, rfl, wpAny_letOwnedTupleGo_enum (s := { s with heap := h', toks := tk + 1 }) ho fun h'' he' sb => ?_⟩
    have hT2 : h''.get? s.heap.objs.size = some { cls := .type "tuple", data := .seq #[.int i tk, u] } := (sb.2 _ (Nat.ne_of_gt hel)).trans hT
    have new : ObjOk X.prog X.w (upd H s.heap.objs.size (.tup [.int (i : Nat), x])) h'' s.heap.objs.size (.tup [.int (i : Nat), x]) :=
      ⟨by show 2 ≤ sizeLine; decide, [.int i tk, u], .cons ⟨_, rfl⟩ (.cons ru .nil), ⟨_, hT2, rfl, _, rfl⟩⟩
    have I1 : Inv X pins σ (upd H s.heap.objs.size (.tup [.int (i : Nat), x])) { s with heap := h'', toks := tk + 1 } :=
      I.turnedNew (t' := tk + 1) (ch := [e, it]) (fun b ob hb q => (sb.2 b (fun z => hb (by simp [z]))).trans (hk b ob (fun z => hb (by simp [z])) (fun z => hb (by simp [z])) q)) hf (Nat.le_refl _) new
    refine ⟨.ref s.heap.objs.size, _, I1, rfl, ⟨_, x, rfl, I.hok.fresh (Nat.le_refl _), rfl, fun ys hy => by rw [hy.inj I hq]; exact hx⟩, ⟨⟨u, ?_⟩, hst'.1.keep fun o q => (sb.2 it (Ne.symm hne)).trans q, hne⟩, fun b hb => ?_⟩
    · have e1 : ((i + 1 : Nat) : Int) = (i : Int) + 1 := by omega
      rw [e1]; exact he'
    · have e' : b = e ∨ b = it := by simpa using hb
      have hb' : b < s.heap.objs.size := by rcases e' with z | z <;> (rw [z]; assumption)
      rw [upd_ne (Nat.ne_of_lt hb')]
      exact (hf b hb).1
  done := by
    intro X hP hw hK hc i pins s σ H E I hf st hg
    subst hP hw hK
    obtain ⟨⟨old, he⟩, hit, hne⟩ := st
    obtain ⟨xs, hq, hx⟩ := hg
    obtain ⟨its, rv, p⟩ := hq.items I
    obtain ⟨f0, f1, f2, f3, f4, f5⟩ := hf it (by simp)
    have hl := rv.length
    have hd : X.A.in1.handled = none := I.ok.hd hc
    have na : a ≠ it := fun z => by
      subst z
      cases t with
      | true =>
        obtain ⟨o, e1, c, n, d⟩ := (show s.heap.IsTuple a its.toArray from p)
        obtain ⟨o', e', c', d'⟩ := (show s.heap.IsTupleIter a a i from hit)
        rw [e1] at e'; cases e'; rw [d] at d'; cases d'
      | false =>
        obtain ⟨o, e1, c, n, d⟩ := (show s.heap.IsList a its.toArray from p)
        obtain ⟨o', e', c', d'⟩ := (show s.heap.IsListIter a a i from hit)
        rw [e1] at e'; cases e'; rw [d] at d'; cases d'
    have hi : i = its.toArray.size := by simp; omega
    subst hi
    exact wpAny_pyNext_enum_endD (drawsB hd t it a na its.toArray) he ⟨hit, p⟩ fun h' eb => ⟨rfl, I.turned (t' := s.toks) (fun b o hb q => eb b o hb q) f0 f1 f3 f4 f5⟩
  self := fun A i s Q E st h => let ⟨⟨_, he⟩, _⟩ := st; wpAny_pyIter_enum he h
def iE (K : Frag) (ta : TA) : TI := fun σ H R => ta σ H fun vs H1 => ∃ a t xs, vs = [.ref a] ∧ SeqB K t H1 a xs ∧ R (ItE K t a) H1
theorem pi_E {X : Cx} {e : Expr} {ta : TA} {p pos tpos : Pos} {elts : List Expr} {kk : Nat} (hg : Gl X "enumerate") (hm : X.mg "enumerate" = none) (ha : PA X [e] ta) (hs : starEach [e] X.env = [(false, eval e X.env)] := by rfl) :
    PI X (.Tuple elts kk tpos) (.Call (.Name "enumerate" p) [e] [] pos) (iE X.K ta) := by
  refine ⟨fun pins s σ H R I h => Call_ (ld_blt I hg hm boot_enumerate (PyProof.Rows.callWith_type1 (thn (ha.run pos pins s σ H _ I h) fun us s1 ⟨vs, H1, I1, r1, q1⟩ => ?_) hs rfl))⟩
  obtain ⟨a, t, xs, ex, hq, q⟩ := q1
  subst ex
  cases r1 with
  | cons r rr =>
    cases rr
    cases r
    obtain ⟨its, rv, p'⟩ := hq.items I1
    refine enum_begins1 (beginsB t a its.toArray) p' fun h' he hit hsz hk => wpAny_pyIter_enum he ?_
    have I2 : Inv X pins σ H1 { s1 with heap := h' } := I1.kept (t' := s1.toks) hk
    refine ⟨s1.heap.objs.size + 1, [s1.heap.objs.size + 1, s1.heap.objs.size], _, _, H1, rfl, I2, turnE (t := t) a (s1.heap.objs.size + 1) s1.heap.objs.size, ⟨⟨.none, he⟩, .of hit, Nat.succ_ne_self _⟩, fun b hb => ?_, q⟩
    have e' : b = s1.heap.objs.size + 1 ∨ b = s1.heap.objs.size := by simpa using hb
    have hle : s1.heap.objs.size ≤ b := by
      rcases e' with z | z <;> rw [z]
      · exact Nat.le_add_right _ _
      · exact Nat.le_refl _
    exact I1.fpOk hle (I1.hok.fresh hle)
def enumL (ds : List D) : List D := ds.mapIdx fun i d => .tup [.int (i : Nat), d]
def Ienum (g : FA) : FI := fun env st => (g env st).bind fun p => match p.1 with
  | [x] => match anyD p.2 x with
    | some (_, a) => some (enumL a, watchOf x a, p.2)
    | none => none
  | _ => none
theorem i_enum [Tbs] {X : Cx} {e : Expr} {g : FA} {p pos tpos : Pos} {elts : List Expr} {kk : Nat} (hg : Gl X "enumerate") (hm : X.mg "enumerate" = none) (ha : PA X [e] (tA X.K g)) (hs : starEach [e] X.env = [(false, eval e X.env)] := by rfl) :
    PI X (.Tuple elts kk tpos) (.Call (.Name "enumerate" p) [e] [] pos) (tI X.K (Ienum g)) :=
  piImp (pi_E hg hm ha hs) fun σ H R ⟨θ, G, env, st, items, w, st', S, EN, hf, post⟩ => by
    obtain ⟨⟨x, st1⟩, h1, h2⟩ := Option.bind_eq_some_iff.mp hf
    dsimp only at h2
    split at h2
    · rename_i x1
      split at h2
      · rename_i t a ha
        cases h2
        refine tA.go S EN h1 fun θ1 G1 H1 v1 e1 S1 EN1 r1 => ?_
        cases r1 with
        | cons r1 r2 =>
          cases r2
          obtain ⟨pa, rfl, ⟨va, ka, la⟩, qa⟩ := anyD.ok S1 r1 ha
          refine ⟨pa, t, va, rfl, ka, post _ _ _ _ e1 S1 ?_⟩
          have hl : (enumL a).length = a.length := by simp [enumL]
          refine ⟨fun H => ∃ vs, SeqB X.K t H pa vs ∧ vs.length = a.length,
            fun i H v H' => ∃ T x, v = .ref T ∧ H T = none ∧ H' = upd H T (.tup [.int (i : Nat), x]) ∧ ∀ xs, SeqB X.K t H pa xs → xs[i]? = some x, ⟨?_, ?_, fun i H x H' _ _ q => q⟩, ?_, ?_⟩
          · rintro i H2 hi ⟨us, ku, lu⟩
            rw [hl] at hi
            exact ⟨us, us[i]'(by omega), ku, List.getElem?_eq_getElem (by omega)⟩
          · rintro H2 ⟨us, ku, lu⟩
            rw [hl]
            exact ⟨us, ku, lu⟩
          · intro θ' G' H' st' p g S' w
            obtain ⟨us, ku, ru⟩ := qa θ' G' H' st' p g S' w
            exact ⟨us, ku, ru.len⟩
          · rintro i x H2 H3 θ' G' st' hi p g S' w ⟨T, x2, rfl, hT, rfl, hx⟩
            obtain ⟨us, ku, ru⟩ := qa θ' G' H2 st' p g S' w
            obtain ⟨d1, e1', r1'⟩ := ru.at' (hx us ku)
            refine ⟨_, Ext.newG S' hT _, S'.newG hT _, .tup [.int (i : Nat), d1], by simp [enumL, e1'], ?_⟩
            exact .tup (.inl (.inl upd_same)) (.cons (.int _) (.cons (r1'.ext (Ext.newG S' hT _)) .nil))
      · cases h2
    · cases h2
theorem x_enum {env : Env} {st : Sto} {g : FA} {QI : List D → Watch → Sto → Prop} (h : wp (g env st) fun ds st1 => ∃ x t a, ds = [x] ∧ anyD st1 x = some (t, a) ∧ QI (enumL a) (watchOf x a) st1) : wpI (Ienum g env st) QI := by
  obtain ⟨ds, st1, h1, x, t, a, rfl, h2, h3⟩ := h
  exact ⟨_, _, _, by simp only [Ienum, h1, Option.bind_some, h2], h3⟩
theorem enum_at {ds : List D} {i : Nat} {d : D} (h : (enumL ds)[i]? = some d) : ∃ x, ds[i]? = some x ∧ d = .tup [.int (i : Nat), x] := by
  simp only [enumL, List.getElem?_mapIdx, Option.map_eq_some_iff] at h
  obtain ⟨x, h1, h2⟩ := h
  exact ⟨x, h1, h2.symm⟩
theorem enum_len {ds : List D} : (enumL ds).length = ds.length := by simp [enumL]
end ML

set_option Elab.async false
set_option linter.all false
set_option maxRecDepth 100000
set_option maxHeartbeats 4000000
namespace ML
open PySem PySem.Spec PyProof.Rows L2

/-! ## what a call leaves in the store is dropped, also where it changed older lists -/
def O.blw (n : Nat) : O → Prop
  | .lst ds => belows n ds
  | .ins _ _ ds => belows n ds
  | .dct _ ds => belows n ds
open Classical in
noncomputable def gcG (m : FC) : FC := fun ds st => (m ds st).map fun p => if (st.length ≤ p.2.length ∧ ∀ o, o ∈ p.2.take st.length → O.blw st.length o) ∧ p.1.blw st.length then (p.1, p.2.take st.length) else p
theorem sp_gcG [Tbs] {P : Program} {w : World} {K : Frag} {mg : PySem.Str → Option Value} {base : Heap} {CX : CXT} {k n : Nat} {f : Addr} {fd : FuncData} {ps : List PySem.Str} {m : FC} (F : FnOk P w K mg base CX k f fd ps (spF K n m)) : FnOk P w K mg base CX k f fd ps (spF K n (gcG m)) :=
  F.imp fun vs H Q E ⟨hl, θ, G, st, ds, d, st', S, r, hf, post⟩ => by
    obtain ⟨⟨d2, st2⟩, h1, h2⟩ := Option.map_eq_some_iff.mp hf
    by_cases hc : (st.length ≤ st2.length ∧ ∀ o, o ∈ st2.take st.length → O.blw st.length o) ∧ d2.blw st.length
    · rw [if_pos hc] at h2
      obtain ⟨⟨hg, ho⟩, hb⟩ := hc
      cases h2
      refine ⟨hl, θ, G, st, ds, _, _, S, r, h1, fun θ' G' H' v e S' rv => ?_⟩
      obtain ⟨l, rfl⟩ := e.pre
      have lθ : θ.length = st.length := S.len
      have S2 : Sim K θ G' H' (st2.take st.length) := ⟨S'.sub, by rw [List.length_take]; omega, S.nd, fun a m => S'.off a (List.mem_append_left _ m), fun i a o e1 e2 => by
        have hi : i < θ.length := (List.getElem?_eq_some_iff.mp e1).1
        have e3 : (θ ++ l)[i]? = some a := by rw [List.getElem?_append_left hi]; exact e1
        have e4 : st2[i]? = some o := by rw [List.getElem?_take_of_lt (by omega)] at e2; exact e2
        have q := S'.obj i a o e3 e4
        have hq := ho o (List.mem_of_getElem? e2)
        cases o with
        | lst es =>
          obtain ⟨ws, h3, h4⟩ := q
          exact ⟨ws, h3, Reps.back es ws (by rw [lθ]; exact hq) h4⟩
        | ins cn ns es =>
          obtain ⟨C, dx, ws, hc, h3, hl, h4⟩ := q
          exact ⟨C, dx, ws, hc, h3, hl, Reps.back es ws (by rw [lθ]; exact hq) h4⟩
        | dct ks es =>
          obtain ⟨ws, h3, hl, h4⟩ := q
          exact ⟨ws, h3, hl, Reps.back es ws (by rw [lθ]; exact hq) h4⟩, S'.tb, S'.tg⟩
      exact post θ G' H' v ⟨⟨[], by simp⟩, e.im, e.fr, fun a m n => absurd m n, e.nG⟩ S2 (Rep.back _ v (by rw [lθ]; exact hb) rv)
    · rw [if_neg hc] at h2
      cases h2
      exact ⟨hl, θ, G, st, ds, _, _, S, r, h1, post⟩
/-- every list of the store speaks of lists of the store -/
def Cl (st : Sto) : Prop := ∀ (i : Nat) (o : O), st[i]? = some o → O.blw st.length o
theorem wp_gcG {m : FC} {ds : List D} {st : Sto} {Q : D → Sto → Prop} (h : wp (m ds st) fun d s => (st.length ≤ s.length ∧ ∀ (i : Nat) (o : O), i < st.length → s[i]? = some o → O.blw st.length o) ∧ d.blw st.length ∧ Q d (s.take st.length)) : wp (gcG m ds st) Q := by
  obtain ⟨d, s, e, ⟨h1, h2⟩, b, q⟩ := h
  have hall : ∀ o, o ∈ s.take st.length → O.blw st.length o := fun o ho => by
    obtain ⟨i, hi⟩ := List.mem_iff_getElem?.mp ho
    have hlt : i < st.length := by
      have := (List.getElem?_eq_some_iff.mp hi).1
      rw [List.length_take] at this
      omega
    rw [List.getElem?_take_of_lt hlt] at hi
    exact h2 i o hlt hi
  refine ⟨d, s.take st.length, ?_, q⟩
  unfold gcG
  rw [e]
  simp only [Option.map_some]
  rw [if_pos ⟨⟨h1, hall⟩, b⟩]
/-! ## what may be raised -/
/-- an exception as data: its class's name, its field, the field's value -/
structure XD where
  cls : PySem.Str
  fld : PySem.Str
  val : D
inductive Out (α : Type) where
  | ok (a : α) | rz (x : XD)
inductive XFl where
  | fl (f : Fl) | rz (env : Env) (x : XD)
abbrev XFE := Env → Sto → Option (Out D × Sto)
abbrev XFA := Env → Sto → Option (Out (List D) × Sto)
abbrev XFS := Env → Sto → Option (XFl × Sto)
abbrev XFC := List D → Sto → Option (Out D × Sto)
def RepX (K : Frag) (H0 : Hp) (θ : List Addr) (G H : Hp) (cls : Value) (d : Option Addr) (x : XD) : Prop :=
  ∃ C dx v, cls = .ref C ∧ PySem.W.nsIn K PySem.mainGlobals x.cls = some (some (.ref C)) ∧ d = some dx ∧ H dx = some (.xd [(x.fld, v)]) ∧ H0 dx = none ∧ G dx = none ∧ dx ∉ θ ∧ Rep K θ G v x.val
def RzP [Tbs] (K : Frag) (W : WX) (θ : List Addr) (G H : Hp) (st' : Sto) (σ : L2.St) (x : XD) : Prop :=
  ∀ θ' G' H' cls d, Ext θ θ' G G' H H' → Sim K θ' G' H' st' → RepX K H θ' G' H' cls d x → W cls d σ H'
def OutE [Tbs] (K : Frag) (W : WX) (θ : List Addr) (G H : Hp) (st' : Sto) (σ : L2.St) (Q : VK) : Out D → Prop
  | .ok d => PostE K θ G H st' d Q
  | .rz x => RzP K W θ G H st' σ x
def OutA [Tbs] (K : Frag) (W : WX) (θ : List Addr) (G H : Hp) (st' : Sto) (σ : L2.St) (Q : List V → Hp → Prop) : Out (List D) → Prop
  | .ok ds => ∀ θ' G' H' vs, Ext θ θ' G G' H H' → Sim K θ' G' H' st' → Reps K θ' G' vs ds → Q vs H'
  | .rz x => RzP K W θ G H st' σ x
def tX [Tbs] (K : Frag) (W : WX) (f : XFE) : TE := fun σ H Q => ∃ θ G env st r st', Sim K θ G H st ∧ EnvR K θ G σ env ∧ f env st = some (r, st') ∧ OutE K W θ G H st' σ Q r
def tXA [Tbs] (K : Frag) (W : WX) (f : XFA) : TA := fun σ H Q => ∃ θ G env st r st', Sim K θ G H st ∧ EnvR K θ G σ env ∧ f env st = some (r, st') ∧ OutA K W θ G H st' σ Q r
def FlX (K : Frag) (W : WX) (H0 : Hp) (E : Ends) (θ : List Addr) (G H : Hp) : XFl → Prop
  | .fl f => FlP K E θ G H f
  | .rz env x => ∀ σ cls d, EnvR K θ G σ env → RepX K H0 θ G H cls d x → W cls d σ H
def tSX [Tbs] (K : Frag) (W : WX) (f : XFS) : TS := fun E σ H => ∃ θ G env st fl st', Sim K θ G H st ∧ EnvR K θ G σ env ∧ f env st = some (fl, st') ∧
  ∀ θ' G' H', Ext θ θ' G G' H H' → Sim K θ' G' H' st' → FlX K W H E θ' G' H' fl
section
variable {K : Frag} {W : WX} {θ θ1 : List Addr} {G G1 H H1 : Hp} {st st1 st' : Sto} {σ : L2.St} {env : Env} {Q : VK} {x : XD}
theorem Ext.back [Tbs] {a : Addr} (e : Ext θ θ1 G G1 H H1) (S : Sim K θ1 G1 H1 st1) (h : H1 a = none) : H a = none := by
  cases q : H a with
  | none => rfl
  | some o =>
    by_cases m : a ∈ θ
    · obtain ⟨l1, p1⟩ := e.pre
      obtain ⟨u, hu⟩ := S.there (a := a) (by rw [p1]; exact List.mem_append_left _ m)
      rw [hu] at h
      cases h
    · by_cases mt : a ∈ tbA
      · obtain ⟨ps, hps⟩ := S.isT mt
        rw [hps] at h
        cases h
      · rw [e.fr a o q m mt] at h
        cases h
theorem RepX.back [Tbs] {θ2 : List Addr} {G2 H2 : Hp} {cls : Value} {d : Option Addr} (e : Ext θ θ1 G G1 H H1) (S : Sim K θ1 G1 H1 st1) (r : RepX K H1 θ2 G2 H2 cls d x) : RepX K H θ2 G2 H2 cls d x := by
  obtain ⟨C, dx, v, r1, r2, r3, r4, r5, r6⟩ := r
  exact ⟨C, dx, v, r1, r2, r3, r4, e.back S r5, r6⟩
theorem RzP.after [Tbs] (p : RzP K W θ G H st' σ x) (e : Ext θ θ1 G G1 H H1) (S : Sim K θ1 G1 H1 st1) : RzP K W θ1 G1 H1 st' σ x := fun θ' G' H' cls d e' S' r => p θ' G' H' cls d (e.trans S e') S' (r.back e S)
theorem FlX.after [Tbs] {E : Ends} {fl : XFl} (e : Ext θ θ1 G G1 H H1) (S : Sim K θ1 G1 H1 st1) {θ2 : List Addr} {G2 H2 : Hp} (p : FlX K W H E θ2 G2 H2 fl) : FlX K W H1 E θ2 G2 H2 fl := by
  cases fl with
  | fl f => exact p
  | rz env x => exact fun σ cls d EN r => p σ cls d EN (r.back e S)
theorem tX.go [Tbs] {f : XFE} {r : Out D} (S : Sim K θ G H st) (EN : EnvR K θ G σ env) (hf : f env st = some (r, st1)) (k : ∀ d, r = .ok d → ∀ θ1 G1 H1 v1, Ext θ θ1 G G1 H H1 → Sim K θ1 G1 H1 st1 → EnvR K θ1 G1 σ env → Rep K θ1 G1 v1 d → Q v1 H1)
    (z : ∀ x, r = .rz x → RzP K W θ G H st1 σ x) : tX K W f σ H Q :=
  ⟨θ, G, env, st, r, st1, S, EN, hf, by
    cases r with
    | ok d => exact fun θ' G' H' v e s r => k d rfl θ' G' H' v e s (EN.ext e) r
    | rz x => exact z x rfl⟩
theorem tXA.go [Tbs] {f : XFA} {r : Out (List D)} {Q : List V → Hp → Prop} (S : Sim K θ G H st) (EN : EnvR K θ G σ env) (hf : f env st = some (r, st1)) (k : ∀ d, r = .ok d → ∀ θ1 G1 H1 v1, Ext θ θ1 G G1 H H1 → Sim K θ1 G1 H1 st1 → EnvR K θ1 G1 σ env → Reps K θ1 G1 v1 d → Q v1 H1)
    (z : ∀ x, r = .rz x → RzP K W θ G H st1 σ x) : tXA K W f σ H Q :=
  ⟨θ, G, env, st, r, st1, S, EN, hf, by
    cases r with
    | ok d => exact fun θ' G' H' v e s r => k d rfl θ' G' H' v e s (EN.ext e) r
    | rz x => exact z x rfl⟩
/-- the store's side of something raised -/
theorem FlX.rz [Tbs] {E : Ends} (p : ∀ θ' G' H', Ext θ θ' G G' H H' → Sim K θ' G' H' st' → FlX K W H E θ' G' H' (.rz env x)) (EN : EnvR K θ G σ env) : RzP K W θ G H st' σ x := fun θ' G' H' cls d e S r => p θ' G' H' e S σ cls d (EN.ext e) r
end
/-! ### expressions -/
def Xof (f : FE) : XFE := fun env st => (f env st).map fun p => (.ok p.1, p.2)
def XofA (f : FA) : XFA := fun env st => (f env st).map fun p => (.ok p.1, p.2)
def Xnil : XFA := fun _ st => some (.ok [], st)
def Xcons (f : XFE) (g : XFA) : XFA := fun env st => (f env st).bind fun p => match p.1 with
  | .rz x => some (.rz x, p.2)
  | .ok d => (g env p.2).bind fun q => match q.1 with
    | .rz x => some (.rz x, q.2)
    | .ok ds => some (.ok (d :: ds), q.2)
def Xtup (g : XFA) : XFE := fun env st => (g env st).bind fun p => match p.1 with
  | .rz x => some (.rz x, p.2)
  | .ok ds => if ds.length ≤ 16777216 then some (.ok (.tup ds), p.2) else none
/-- a call, or any function of the arguments' values, that may raise -/
def XC (m : XFC) (g : XFA) : XFE := fun env st => (g env st).bind fun p => match p.1 with
  | .rz x => some (.rz x, p.2)
  | .ok ds => m ds p.2
section
variable {X : Cx} {W : WX} {e : Expr} {es : List Expr} {f : FE} {g : FA} {fx : XFE} {gx : XFA} {pos : Pos}
theorem x_of [Tbs] (h : PE X e (tE X.K f)) : PE X e (tX X.K W (Xof f)) := peImp h fun σ H Q ⟨θ, G, env, st, r, st', S, EN, hf, post⟩ => by
  obtain ⟨⟨d, st1⟩, h1, h2⟩ := Option.map_eq_some_iff.mp hf
  cases h2
  exact ⟨θ, G, env, st, _, _, S, EN, h1, post⟩
theorem xa_of [Tbs] (h : PA X es (tA X.K g)) : PA X es (tXA X.K W (XofA g)) := paImp h fun σ H Q ⟨θ, G, env, st, r, st', S, EN, hf, post⟩ => by
  obtain ⟨⟨d, st1⟩, h1, h2⟩ := Option.map_eq_some_iff.mp hf
  cases h2
  exact ⟨θ, G, env, st, _, _, S, EN, h1, post⟩
theorem xa_nil [Tbs] : PA X [] (tXA X.K W Xnil) := paImp pa_nil fun σ H Q ⟨θ, G, env, st, r, st', S, EN, hf, post⟩ => by
  cases hf
  exact post θ G H [] .refl S .nil
theorem xa_cons [Tbs] (ha : PE X e (tX X.K W fx)) (hr : PA X es (tXA X.K W gx)) (hs : starEach (e :: es) X.env = (false, eval e X.env) :: starEach es X.env := by rfl) : PA X (e :: es) (tXA X.K W (Xcons fx gx)) :=
  paImp (pa_cons ha hr hs) fun σ H Q ⟨θ, G, env, st, r, st', S, EN, hf, post⟩ => by
    obtain ⟨⟨r1, st1⟩, h1, h2⟩ := Option.bind_eq_some_iff.mp hf
    refine tX.go S EN h1 (fun d e1 θ1 G1 H1 v1 x1 S1 EN1 rv => ?_) fun x ex => ?_
    · subst e1
      obtain ⟨⟨r2, st2⟩, h3, h4⟩ := Option.bind_eq_some_iff.mp h2
      refine tXA.go S1 EN1 h3 (fun ds e2 θ2 G2 H2 v2 x2 S2 EN2 rv2 => ?_) fun x ex => ?_
      · subst e2
        cases h4
        exact post _ _ _ _ (x1.trans S1 x2) S2 (.cons (rv.ext x2) rv2)
      · subst ex
        cases h4
        exact RzP.after post x1 S1
    · subst ex
      cases h2
      exact post
theorem x_tp [Tbs] {k : Nat} {p : Pos} (h : PA X es (tXA X.K W gx)) : PE X (.Tuple es k p) (tX X.K W (Xtup gx)) := peImp (pe_tup h) fun σ H Q ⟨θ, G, env, st, r, st', S, EN, hf, post⟩ => by
  obtain ⟨⟨r1, st1⟩, h1, h2⟩ := Option.bind_eq_some_iff.mp hf
  refine tXA.go S EN h1 (fun ds e1 θ1 G1 H1 vs x1 S1 EN1 rv => ?_) fun x ex => ?_
  · subst e1
    dsimp only at h2
    split at h2
    · rename_i hl
      cases h2
      refine ⟨by rw [rv.len]; exact szl hl, fun p hp => ?_⟩
      exact PostE.newT (fun θ' G' H' v e s r => post _ _ _ _ (x1.trans S1 e) s r) S1 hp rv
    · cases h2
  · subst ex
    cases h2
    exact post
end
/-! ### defs that may raise -/
def spX [Tbs] (K : Frag) (np : Nat) (f : XFC) : Sp := fun vs H Q E => vs.length = np ∧ ∃ θ G st ds r st', Sim K θ G H st ∧ Reps K θ G vs ds ∧ f ds st = some (r, st') ∧ OutE K (fun cls d _ H => E cls d H) θ G H st' [] Q r
def runX (n : Nat) (body : XFS) : XFC := fun ds st => (body (ds.map some ++ List.replicate (n - ds.length) none) st).bind fun p => match p.1 with
  | .fl (.rt d) => some (.ok d, p.2)
  | .fl (.nx _) => some (.ok .non, p.2)
  | .rz _ x => some (.rz x, p.2)
  | _ => none
section
variable {P : Program} {w : World} {K : Frag} {mg : PySem.Str → Option Value} {base : Heap}
theorem tSX.go [Tbs] {K : Frag} {W : WX} {θ : List Addr} {G H : Hp} {st st1 : Sto} {σ : L2.St} {env : Env} {fl : XFl} {f : XFS} {E : Ends} (S : Sim K θ G H st) (EN : EnvR K θ G σ env) (hf : f env st = some (fl, st1))
    (k : ∀ θ1 G1 H1, Ext θ θ1 G G1 H H1 → Sim K θ1 G1 H1 st1 → FlX K W H E θ1 G1 H1 fl) : tSX K W f E σ H := ⟨θ, G, env, st, fl, st1, S, EN, hf, k⟩
theorem fn_okX [Tbs] {x qual : PySem.Str} {st : Stmt} {f : Addr} {fd : FuncData} {N ps : List PySem.Str} {k : Nat} {fb : XFS} (F : Fun K x qual st f fd) (S : FnScope N ps (defScope st))
    (hbody : ∀ (cdv : Value) (A : Around) (outer : List PySem.Env) (s : Shared) (H : Hp) (E : XK) (W : WX), Room k (A.deeper (envOfC qual (defScope st) s.heap.objs.size f cdv)) → Takes (cxOf (L2.CX P w) P w K mg base N qual (defScope st) f cdv A outer s H E) W →
      PSs (cxOf (L2.CX P w) P w K mg base N qual (defScope st) f cdv A outer s H E) (defBody st) (tSX K W fb)) : FnOk P w K mg base (L2.CX P w) (k + 1) f fd ps (spX K ps.length (runX N.length fb)) := by
  refine F.okX S (fun vs H Q E h => h.1) (fun cdv A outer s H vs Q E hr h => ⟨_, hbody cdv A outer s H E (fun cls d _ H => E cls d H) hr (takes_of rfl rfl rfl rfl), ?_⟩)
  obtain ⟨hl, θ, G, sto, ds, d, st', S', r, hf, post⟩ := h
  obtain ⟨⟨fl, st2⟩, h1, h2⟩ := Option.bind_eq_some_iff.mp hf
  refine tSX.go S' (start_rep r N) h1 fun θ1 G1 H1 e1 S1 => ?_
  cases fl with
  | fl fl =>
    cases fl with
    | nx env => cases h2; exact fun σ _ => post _ _ _ _ e1 S1 .non
    | rt d' => cases h2; exact fun v r => post _ _ _ _ e1 S1 r
    | bk _ => cases h2
    | ct _ => cases h2
  | rz env x =>
    cases h2
    exact fun σ cls d _ r => post _ _ _ _ _ e1 S1 r
end
def arX (n : Nat) (m : XFC) : XFC := fun ds st => if ds.length = n then m ds st else none
theorem arX.len {n : Nat} {m : XFC} : ∀ ds st r, arX n m ds st = some r → ds.length = n := fun ds st r h => by
  unfold arX at h
  split at h
  · assumption
  · cases h
theorem sp_arX [Tbs] {P : Program} {w : World} {K : Frag} {mg : PySem.Str → Option Value} {base : Heap} {CX : CXT} {k n : Nat} {f : Addr} {fd : FuncData} {ps : List PySem.Str} {m : XFC} (F : FnOk P w K mg base CX k f fd ps (spX K n m)) : FnOk P w K mg base CX k f fd ps (spX K n (arX n m)) :=
  F.imp fun vs H Q E ⟨hl, θ, G, st, ds, d, st', S, r, hf, post⟩ => ⟨hl, θ, G, st, ds, d, st', S, r, (by
    unfold arX at hf
    split at hf
    · exact hf
    · cases hf), post⟩
def Out.blw (n : Nat) : Out D → Prop
  | .ok d => d.blw n
  | .rz x => x.val.blw n
open Classical in
/-- what a call leaves in the store alone is dropped -/
noncomputable def gcX (m : XFC) : XFC := fun ds st => (m ds st).map fun p => if (∃ g, p.2 = st ++ g) ∧ p.1.blw st.length then (p.1, st) else p
theorem gcX.of {m : XFC} {ds : List D} {st g : Sto} {d : D} (h : m ds st = some (.ok d, st ++ g)) (b : D.blw st.length d) : gcX m ds st = some (.ok d, st) := by
  unfold gcX
  rw [h]
  simp only [Option.map_some]
  rw [if_pos ⟨⟨g, rfl⟩, b⟩]
theorem gcX.ofz {m : XFC} {ds : List D} {st g : Sto} {x : XD} (h : m ds st = some (.rz x, st ++ g)) (b : D.blw st.length x.val) : gcX m ds st = some (.rz x, st) := by
  unfold gcX
  rw [h]
  simp only [Option.map_some]
  rw [if_pos ⟨⟨g, rfl⟩, b⟩]
theorem gc_sim [Tbs] {K : Frag} {θ l : List Addr} {G H G' H' : Hp} {st g : Sto} (S : Sim K θ G H st) (S' : Sim K (θ ++ l) G' H' (st ++ g)) : Sim K θ G' H' st := by
  have lθ : θ.length = st.length := S.len
  exact ⟨S'.sub, S.len, S.nd, fun a m => S'.off a (List.mem_append_left _ m), fun i a o e1 e2 => by
    have hi : i < θ.length := (List.getElem?_eq_some_iff.mp e1).1
    have e3 : (θ ++ l)[i]? = some a := by rw [List.getElem?_append_left hi]; exact e1
    have e4 : (st ++ g)[i]? = some o := by rw [List.getElem?_append_left (by omega)]; exact e2
    have q := S'.obj i a o e3 e4
    have q0 := S.obj i a o e1 e2
    cases o with
    | lst es =>
      obtain ⟨ws, h3, h4⟩ := q
      obtain ⟨ws0, _, h5⟩ := q0
      exact ⟨ws, h3, Reps.back es ws (Reps.blw es ws0 h5) h4⟩
    | ins cn ns es =>
      obtain ⟨C, dx, ws, hc, h3, hl, h4⟩ := q
      obtain ⟨_, _, ws0, _, _, _, h5⟩ := q0
      exact ⟨C, dx, ws, hc, h3, hl, Reps.back es ws (Reps.blw es ws0 h5) h4⟩
    | dct ks es =>
      obtain ⟨ws, h3, hl, h4⟩ := q
      obtain ⟨ws0, _, _, h5⟩ := q0
      exact ⟨ws, h3, hl, Reps.back es ws (Reps.blw es ws0 h5) h4⟩, S'.tb, S'.tg⟩
theorem sp_gcX [Tbs] {P : Program} {w : World} {K : Frag} {mg : PySem.Str → Option Value} {base : Heap} {CX : CXT} {k n : Nat} {f : Addr} {fd : FuncData} {ps : List PySem.Str} {m : XFC} (F : FnOk P w K mg base CX k f fd ps (spX K n m)) : FnOk P w K mg base CX k f fd ps (spX K n (gcX m)) :=
  F.imp fun vs H Q E ⟨hl, θ, G, st, ds, d, st', S, r, hf, post⟩ => by
    obtain ⟨⟨d2, st2⟩, h1, h2⟩ := Option.map_eq_some_iff.mp hf
    by_cases hc : (∃ g, st2 = st ++ g) ∧ d2.blw st.length
    · rw [if_pos hc] at h2
      obtain ⟨⟨g, hg⟩, hb⟩ := hc
      cases h2
      subst hg
      refine ⟨hl, θ, G, st, ds, _, _, S, r, h1, ?_⟩
      cases d2 with
      | ok d =>
        intro θ' G' H' v e S' rv
        obtain ⟨l, rfl⟩ := e.pre
        exact post θ G' H' v ⟨⟨[], by simp⟩, e.im, e.fr, fun a m n => absurd m n, e.nG⟩ (gc_sim S S') (Rep.back _ v (by rw [S.len]; exact hb) rv)
      | rz x =>
        intro θ' G' H' cls d e S' rx
        obtain ⟨l, rfl⟩ := e.pre
        obtain ⟨C, dx, v, r1, r2, r3, r4, r0, r5, r6, r7⟩ := rx
        exact post θ G' H' cls d ⟨⟨[], by simp⟩, e.im, e.fr, fun a m n => absurd m n, e.nG⟩ (gc_sim S S') ⟨C, dx, v, r1, r2, r3, r4, r0, r5, fun z => r6 (List.mem_append_left _ z), Rep.back _ v (by rw [S.len]; exact hb) r7⟩
    · rw [if_neg hc] at h2
      cases h2
      exact ⟨hl, θ, G, st, ds, _, _, S, r, h1, post⟩
section
variable {X : Cx} {W : WX} {e : Expr} {es : List Expr} {g : XFA} {pos p : Pos} {x : PySem.Str} {k np : Nat} {f : Addr} {fd : FuncData} {ps : List PySem.Str} {m : XFC}
theorem goX [Tbs] (hl : ∀ ds st r, m ds st = some r → ds.length = np) {σ : L2.St} {H : Hp} {Q : VK} (h : tX X.K W (XC m g) σ H Q) : tCallS (spX X.K np m) (WE W) (tXA X.K W g) σ H Q := by
  obtain ⟨θ, G, env, st, d, st', S, EN, hf, post⟩ := h
  obtain ⟨⟨xs, st1⟩, h1, h2⟩ := Option.bind_eq_some_iff.mp hf
  refine tXA.go S EN h1 (fun ds e1 θ1 G1 H1 v1 x1 S1 EN1 r1 => ?_) fun x ex => ?_
  · subst e1
    refine ⟨by rw [r1.len]; exact hl _ _ _ h2, θ1, G1, st1, ds, d, st', S1, r1, h2, ?_⟩
    cases d with
    | ok d => exact fun θ' G' H' v e s r => post _ _ _ _ (x1.trans S1 e) s r
    | rz x => exact RzP.after post x1 S1
  · subst ex
    cases h2
    exact post
theorem x_fn [Tbs] (tk : Takes X W) (F : FnOk X.prog X.w X.K X.mg X.base (L2.CX X.prog X.w) k f fd ps (spX X.K np m)) (hr : Room k X.A) (hg : Gl X x) (hm : X.mg x = some (.ref f)) (hk : PySem.W.keepIn X.K (.ref f) = true) (hb : Binds X.K fd ps []) (ha : PA X (e :: es) (tXA X.K W g))
    (hdb : (x == ("__debug__" : PySem.Str)) = false := by decide) (he : starEach (e :: es) X.env = (false, eval e X.env) :: starEach es X.env := by rfl) (hpl : (backTo pos (starEach es X.env)).any (·.1) = false := by rfl) :
    PE X (.Call (.Name x p) (e :: es) [] pos) (tX X.K W (XC (arX np m) g)) :=
  peImp (pe_callS (sp_arX F) hr hg hm hk hb (passAt tk) ha hdb he hpl) fun _ _ _ h => goX arX.len h
end
/-! ### statements -/
def XSof (f : FS) : XFS := fun env st => (f env st).map fun p => (.fl p.1, p.2)
def XSnil : XFS := fun env st => some (.fl (.nx env), st)
def XSseq (f g : XFS) : XFS := fun env st => (f env st).bind fun p => match p.1 with | .fl (.nx e) => g e p.2 | r => some (r, p.2)
def XSret (f : XFE) : XFS := fun env st => (f env st).bind fun p => match p.1 with | .ok d => some (.fl (.rt d), p.2) | .rz x => some (.rz env x, p.2)
def XSexp (f : XFE) : XFS := fun env st => (f env st).bind fun p => match p.1 with | .ok d => some (.fl (.nx env), p.2) | .rz x => some (.rz env x, p.2)
def XSset (i : Nat) (f : XFE) : XFS := fun env st => (f env st).bind fun p => match p.1 with | .ok d => some (.fl (.nx (env.set i (some d))), p.2) | .rz x => some (.rz env x, p.2)
def XSbind (t : Tg) (f : XFE) : XFS := fun env st => (f env st).bind fun p => match p.1 with | .ok d => (bindT t d env).map fun e => (.fl (.nx e), p.2) | .rz x => some (.rz env x, p.2)
def XSif (c : FT) (f g : XFS) : XFS := fun env st => (c env st).bind fun p => if p.1 = true then f env p.2 else g env p.2
def XSraise (cn fld : PySem.Str) (g : FA) : XFS := fun env st => (g env st).bind fun p => match p.1 with | [v] => some (.rz env ⟨cn, fld, v⟩, p.2) | _ => none
noncomputable def forX (w : Watch) (t : Tg) (body : XFS) : List D → Env → Sto → Option (XFl × Sto)
  | [], env, st => open Classical in if watchOk w st then some (.fl (.nx env), st) else none
  | x :: xs, env, st => open Classical in if watchOk w st then (bindT t x env).bind fun e => (body e st).bind fun p => match p.1 with
    | .fl (.nx e') => forX w t body xs e' p.2
    | .fl (.ct e') => forX w t body xs e' p.2
    | .fl (.bk e') => some (.fl (.nx e'), p.2)
    | .fl (.rt d) => some (.fl (.rt d), p.2)
    | .rz e' x => some (.rz e' x, p.2)
    else none
noncomputable def XSfor (fi : FI) (t : Tg) (body : XFS) : XFS := fun env st => (fi env st).bind fun p => forX p.2.1 t body p.1 env p.2.2
section
variable {X : Cx} {W : WX} {s : Stmt} {rest a b : List Stmt} {f g : XFS} {fx : XFE} {e tg c : Expr} {pos : Pos}
theorem xs_of [Tbs] {f : FS} (h : PS X s (tS X.K f)) : PS X s (tSX X.K W (XSof f)) := psImp h fun E σ H ⟨θ, G, env, st, r, st', S, EN, hf, post⟩ => by
  obtain ⟨⟨d, st1⟩, h1, h2⟩ := Option.map_eq_some_iff.mp hf
  cases h2
  exact ⟨θ, G, env, st, _, _, S, EN, h1, post⟩
theorem xss_of [Tbs] {f : FS} (h : PSs X rest (tS X.K f)) : PSs X rest (tSX X.K W (XSof f)) := pssImp h fun E σ H ⟨θ, G, env, st, r, st', S, EN, hf, post⟩ => by
  obtain ⟨⟨d, st1⟩, h1, h2⟩ := Option.map_eq_some_iff.mp hf
  cases h2
  exact ⟨θ, G, env, st, _, _, S, EN, h1, post⟩
theorem xs_nil [Tbs] : PSs X [] (tSX X.K W XSnil) := pssImp pss_nil fun E σ H ⟨θ, G, env, st, d, st', S, EN, hf, post⟩ => by
  cases hf
  exact post θ G H .refl S σ EN
theorem xs_one [Tbs] (h : PS X s (tSX X.K W f)) : PSs X [s] (tSX X.K W f) := pss_one h
theorem xs_cons [Tbs] (h : PS X s (tSX X.K W f)) (hr : PSs X rest (tSX X.K W g)) : PSs X (s :: rest) (tSX X.K W (XSseq f g)) :=
  pssImp (pss_cons h hr) fun E σ H ⟨θ, G, env, st, fl, st', S, EN, hf, post⟩ => by
    obtain ⟨⟨fl1, st1⟩, h1, h2⟩ := Option.bind_eq_some_iff.mp hf
    refine tSX.go S EN h1 fun θ1 G1 H1 e1 S1 => ?_
    cases fl1 with
    | rz env1 x => cases h2; exact post _ _ _ e1 S1
    | fl fl1 =>
      cases fl1 with
      | nx env1 => exact fun σ1 EN1 => tSX.go S1 EN1 h2 fun θ2 G2 H2 e2 S2 => (post _ _ _ (e1.trans S1 e2) S2).after e1 S1
      | rt d => cases h2; exact post _ _ _ e1 S1
      | bk d => cases h2; exact post _ _ _ e1 S1
      | ct d => cases h2; exact post _ _ _ e1 S1
theorem xs_ret [Tbs] (h : PE X e (tX X.K W fx)) : PS X (.Return (some e) pos) (tSX X.K W (XSret fx)) := psImp (ps_ret h) fun E σ H ⟨θ, G, env, st, d, st', S, EN, hf, post⟩ => by
  obtain ⟨⟨r, st1⟩, h1, h2⟩ := Option.bind_eq_some_iff.mp hf
  refine tX.go S EN h1 (fun d e1 θ1 G1 H1 v1 x1 S1 EN1 r1 => ?_) fun x ex => ?_
  · subst e1; cases h2; exact post _ _ _ x1 S1 v1 r1
  · subst ex; cases h2; exact FlX.rz post EN
theorem xs_exp [Tbs] (h : PE X e (tX X.K W fx)) (hs : swapsWith e none pos.line X.env = pure false := by rfl) : PS X (.Expr e pos) (tSX X.K W (XSexp fx)) := psImp (ps_expr h hs) fun E σ H ⟨θ, G, env, st, d, st', S, EN, hf, post⟩ => by
  obtain ⟨⟨r, st1⟩, h1, h2⟩ := Option.bind_eq_some_iff.mp hf
  refine tX.go S EN h1 (fun d e1 θ1 G1 H1 v1 x1 S1 EN1 r1 => ?_) fun x ex => ?_
  · subst e1; cases h2; exact post _ _ _ x1 S1 σ EN1
  · subst ex; cases h2; exact FlX.rz post EN
theorem xs_set [Tbs] {i : Nat} {x : PySem.Str} {pos' : Pos} (hN : X.N.Nodup) (h : PE X e (tX X.K W fx)) (hi : X.N[i]? = some x := by rfl) (hx : Loc X.env.scope x := by first | exact Or.inl rfl | exact Or.inr rfl) (hs : swapsWith e (some (.Name x pos')) pos.line X.env = pure false := by rfl)
    (hf : X.fn x = true ∨ X.env.scope.names.lookup x = some .local := by first | exact .inl rfl | exact .inr rfl) : PS X (.Assign [.Name x pos'] e pos) (tSX X.K W (XSset i fx)) :=
  psImp (ps_set hN hi hx h hs hf) fun E σ H ⟨θ, G, env, st, d, st', S, EN, hf, post⟩ => by
  obtain ⟨⟨r, st1⟩, h1, h2⟩ := Option.bind_eq_some_iff.mp hf
  refine tX.go S EN h1 (fun d e1 θ1 G1 H1 v1 x1 S1 EN1 r1 => ?_) fun x ex => ?_
  · subst e1; cases h2; exact post _ _ _ x1 S1 _ (EN1.set r1 i)
  · subst ex; cases h2; exact FlX.rz post EN
theorem xs_bind [Tbs] {t : Tg} (he : PE X e (tX X.K W fx)) (hg : PG X tg (tG X.K t)) (hs : swapsWithSole [tg] e pos.line X.env = pure false := by rfl) (hw : swappedStores [tg] e X.env = pure none := by rfl) (h1 : (assignEach [tg] X.env).map (·.2) = [assign tg X.env] := by rfl) : PS X (.Assign [tg] e pos) (tSX X.K W (XSbind t fx)) :=
  psImp (ps_asg he hg hs hw h1) fun E σ H ⟨θ, G, env, st, d, st', S, EN, hf, post⟩ => by
  obtain ⟨⟨r, st1⟩, h1, h2⟩ := Option.bind_eq_some_iff.mp hf
  refine tX.go S EN h1 (fun d e1 θ1 G1 H1 v1 x1 S1 EN1 r1 => ?_) fun x ex => ?_
  · subst e1
    obtain ⟨env', h3, h4⟩ := Option.map_eq_some_iff.mp h2
    cases h4
    exact ⟨θ1, G1, _, env, d, env', S1, EN1, r1, h3, fun σ' EN' _ => post _ _ _ x1 S1 σ' EN'⟩
  · subst ex; cases h2; exact FlX.rz post EN
theorem xs_if [Tbs] {gc : FT} (hc : PT X c (tT X.K gc)) (ha : PSs X a (tSX X.K W f)) (hb : PSs X b (tSX X.K W g)) : PS X (.If c a b pos) (tSX X.K W (XSif gc f g)) :=
  psImp (ps_if hc ha hb) fun E σ H ⟨θ, G, env, st, fl, st', S, EN, hf, post⟩ => by
    obtain ⟨⟨x, st1⟩, h1, h2⟩ := Option.bind_eq_some_iff.mp hf
    refine tT.go S EN h1 fun θ1 G1 H1 e1 S1 EN1 => ?_
    cases x with
    | true =>
      rw [if_pos rfl] at h2 ⊢
      exact tSX.go S1 EN1 h2 fun θ2 G2 H2 e2 S2 => (post _ _ _ (e1.trans S1 e2) S2).after e1 S1
    | false =>
      rw [if_neg Bool.false_ne_true] at h2 ⊢
      exact tSX.go S1 EN1 h2 fun θ2 G2 H2 e2 S2 => (post _ _ _ (e1.trans S1 e2) S2).after e1 S1
theorem forX.watch {w : Watch} {t : Tg} {body : XFS} {xs : List D} {env : Env} {st : Sto} {r : XFl × Sto} (h : forX w t body xs env st = some r) : watchOk w st := by
  cases xs with
  | nil =>
    unfold forX at h
    split at h
    · assumption
    · cases h
  | cons x xs =>
    unfold forX at h
    split at h
    · assumption
    · cases h
theorem xs_for [Tbs] {tg iter : Expr} {b : List Stmt} {fi : FI} {t : Tg} {fb : XFS} (hp : PassesOwn (model X.prog X.w) X.A X.env X.xe) (hc : X.calm = true) (hi : PI X tg iter (tI X.K fi)) (hg : PG X tg (tG X.K t)) (hb : PSs X b (tSX X.K W fb))
    (hs : ∀ x, foldedSetIterable iter X.env x = pure x := by intro _; rfl) : PS X (.For tg iter b [] pos) (tSX X.K W (XSfor fi t fb)) :=
  psImp (ps_for hp hc hi hg hb hs) fun E σ H ⟨θ, G, env, st, fl, st', S, EN, hf, post⟩ => by
    obtain ⟨⟨items, w, st1⟩, h1, h2⟩ := Option.bind_eq_some_iff.mp hf
    dsimp only at h2
    refine ⟨θ, G, env, st, items, w, st1, S, EN, h1, fun θ1 G1 H1 J e1 S1 ⟨Gd, Y, wk, w1, w2⟩ => ?_⟩
    refine for_it wk (fun i σ' H' => ∃ θ' G' env' st2, Ext θ1 θ' G1 G' H1 H' ∧ Sim X.K θ' G' H' st2 ∧ EnvR X.K θ' G' σ' env' ∧ forX w t fb (items.drop i) env' st2 = some (fl, st'))
      ⟨θ1, G1, env, st1, .refl, S1, EN.ext e1, h2⟩ ?_ ?_ ?_
    · rintro i σ' H' _ ⟨θ', G', env', st2, e2, S2, EN2, h3⟩
      exact w1 _ _ _ _ e2.pre e2.im S2 (forX.watch h3)
    · rintro i x σ' H2 H3 hi ⟨θ', G', env', st2, e2, S2, EN2, h3⟩ hY
      obtain ⟨G3, e3, S3, d, hd, rd⟩ := w2 i x H2 H3 θ' G' st2 hi e2.pre e2.im S2 (forX.watch h3) hY
      have hdr : items.drop i = d :: items.drop (i + 1) := by
        have hd' := (List.getElem?_eq_some_iff.mp hd).2
        rw [List.drop_eq_getElem_cons hi, hd']
      rw [hdr] at h3
      unfold forX at h3
      split at h3
      · obtain ⟨env1, h4, h5⟩ := Option.bind_eq_some_iff.mp h3
        obtain ⟨⟨fl1, st3⟩, h6, h7⟩ := Option.bind_eq_some_iff.mp h5
        refine ⟨θ', G3, st2, env', d, env1, S3, EN2.ext e3, rd, h4, fun σ2 EN3 _ => ?_⟩
        refine tSX.go S3 EN3 h6 fun θ4 G4 H4 e4 S4 => ?_
        have e13 := e2.trans S2 e3
        have e14 := e13.trans S3 e4
        cases fl1 with
        | rz e x =>
          cases h7
          exact FlX.after (e1.trans S1 e13) S3 (post _ _ _ (e1.trans S1 e14) S4)
        | fl fl1 =>
          cases fl1 with
          | nx e => exact fun σ4 EN4 => ⟨θ4, G4, e, st3, e14, S4, EN4, h7⟩
          | ct e => exact fun σ4 EN4 => ⟨θ4, G4, e, st3, e14, S4, EN4, h7⟩
          | bk e =>
            cases h7
            exact fun σ4 EN4 => post _ _ _ (e1.trans S1 e14) S4 σ4 EN4
          | rt d' =>
            cases h7
            exact fun v r => post _ _ _ (e1.trans S1 e14) S4 v r
      · cases h3
    · rintro σ' H' ⟨θ', G', env', st2, e2, S2, EN2, h3⟩
      rw [List.drop_length] at h3
      unfold forX at h3
      split at h3
      · cases h3
        exact post _ _ _ (e1.trans S1 e2) S2 σ' EN2
      · cases h3
theorem xs_raise [Tbs] {cn fld : PySem.Str} {C fI : Addr} {ga : FA} {p pos2 : Pos} {k : Nat} (tk : Takes X W) (T : SUP.ExT X.prog X.K cn fld C fI) (hr : Room k X.A) (ha : PA X [e] (tA X.K ga)) (hg : Gl X cn) (hc : X.calm = true := by rfl) (hd : (cn == ("__debug__" : PySem.Str)) = false := by decide)
    (he : starEach (e :: []) X.env = (false, eval e X.env) :: starEach [] X.env := by rfl) (hpl : (backTo pos (starEach [] X.env)).any (·.1) = false := by rfl) :
    PS X (.Raise (some (.Call (.Name cn p) [e] [] pos)) none pos2) (tSX X.K W (XSraise cn fld ga)) :=
  psImp (ps_raise hc tk (SUP.pmk_e T hr ha hg hd he hpl)) fun E σ H ⟨θ, G, env, st, d, st', S, EN, hf, post⟩ => by
    obtain ⟨⟨ds, st1⟩, h1, h2⟩ := Option.bind_eq_some_iff.mp hf
    refine tA.go S EN h1 fun θ1 G1 H1 vs e1 S1 EN1 r1 => ?_
    dsimp only at h2
    split at h2
    · cases h2
      cases r1 with
      | cons rv rn =>
        cases rn
        refine ⟨_, rfl, fun dx hdx => ?_⟩
        have nG : G1 dx = none := S1.gnone hdx
        have nθ : dx ∉ θ1 := fun z => S1.ne hdx z rfl
        exact FlX.rz post EN _ _ _ _ _ (e1.trans S1 (Ext.other .refl hdx (.xd _))) (S1.other nG nθ (.inl hdx) (.xd _)) ⟨C, dx, _, rfl, T.gC, rfl, upd_same, e1.back S1 hdx, nG, nθ, rv⟩
    · cases h2
end
/-! ### try: .. except C as e: .. -/
structure EA where
  a : Addr
  C : Addr
  dx : Addr
open Classical in
/-- the body raises only cn; the suite returns, whatever the exception's place -/
noncomputable def Stry (i : Nat) (cn : PySem.Str) (fb : XFS) (fh : EA → FS) : FS := fun env st => (fb env st).bind fun p => match p.1 with
  | .fl fl => some (fl, p.2)
  | .rz env1 x => if x.cls = cn then (if h : ∃ r : D × Sto, ∀ q : EA, fh q (env1.set i (some (.exc q.a q.C q.dx x.cls x.fld x.val))) p.2 = some (.rt r.1, r.2) then some (.rt (Classical.choose h).1, (Classical.choose h).2) else none) else none
section
variable {X : Cx} {x n : PySem.Str} {c : Value} {i : Nat} {body suite : List Stmt} {b₀ : Stmt} {np pos pos' : Pos} {cn : PySem.Str} {C0 : Addr} {fb : XFS} {fh : EA → FS}
theorem k_try [Tbs] (hN : X.N.Nodup) (hc : Names X x c) (hC : PySem.W.nsIn X.K PySem.mainGlobals cn = some (some (.ref C0))) (hex : PySem.W.exmOne X.K (.ref C0) c = some true)
    (hb : ∀ (W : WX) (pn : List (Addr × Obj)) (xe : Value → Shared → Prop), Takes (X.tr pn xe) W → PassesOwn (model X.prog X.w) X.A X.env xe → PSs (X.tr pn xe) body (tSX X.K W fb))
    (hsu : ∀ (q : EA) (oe : Obj) (pn : List (Addr × Obj)), q.C = C0 → Zc (.ref q.C) (some q.dx) oe → (∃ vs, oe.data = .fields vs) → PSs (X.suite q.a ((q.a, oe) :: pn)) (b₀ :: suite) (tS X.K (fh q)))
    (hi : X.N[i]? = some n := by rfl) (hln : X.env.kindOf n = some .local := by rfl) (hs : X.stack = X.env :: X.outer := by rfl) (hf : X.env.frame = some X.env.locals := by rfl) :
    PS X (.Try body [.ExceptHandler (some (.Name x np)) (some n) (b₀ :: suite) pos'] [] [] pos) (tS X.K (Stry i cn fb fh)) := by
  refine psImp (ps_try_as (i := i) (tb := fun W => tSX X.K W fb) (Wout := fun _ _ _ _ => False)
    (ts := fun a cls d D σ H => ∃ dx, cls = .ref C0 ∧ d = some dx ∧ tS X.K (fh ⟨a, C0, dx⟩) D σ H) hs hf hN hi hln hc takes0 (fun W pn xe => hb W pn xe) fun a oe cls d pn hz hd => ⟨fun pins s σ H D I h => ?_⟩) fun E σ H ⟨θ, G, env, st, fl, st', S, EN, hf, post⟩ => ?_
  · obtain ⟨dx, rfl, rfl, h⟩ := h
    exact (hsu ⟨a, C0, dx⟩ oe pn rfl hz hd).run pins s σ H D I h
  · obtain ⟨⟨r, st1⟩, h1, h2⟩ := Option.bind_eq_some_iff.mp hf
    refine tSX.go S EN h1 fun θ1 G1 H1 e1 S1 => ?_
    cases r with
    | fl fl1 => cases h2; exact post _ _ _ e1 S1
    | rz env1 x =>
      dsimp only at h2
      split at h2
      · rename_i hcn
        split at h2
        · rename_i hr
          cases h2
          intro σ' cls d EN1 rx
          obtain ⟨C, dx, v, r1, r2, r3, r4, r0, r5, r6, r7⟩ := rx
          rw [hcn, hC] at r2
          cases r2
          refine ⟨true, by rw [r1]; exact hex, fun _ a ha => ⟨dx, r1, r3, ?_⟩, fun z => nomatch z⟩
          have S2 := S1.freeze r5 r6 r4 (fun _ z => by cases z)
          have e2 := e1.freeze r0 r5 (.xd [(x.fld, v)])
          have g2 : Gle G1 (upd G1 dx (.xd [(x.fld, v)])) := fun b u hb => by
            have z : b ≠ dx := fun z => by rw [z, r5] at hb; cases hb
            rw [upd_ne z]; exact hb
          have rv : Rep X.K θ1 (upd G1 dx (.xd [(x.fld, v)])) (.ref a) (.exc a C0 dx x.cls x.fld x.val) := .exc (by rw [hcn]; exact hC) upd_same (r7.mono ⟨[], by simp⟩ g2 _ _)
          have EN2 : EnvR X.K θ1 (upd G1 dx (.xd [(x.fld, v)])) σ' env1 := ⟨EN1.1, fun j d hj => by
            obtain ⟨w, h3, h4⟩ := EN1.2 j d hj
            exact ⟨w, h3, h4.mono ⟨[], by simp⟩ g2 _ _⟩⟩
          have hq := Classical.choose_spec hr ⟨a, C0, dx⟩
          exact tS.go S2 (EN2.set rv i) hq fun θ3 G3 H3 e3 S3 => post _ _ _ (e2.trans S2 e3) S3
        · cases h2
      · cases h2
/-- e.f of the exception that the suite holds -/
def exfD (q : EA) (n : PySem.Str) : D → Sto → Option (D × Sto) := fun x st => match x with
  | .exc a C dx cn fld v => if a = q.a ∧ C = q.C ∧ dx = q.dx ∧ fld = n then some (v, st) else none
  | _ => none
theorem c_exf [Tbs] {P : Program} {q : EA} {oe : Obj} {pn : List (Addr × Obj)} {e : Expr} {fe : FE} {fld : PySem.Str} {fI : Addr} (T : SUP.ExT P X.K cn fld C0 fI) (hq : q.C = C0) (hz : Zc (.ref q.C) (some q.dx) oe) (hf : ∃ vs, oe.data = .fields vs) (he : PE (X.suite q.a ((q.a, oe) :: pn)) e (tE X.K fe))
    (hb : attributeBase e fld X.env (eval e X.env) = eval e X.env := by rfl) : PE (X.suite q.a ((q.a, oe) :: pn)) (.Attribute e fld pos) (tE X.K (E1 (exfD q fld) fe)) := by
  subst hq
  refine peImp (pe_xf ⟨T.ga, T.gg, T.exC, T.hdC⟩ T.noN hz hf he hb) fun σ H Q ⟨θ, G, env, st, d, st', S, EN, hf, post⟩ => ?_
  obtain ⟨⟨x, st1⟩, h1, h2⟩ := Option.bind_eq_some_iff.mp hf
  refine tE.go S EN h1 fun θ1 G1 H1 v1 e1 S1 EN1 r1 => ?_
  unfold exfD at h2
  split at h2
  · rename_i a C dx cn' fld' v he
    dsimp only at he
    subst he
    split at h2
    · rename_i hh
      obtain ⟨rfl, rfl, rfl, rfl⟩ := hh
      cases h2
      cases r1 with
      | exc h3 h4 h5 => exact ⟨rfl, rfl, q.dx, _, _, rfl, S1.sub _ _ h4, by simp only [List.lookup, beq_self_eq_true], post _ _ _ _ e1 S1 h5⟩
    · cases h2
  · cases h2
end
/-! isinstance of it -/
def isT (tb : List (PySem.Str × Bool)) : D → Option Bool
  | .adr c => tb.lookup c
  | .ty s => if s = "ValueError" then some true else none
  | _ => none
def isTs (tb : List (PySem.Str × Bool)) : List D → Option Bool
  | [] => some false
  | d :: ds => match isT tb d with
    | some true => some true
    | some false => isTs tb ds
    | none => none
def fIsx (q : EA) (tb : List (PySem.Str × Bool)) : FC := fun ds st => match ds with
  | [.exc a C dx _ _ _, .tup ts] => if a = q.a ∧ C = q.C ∧ dx = q.dx then (isTs tb ts).map fun b => (.bl b, st) else none
  | [.exc a C dx _ _ _, t] => if a = q.a ∧ C = q.C ∧ dx = q.dx then (isT tb t).map fun b => (.bl b, st) else none
  | _ => none
def IsxK (K : Frag) (C0 : Addr) (tb : List (PySem.Str × Bool)) : Prop := ∀ c b, tb.lookup c = some b → ∀ C', PySem.W.nsIn K PySem.mainGlobals c = some (some (.ref C')) → PySem.W.kitOne K (.ref C0) (.ref C') = some b
theorem IsxK.nil {K : Frag} {C0 : Addr} : IsxK K C0 [] := fun c b h => by cases h
theorem IsxK.cons {K : Frag} {C0 Cz : Addr} {z : PySem.Str} {b0 : Bool} {tb : List (PySem.Str × Bool)} (a : PySem.W.nsIn K PySem.mainGlobals z = some (some (.ref Cz))) (k : PySem.W.kitOne K (.ref C0) (.ref Cz) = some b0) (r : IsxK K C0 tb) : IsxK K C0 ((z, b0) :: tb) := fun c b h C' h' => by
  by_cases hc : c = z
  · subst hc
    simp only [List.lookup, beq_self_eq_true] at h
    cases h
    rw [a] at h'
    cases h'
    exact k
  · have e : (c == z) = false := beq_eq_false_iff_ne.mpr hc
    simp only [List.lookup, e] at h
    exact r c b h C' h'
theorem cls_some {K : Frag} {C : Addr} (h : PySem.W.hasDictIn K C = true) : (PySem.W.clsIn K C).isSome = true := by
  obtain ⟨cd, hc, _⟩ := PySem.W.any_some h
  rw [hc]; rfl
structure IsxT (K : Frag) (C0 : Addr) (tb : List (PySem.Str × Bool)) : Prop where
  cl : (PySem.W.clsIn K C0).isSome = true
  ga : PySem.W.findIn K (.ref C0) "__getattribute__" = some (some (.builtin "BaseException.__getattribute__"))
  gg : PySem.W.findIn K (.ref C0) "__getattr__" = some none
  ex : PySem.W.subIn K (.ref C0) (.type "BaseException") = some true
  ha : PySem.W.findIn K (.ref C0) "__class__" = some (some (.builtin "object.__class__"))
  hn : PySem.W.specialIn K (.builtin "object.__class__") "__get__" = some (some (.builtin "getset_descriptor.__get__"))
  ht : PySem.W.takesIn K (.builtin "object.__class__") = some true
  hm : PySem.W.mroIn K C0 (.type "object") = some true
  hv : PySem.W.kitOne K (.ref C0) (.type "ValueError") = some true
  hk : IsxK K C0 tb
section
variable {X : Cx} {q : EA} {oe : Obj} {pn : List (Addr × Obj)} {tb : List (PySem.Str × Bool)} {dx : Addr} {fs : List (PySem.Str × V)}
theorem IsxT.one {K : Frag} {C0 : Addr} {θ : List Addr} {G : Hp} {v : V} {u : Value} {t : D} {b : Bool} (T : IsxT K C0 tb) (r : Rep K θ G v t) (ru : RelV v u) (h : isT tb t = some b) : PySem.W.kitOne K (.ref C0) u = some b := by
  cases t with
  | adr c =>
    cases r with
    | adr e =>
      obtain rfl : u = Value.ref _ := ru
      exact T.hk c b h _ e
  | ty s =>
    cases r
    obtain rfl : u = Value.type s := ru
    simp only [isT] at h
    split at h
    · rename_i hs
      cases h
      subst hs
      exact T.hv
    · cases h
  | _ => cases h
theorem IsxT.many {K : Frag} {C0 : Addr} {θ : List Addr} {G : Hp} (T : IsxT K C0 tb) : ∀ {ts : List D} {vs : List V} {us : List Value} {b : Bool}, Reps K θ G vs ts → Vals vs us → isTs tb ts = some b → PySem.W.kitAny K (.ref C0) us = some b
  | [], _, _, b, r, ru, h => by cases r; cases ru; exact h
  | t :: ts, _, _, b, r, ru, h => by
    cases r with
    | cons r1 r2 =>
      cases ru with
      | cons u1 u2 =>
        simp only [isTs] at h
        unfold PySem.W.kitAny
        split at h
        · rename_i e
          cases h
          rw [T.one r1 u1 e]
        · rename_i e
          rw [T.one r1 u1 e]
          exact T.many r2 u2 h
        · cases h
def rIsx (K : Frag) (C0 a dx : Addr) : List V → Hp → VK → Prop := fun xs H Q => (∃ fs, H dx = some (.xd fs)) ∧ ((∃ (c : V) (b : Bool), xs = [.ref a, c] ∧ (∀ u, RelV c u → PySem.W.kitOne K (.ref C0) u = some b) ∧ Q (.bl b) H) ∨
  (∃ (p : Addr) (vs : List V) (b : Bool), xs = [.ref a, .ref p] ∧ SqT K H p vs ∧ (∀ us, Vals vs us → PySem.W.kitAny K (.ref C0) us = some b) ∧ Q (.bl b) H))
theorem call_isx (T : IsxT X.K q.C tb) (hz : Zc (.ref q.C) (some q.dx) oe) (hf : ∃ vs, oe.data = .fields vs) : CallR (X.suite q.a ((q.a, oe) :: pn)) (.builtin "isinstance") (rIsx X.K q.C q.a q.dx) := by
  intro pins s σ H xs us Q I r h
  obtain ⟨⟨fs, hdx⟩, h⟩ := h
  obtain ⟨hget, _⟩ := I.pin (q.a, oe) (List.mem_append.mpr (.inl List.mem_cons_self))
  obtain ⟨vs, hv⟩ := hf
  have hx : ObjOk X.prog X.w H s.heap q.dx (.xd fs) := I.hok q.dx _ hdx
  obtain ⟨mA, ⟨od, es, ep, hod, _⟩, _⟩ := hx
  have J : PySem.W.InstAt s.heap q.a oe q.C (some od) := ⟨hget, hz.1, by unfold PySem.W.notCls; rw [hv] <;> rfl, by rw [hz.2]; exact hod⟩
  have KX := PySem.W.kitx_exc (x := q.a) (ox := oe) (od := some od) T.cl T.ga T.gg T.ex T.ha T.hn T.ht T.hm
  rcases h with ⟨c, b, rfl, hc, q'⟩ | ⟨p, ws, b, rfl, hT, hc, q'⟩
  · cases r with
    | cons rx rr =>
      cases rr with
      | cons rt rr =>
        cases rr
        cases rx
        exact PySem.W.kia_one KX I.kIn J (hc _ rt) (fun z => nomatch z) fun tk => ⟨.bl b, H, I.kept (t' := tk) fun _ _ z => z, rfl, q'⟩
  · cases r with
    | cons rx rr =>
      cases rr with
      | cons rt rr =>
        cases rr
        cases rx
        cases rt
        obtain ⟨its, rr, ⟨⟨cls, dd, data, sl⟩, ho, hcl, n, hd⟩, hs⟩ := I.tuple hT
        simp only at hcl hd
        subst hcl hd
        exact PySem.W.kia_tup KX I.kIn J ho (hc _ rr) (fun z => nomatch z) fun tk => ⟨.bl b, H, I.kept (t' := tk) fun _ _ z => z, rfl, q'⟩
theorem s_isx [Tbs] {K : Frag} {C0 : Addr} (T : IsxT K C0 tb) (hq : q.C = C0) : CallS K (rIsx K q.C q.a q.dx) (fIsx q tb) := by
  subst hq
  intro θ G H st vs ds z st' Q S r h post
  unfold fIsx at h
  split at h
  · split at h
    · rename_i hh
      obtain ⟨rfl, rfl, rfl⟩ := hh
      obtain ⟨b, h1, h2⟩ := Option.map_eq_some_iff.mp h
      cases h2
      cases r with
      | cons r1 r2 =>
        cases r2 with
        | cons r3 r4 =>
          cases r4
          cases r1 with
          | exc x1 x2 x3 =>
            cases r3 with
            | tup y1 y2 => exact ⟨⟨_, S.sub _ _ x2⟩, .inr ⟨_, _, b, rfl, S.t y1, fun us hu => T.many y2 hu h1, post.same S (.bl _)⟩⟩
    · cases h
  · split at h
    · rename_i hh
      obtain ⟨rfl, rfl, rfl⟩ := hh
      obtain ⟨b, h1, h2⟩ := Option.map_eq_some_iff.mp h
      cases h2
      cases r with
      | cons r1 r2 =>
        cases r2 with
        | cons r3 r4 =>
          cases r4
          cases r1 with
          | exc x1 x2 x3 => exact ⟨⟨_, S.sub _ _ x2⟩, .inl ⟨_, b, rfl, fun u hu => T.one r3 hu h1, post.same S (.bl _)⟩⟩
    · cases h
  · cases h
end
section
variable {X : Cx} {q : EA} {oe : Obj} {pn : List (Addr × Obj)} {tb : List (PySem.Str × Bool)} {e e2 : Expr} {g : FA} {p pos : Pos} {x : PySem.Str}
theorem c_isx [Tbs] (T : IsxT X.K q.C tb) (hz : Zc (.ref q.C) (some q.dx) oe) (hf : ∃ vs, oe.data = .fields vs) (hg : Gl (X.suite q.a ((q.a, oe) :: pn)) "isinstance") (hm : X.mg "isinstance" = none) (ha : PA (X.suite q.a ((q.a, oe) :: pn)) [e, e2] (tA X.K g))
    (he : starEach [e, e2] X.env = (false, eval e X.env) :: starEach [e2] X.env := by rfl) (hpl : (backTo pos (starEach [e2] X.env)).any (·.1) = false := by rfl) :
    PE (X.suite q.a ((q.a, oe) :: pn)) (.Call (.Name "isinstance" p) [e, e2] [] pos) (tE X.K (EC (fIsx q tb) g)) := c_cb (call_isx T hz hf) (s_isx T rfl) hg hm (by decide +kernel) ha (by decide) (by decide) he hpl
/-- the name of a def or a class of the module -/
theorem c_adr [Tbs] {a : Addr} (hg : Gl X x) (hm : X.mg x = some (.ref a)) (hn : PySem.W.nsIn X.K PySem.mainGlobals x = some (some (.ref a))) (hd : (x == ("__debug__" : PySem.Str)) = false := by decide) : PE X (.Name x p) (tE X.K (Ec (.adr x))) :=
  c_const (pe_glob hg hm (v := .ref a) rfl hd) fun _ _ => .adr hn
end
/-! ### what these functions give, step by step -/
def outK {α β : Type} (Q : Out β → Sto → Prop) (N : α → Sto → Prop) : Out α → Sto → Prop
  | .ok a, st => N a st
  | .rz x, st => Q (.rz x) st
def outS (env : Env) (Q : XFl → Sto → Prop) (N : D → Sto → Prop) : Out D → Sto → Prop
  | .ok a, st => N a st
  | .rz x, st => Q (.rz env x) st
def seqX (s : XFS) (Q : XFl → Sto → Prop) : XFl → Sto → Prop
  | .fl (.nx e), st => wp (s e st) Q
  | r, st => Q r st
def loopX (Q : XFl → Sto → Prop) (N : Env → Sto → Prop) : XFl → Sto → Prop
  | .fl (.nx e), st => N e st
  | .fl (.ct e), st => N e st
  | .fl (.bk e), st => Q (.fl (.nx e)) st
  | .fl (.rt d), st => Q (.fl (.rt d)) st
  | .rz e x, st => Q (.rz e x) st
def runKX (Q : Out D → Sto → Prop) : XFl → Sto → Prop
  | .fl (.rt d), st => Q (.ok d) st
  | .fl (.nx _), st => Q (.ok .non) st
  | .rz _ x, st => Q (.rz x) st
  | _, _ => False
section
variable {env env' : Env} {st : Sto} {f : FE} {g : FA} {fx : XFE} {gx : XFA} {QE : D → Sto → Prop} {QX : Out D → Sto → Prop} {QA : Out (List D) → Sto → Prop} {QS : XFl → Sto → Prop} {QF : Fl → Sto → Prop} {s s' : XFS} {sf : FS}
theorem xv_ok {α β : Type} {Q : Out β → Sto → Prop} {N : α → Sto → Prop} {a : α} (h : N a st) : outK Q N (.ok a) st := h
theorem xv_rz {α β : Type} {Q : Out β → Sto → Prop} {N : α → Sto → Prop} {x : XD} (h : Q (.rz x) st) : outK Q N (.rz x) st := h
theorem xv_oks {N : D → Sto → Prop} {a : D} (h : N a st) : outS env QS N (.ok a) st := h
theorem xv_rzs {N : D → Sto → Prop} {x : XD} (h : QS (.rz env x) st) : outS env QS N (.rz x) st := h
theorem xv_of (h : wp (f env st) fun d st1 => QX (.ok d) st1) : wp (Xof f env st) QX := by
  obtain ⟨d, st1, h1, h2⟩ := h
  exact ⟨_, _, by simp only [Xof, h1, Option.map_some], h2⟩
theorem xv_aof (h : wp (g env st) fun d st1 => QA (.ok d) st1) : wp (XofA g env st) QA := by
  obtain ⟨d, st1, h1, h2⟩ := h
  exact ⟨_, _, by simp only [XofA, h1, Option.map_some], h2⟩
theorem xv_nil (h : QA (.ok []) st) : wp (Xnil env st) QA := wp_some h
theorem xv_cons (h : wp (fx env st) (outK QA fun d st1 => wp (gx env st1) (outK QA fun ds st2 => QA (.ok (d :: ds)) st2))) : wp (Xcons fx gx env st) QA := wp_bind (h.mono fun r st1 q => by
  cases r with
  | rz x => exact wp_some q
  | ok d => exact wp_bind (wp.mono q fun r st2 q => by
      cases r with
      | rz x => exact wp_some q
      | ok ds => exact wp_some q))
theorem xv_tup (h : wp (gx env st) (outK QX fun ds st1 => Sd (ds.length ≤ 16777216) (QX (.ok (.tup ds)) st1))) : wp (Xtup gx env st) QX := wp_bind (h.mono fun r st1 q => by
  cases r with
  | rz x => exact wp_some q
  | ok d => exact wp_if q.1 (wp_some q.2))
theorem xv_call {m : XFC} (h : wp (gx env st) (outK QX fun ds st1 => wp (m ds st1) QX)) : wp (XC m gx env st) QX := wp_bind (h.mono fun r st1 q => by
  cases r with
  | rz x => exact wp_some q
  | ok d => exact q)
theorem xv_ar {n : Nat} {ds : List D} {m : XFC} (e : ds.length = n) (h : wp (m ds st) QX) : wp (arX n m ds st) QX := wp_if e h
theorem xv_sof (h : wp (sf env st) fun fl st1 => QS (.fl fl) st1) : wp (XSof sf env st) QS := by
  obtain ⟨d, st1, h1, h2⟩ := h
  exact ⟨_, _, by simp only [XSof, h1, Option.map_some], h2⟩
theorem xv_snil (h : QS (.fl (.nx env)) st) : wp (XSnil env st) QS := wp_some h
theorem xv_seq (h : wp (s env st) (seqX s' QS)) : wp (XSseq s s' env st) QS := wp_bind (h.mono fun r st1 q => by
  cases r with
  | rz e x => exact wp_some q
  | fl fl =>
    cases fl with
    | nx e => exact q
    | rt d => exact wp_some q
    | bk e => exact wp_some q
    | ct e => exact wp_some q)
theorem xv_seqnx (e : env = env') (h : wp (s env' st) QS) : seqX s QS (.fl (.nx env)) st := by subst e; exact h
theorem xv_seqrt {d : D} (h : QS (.fl (.rt d)) st) : seqX s QS (.fl (.rt d)) st := h
theorem xv_seqbk (h : QS (.fl (.bk env)) st) : seqX s QS (.fl (.bk env)) st := h
theorem xv_seqct (h : QS (.fl (.ct env)) st) : seqX s QS (.fl (.ct env)) st := h
theorem xv_seqrz {x : XD} (h : QS (.rz env x) st) : seqX s QS (.rz env x) st := h
theorem xv_ret (h : wp (fx env st) (outS env QS fun d st1 => QS (.fl (.rt d)) st1)) : wp (XSret fx env st) QS := wp_bind (h.mono fun r st1 q => by
  cases r with
  | rz x => exact wp_some q
  | ok d => exact wp_some q)
theorem xv_exp (h : wp (fx env st) (outS env QS fun d st1 => QS (.fl (.nx env)) st1)) : wp (XSexp fx env st) QS := wp_bind (h.mono fun r st1 q => by
  cases r with
  | rz x => exact wp_some q
  | ok d => exact wp_some q)
theorem xv_set {i : Nat} (h : wp (fx env st) (outS env QS fun d st1 => QS (.fl (.nx (env.set i (some d)))) st1)) : wp (XSset i fx env st) QS := wp_bind (h.mono fun r st1 q => by
  cases r with
  | rz x => exact wp_some q
  | ok d => exact wp_some q)
theorem xv_bind {t : Tg} (h : wp (fx env st) (outS env QS fun d st1 => ∃ e, bindT t d env = some e ∧ QS (.fl (.nx e)) st1)) : wp (XSbind t fx env st) QS := wp_bind (h.mono fun r st1 q => by
  cases r with
  | rz x => exact wp_some q
  | ok d =>
    obtain ⟨e, h1, h2⟩ := q
    exact ⟨_, _, by simp only [h1, Option.map_some], h2⟩)
theorem xv_if {ga : FT} (h : wp (ga env st) fun b st1 => if b = true then wp (s env st1) QS else wp (s' env st1) QS) : wp (XSif ga s s' env st) QS := wp_bind (h.mono fun b st1 q => by
  cases b with
  | true => rw [if_pos rfl] at q ⊢; exact q
  | false => rw [if_neg Bool.false_ne_true] at q ⊢; exact q)
theorem xv_raise {cn fld : PySem.Str} (h : wp (g env st) fun ds st1 => ∃ v, ds = [v] ∧ QS (.rz env ⟨cn, fld, v⟩) st1) : wp (XSraise cn fld g env st) QS := wp_bind (h.mono fun ds st1 q => by
  obtain ⟨v, rfl, q⟩ := q
  exact wp_some q)
theorem xv_run {n : Nat} {ds : List D} (e : ds.map some ++ List.replicate (n - ds.length) none = env) (h : wp (s env st) (runKX QX)) : wp (runX n s ds st) QX := by
  subst e
  refine wp_bind (h.mono fun r st1 q => ?_)
  cases r with
  | rz e x => exact wp_some q
  | fl fl =>
    cases fl with
    | nx e => exact wp_some q
    | rt d => exact wp_some q
    | bk e => exact q.elim
    | ct e => exact q.elim
theorem xv_runrt {d : D} (h : QX (.ok d) st) : runKX QX (.fl (.rt d)) st := h
theorem xv_runnx (h : QX (.ok .non) st) : runKX QX (.fl (.nx env)) st := h
theorem xv_runrz {x : XD} (h : QX (.rz x) st) : runKX QX (.rz env x) st := h
theorem xv_loopnx {N : Env → Sto → Prop} (e : env = env') (h : N env' st) : loopX QS N (.fl (.nx env)) st := by subst e; exact h
theorem xv_looprt {N : Env → Sto → Prop} {d : D} (h : QS (.fl (.rt d)) st) : loopX QS N (.fl (.rt d)) st := h
theorem xv_looprz {N : Env → Sto → Prop} {x : XD} (h : QS (.rz env x) st) : loopX QS N (.rz env x) st := h
theorem xv_for {i : FI} {t : Tg} {b : XFS} (h : wpI (i env st) fun items w st1 => wp (forX w t b items env st1) QS) : wp (XSfor i t b env st) QS := by
  obtain ⟨a, w, st1, h1, h2⟩ := h
  obtain ⟨r, st2, h3, h4⟩ := h2
  exact ⟨r, st2, by simp only [XSfor, h1, Option.bind_some, h3], h4⟩
theorem xv_loop {w : Watch} {t : Tg} {b : XFS} {items : List D} (I : Nat → Env → Sto → Prop) (h0 : I 0 env st) (hw : ∀ i e s, I i e s → watchOk w s)
    (hb : ∀ i d e s, items[i]? = some d → I i e s → ∃ e1, bindT t d e = some e1 ∧ wp (b e1 s) (loopX QS fun e' s' => I (i + 1) e' s')) (he : ∀ e s, I items.length e s → QS (.fl (.nx e)) s) : wp (forX w t b items env st) QS := by
  have key : ∀ (l : List D) (k : Nat) (e : Env) (s : Sto), items.drop k = l → k ≤ items.length → I k e s → wp (forX w t b l e s) QS := by
    intro l
    induction l with
    | nil =>
      intro k e s hk hl hi
      have : k = items.length := by
        have q := congrArg List.length hk
        simp at q
        omega
      subst this
      exact ⟨_, _, by unfold forX; rw [if_pos (hw _ _ _ hi)], he e s hi⟩
    | cons d l ih =>
      intro k e s hk hl hi
      have hlt : k < items.length := by
        rcases Nat.lt_or_ge k items.length with h | h
        · exact h
        · rw [List.drop_eq_nil_of_le h] at hk; cases hk
      have hk2 := hk
      rw [List.drop_eq_getElem_cons hlt] at hk2
      injection hk2 with q1 q2
      obtain ⟨e1, h1, r, s2, h2, h3⟩ := hb k d e s (by rw [List.getElem?_eq_getElem hlt, q1]) hi
      unfold forX
      rw [if_pos (hw _ _ _ hi), h1, Option.bind_some, h2, Option.bind_some]
      cases r with
      | rz e' x => exact wp_some h3
      | fl fl =>
        cases fl with
        | nx e' => exact ih (k + 1) e' s2 q2 hlt h3
        | ct e' => exact ih (k + 1) e' s2 q2 hlt h3
        | bk e' => exact wp_some h3
        | rt d => exact wp_some h3
  exact key items 0 env st rfl (Nat.zero_le _) h0
theorem xv_gc {m : XFC} {ds : List D} (h : wp (m ds st) fun r st1 => ∃ g, st1 = st ++ g ∧ r.blw st.length ∧ QX r st) : wp (gcX m ds st) QX := by
  obtain ⟨r, st1, h1, g, h2, h3, h4⟩ := h
  subst h2
  cases r with
  | ok d => exact ⟨_, _, gcX.of h1 h3, h4⟩
  | rz x => exact ⟨_, _, gcX.ofz h1 h3, h4⟩
/-- try: what the suite returns is the same wherever the exception stands -/
theorem x_try {i : Nat} {cn : PySem.Str} {fb : XFS} {fh : EA → FS} (h : wp (fb env st) fun r st1 => match r with
    | .fl fl => QF fl st1
    | .rz env1 x => x.cls = cn ∧ ∃ d st2, (∀ q : EA, fh q (env1.set i (some (.exc q.a q.C q.dx x.cls x.fld x.val))) st1 = some (.rt d, st2)) ∧ QF (.rt d) st2) : wp (Stry i cn fb fh env st) QF := wp_bind (h.mono fun r st1 q => by
  cases r with
  | fl fl => exact wp_some q
  | rz env1 x =>
    obtain ⟨hc, d, st2, hq, q⟩ := q
    have he : ∃ r : D × Sto, ∀ q : EA, fh q (env1.set i (some (.exc q.a q.C q.dx x.cls x.fld x.val))) st1 = some (.rt r.1, r.2) := ⟨(d, st2), hq⟩
    have e2 := Classical.choose_spec he ⟨0, 0, 0⟩
    rw [hq] at e2
    injection e2 with e2
    injection e2 with e3 e4
    injection e3 with e3
    refine ⟨.rt d, st2, ?_, q⟩
    dsimp only
    rw [if_pos hc, dif_pos he, ← e3, ← e4])
theorem wp_is {α : Type} {o : Option (α × Sto)} {a : α} {st' : Sto} (h : wp o fun x s => x = a ∧ s = st') : o = some (a, st') := by
  obtain ⟨x, s, h1, rfl, rfl⟩ := h
  exact h1
theorem z_exf {q : EA} {cn fld : PySem.Str} {v : D} (h : QE v st) : wp (exfD q fld (.exc q.a q.C q.dx cn fld v) st) QE := ⟨_, _, by simp only [exfD, and_self, if_true], h⟩
theorem z_isx {q : EA} {cn fld : PySem.Str} {v t : D} {b : Bool} {tb : List (PySem.Str × Bool)} (ht : ∀ ts, t ≠ .tup ts) (e : isT tb t = some b) (h : QE (.bl b) st) : wp (fIsx q tb [.exc q.a q.C q.dx cn fld v, t] st) QE := by
  refine ⟨_, _, ?_, h⟩
  cases t with
  | tup ts => exact absurd rfl (ht ts)
  | _ => simp only [fIsx, and_self, if_true, e, Option.map_some]
theorem z_isxs {q : EA} {cn fld : PySem.Str} {v : D} {ts : List D} {b : Bool} {tb : List (PySem.Str × Bool)} (e : isTs tb ts = some b) (h : QE (.bl b) st) : wp (fIsx q tb [.exc q.a q.C q.dx cn fld v, .tup ts] st) QE :=
  ⟨_, _, by simp only [fIsx, and_self, if_true, e, Option.map_some], h⟩
end
end ML

set_option Elab.async false
set_option linter.all false
set_option maxRecDepth 100000
set_option maxHeartbeats 4000000
namespace ML
open PySem PySem.Spec PyProof.Rows L2
/-! ## a list is lengthened by a tuple -/
theorem extend_tup (l : Addr) (items : Array Value) (n : Nat) (b : Addr) (o : Obj) (items2 : Array Value) (n2 : Nat) (hc : o.cls = .type "tuple") (hd : o.data = .seq items2 n2) (hs0 : ¬(!items.isEmpty && Builtin.List.listTooLong (items.size + items2.size)) = true) (hs1 : items.size ≤ sizeLine) (hs2 : items.size + items2.size ≤ sizeLine + 1) :
    Meets (Builtin.«list.extend» ⟨[.ref l, .ref b], []⟩) (fun _ R s => s.heap.get? l = some { cls := .type "list", dict := none, data := .seq items n, slots := #[] } ∧ s.heap.get? b = some o ∧ R (.ok (.ret Value.none)) { s with heap := s.heap.update l (Obj.mapSeq fun x => x ++ items2), toks := s.toks }) :=
  .of_wp fun prog w A R s h => by
    obtain ⟨cls, dict, data, slots⟩ := o
    dsimp only at hc hd
    subst hc hd
    obtain ⟨hp, g, d, tk, os⟩ := s
    obtain ⟨hl, hb, h⟩ := h
    have f1 := AutoSeq1.idx_int
    have f2 := AutoSeq1.sub_tuple_tuple
    have f3 := AutoSeq1.sub_list_list
    have f4 := AutoSeq1.sub_tuple_list
    have f5 := AutoSeq1.sub_list_tuple
    have hz' : (items ++ items2).size ≤ sizeLine + 1 := by
      rw [Array.size_append]
      exact hs2
    wp_walk using (wpAny_updateSeq hl rfl (hz := hs1) (_hz' := hz')), AutoSeq1.wpAny_loadPart' hl, AutoSeq1.wpAny_loadPart' hb
    exact ⟨_, rfl, h⟩
def rExtA (K : PySem.W.Frag) : V → List V → Hp → VK → Prop := fun x vs H Q => rExtend x vs H Q ∨ ∃ l b xs zs, x = .ref l ∧ vs = [.ref b] ∧ H l = some (.lst xs) ∧ SqT K H b zs ∧ xs.length + zs.length ≤ sizeLine ∧ Q .non (upd H l (.lst (xs ++ zs)))
theorem mt_extA {X : Cx} : MtM X "list.extend" (rExtA X.K) := by
  intro pins s σ H x vs v us Q I rx rv h
  rcases h with h | ⟨l, b, xs, zs, rfl, rfl, hH, hB, hz, q⟩
  · exact mt_extend pins s σ H x vs v us Q I rx rv h
  cases rx
  obtain ⟨u, rfl, ru⟩ := rv.one
  cases ru
  obtain ⟨z, its, n, r, hl, e⟩ := I.lstM hH
  obtain ⟨its2, r2, ⟨o2, e2, c2, n2, d2⟩, hl2⟩ := I.tuple hB
  have z2 := r2.length
  have hsz : its.toArray.size + its2.toArray.size ≤ sizeLine := by rw [List.size_toArray, List.size_toArray]; omega
  have hlong : ¬ (!its.toArray.isEmpty && Builtin.List.listTooLong (its.toArray.size + its2.toArray.size)) = true := by
    rw [notLongL hsz, Bool.and_false]
    exact Bool.false_ne_true
  refine call_meets PySem.F.slot_list_extend ⟨_, e, rfl⟩ PySem.F.entry_list_extend (PySem.F.args_list_extend_2 _ _)
    (extend_tup l its.toArray n b o2 its2.toArray n2 c2 d2 hlong (by rw [List.size_toArray]; omega) (by omega)) ⟨e, e2, ?_⟩
  refine ⟨.non, _, I.lset (its' := its ++ its2) hH e (by simp) (r.append r2) ?_, rfl, q⟩
  rw [List.length_append]
  omega
/-- a list's or a tuple's items -/
def mExA : FM := fun d ds st => match d, ds with
  | .ref n, [.tup zs] => match st[n]? with
    | some (.lst es) => if es.length + zs.length ≤ 16777216 then some (.non, st.set n (.lst (es ++ zs))) else none
    | _ => none
  | d, ds => mExt d ds st
theorem s_exA [Tbs] {K : Frag} : MtS K (rExtA K) mExA := by
  intro θ G H st x d vs ds z st' Q S rx r h post
  unfold mExA at h
  split at h
  · split at h
    · rename_i es he
      split at h
      · rename_i hl
        cases h
        cases rx with
        | ref h1 =>
          obtain ⟨o, h2, h3⟩ := S.at h1
          rw [he] at h2
          cases h2
          obtain ⟨ws, h4, h5⟩ := h3
          cases r with
          | cons r1 r2 =>
            cases r2
            cases r1 with
            | tup h6 h7 => exact .inr ⟨_, _, ws, _, rfl, rfl, h4, S.t h6, by rw [h5.len, h7.len]; exact szl hl, post _ _ _ _ (Ext.set S h1 _) (S.set h1 (h5.append h7)) .non⟩
      · cases h
    · cases h
  · exact .inl (s_ext θ G H st _ _ _ _ _ _ _ S rx r h post)
theorem z_exT {st : Sto} {QE : D → Sto → Prop} {n : Nat} {es zs : List D} {st' : Sto} (e : st[n]? = some (.lst es)) (hl : es.length + zs.length ≤ 16777216) (e3 : st.set n (.lst (es ++ zs)) = st') (h : QE .non st') : wp (mExA (.ref n) [.tup zs] st) QE := ⟨_, _, by simp only [mExA, e]; exact if_pos hl, by rw [e3]; exact h⟩
def tryK (i : Nat) (cn : PySem.Str) (fh : EA → FS) (QF : Fl → Sto → Prop) : XFl → Sto → Prop
  | .fl fl, st1 => QF fl st1
  | .rz env1 x, st1 => x.cls = cn ∧ ∃ d st2, (∀ q : EA, fh q (env1.set i (some (.exc q.a q.C q.dx x.cls x.fld x.val))) st1 = some (.rt d, st2)) ∧ QF (.rt d) st2
theorem x_tryK {env : Env} {st : Sto} {QF : Fl → Sto → Prop} {i : Nat} {cn : PySem.Str} {fb : XFS} {fh : EA → FS} (h : wp (fb env st) (tryK i cn fh QF)) : wp (Stry i cn fb fh env st) QF := x_try (h.mono fun r st1 q => by
  cases r with
  | fl fl => exact q
  | rz e x => exact q)
theorem try_fl {st : Sto} {QF : Fl → Sto → Prop} {i : Nat} {cn : PySem.Str} {fh : EA → FS} {fl : Fl} (h : QF fl st) : tryK i cn fh QF (.fl fl) st := h
theorem try_rz {env : Env} {st : Sto} {QF : Fl → Sto → Prop} {i : Nat} {cn fld : PySem.Str} {v : D} {fh : EA → FS} {d : D} {st2 : Sto} (h : ∀ q : EA, wp (fh q (env.set i (some (.exc q.a q.C q.dx cn fld v))) st) fun f s => f = .rt d ∧ s = st2) (k : QF (.rt d) st2) : tryK i cn fh QF (.rz env ⟨cn, fld, v⟩) st := ⟨rfl, d, st2, fun q => wp_is (h q), k⟩
end ML
namespace L2
open PySem PySem.Spec PyProof.Rows
theorem tuple_mul0 (l : Addr) (items : Array Value) (n : Nat) (dd : Option Addr) (sl : Array (Option Value)) (u : Tok) (hi : items.isEmpty = false) :
    Meets (Builtin.«tuple.__mul__» ⟨[.ref l, .int 0 u], []⟩) (fun _ R s => s.heap.get? l = some { cls := .type "tuple", dict := dd, data := .seq items n, slots := sl } ∧
      R (.ok (.ret (Value.ref s.heap.objs.size))) { s with heap := s.heap.push { cls := Value.type "tuple", data := Data.seq #[] }, toks := s.toks }) :=
  .of_wp fun prog w A R s h => by
    obtain ⟨hp, g, d, tk, os⟩ := s
    obtain ⟨hl, h⟩ := h
    have f1 := AutoSeq1.idx_int
    have c0 : (decide ((0 : Int) < -(2 ^ 63)) || decide ((0 : Int) ≥ 2 ^ 63)) = false := by decide
    have c1 : (items.isEmpty || (0 : Int) == 1) = false := by rw [hi]; rfl
    have c2 : (decide ((0 : Int) ≤ 0) || items.isEmpty) = true := by simp
    have hsz : (#[] : Array Value).size ≤ sizeLine := by rw [sizeLine_eq]; decide
    wp_walk using AutoSeq1.wpAny_loadPart' hl
    repeat (first
      | (refine wpAny_ite_false (decide_eq_false (by rw [c0]; exact Bool.false_ne_true)) ?_; wp_walk using AutoSeq1.wpAny_loadPart' hl)
      | (refine wpAny_ite_false (decide_eq_false (by rw [c1]; exact Bool.false_ne_true)) ?_; wp_walk using AutoSeq1.wpAny_loadPart' hl)
      | (refine wpAny_ite_true (decide_eq_true c2) ?_; wp_walk using AutoSeq1.wpAny_loadPart' hl)
      | (refine wpAny_ite_false (decide_eq_false (Nat.not_lt.mpr hsz)) ?_; wp_walk using AutoSeq1.wpAny_loadPart' hl))
    exact ⟨_, rfl, h⟩
def rRepT0 (K : PySem.W.Frag) : R2 := fun x y H Q => ∃ l xs, x = .ref l ∧ y = .int 0 ∧ SqT K H l xs ∧ xs ≠ [] ∧ ∀ p, H p = none → Q (.ref p) (upd H p (.tup []))
theorem op_repT0 {X : Cx} : OpR X (binaryOp .Mult) (rRepT0 X.K) := by
  intro pins s σ H x y v u Q I rx ry h
  obtain ⟨l, xs, rfl, rfl, hT, hne, q⟩ := h
  cases rx
  obtain ⟨t, rfl⟩ := ry
  obtain ⟨its, r, ⟨⟨cls, dd, data, sl⟩, ho, hc, n, hd⟩, hs⟩ := I.tuple hT
  simp only at hc hd
  subst hc hd
  have hle : its.length = xs.length := r.length.symm
  have hn : its ≠ [] := fun e => hne (by
    rw [e] at hle
    exact List.eq_nil_of_length_eq_zero hle.symm)
  have hi : its.toArray.isEmpty = false := by
    cases its with
    | nil => exact absurd rfl hn
    | cons a b => rfl
  refine wpAny_binaryOp_repeat_ref (T := "tuple") (U := "int") (by decide) ⟨_, ho, rfl⟩ (fun s' => typeIs_int s' 0 t) noFill_tuple_mul F.fills_int_mul F.slot_int_rmul repeat_tuple F.slot_int_index.lookup
    (call_meets F.slot_int_rmul (typeIs_int s 0 t) F.entry_int_rmul (F.args_int_rmul_2 _ _) (int_rmul_tuple 0 t l its.toArray n dd sl)
      ⟨ho, rfl, ⟨_, ho, rfl⟩, call_meets F.slot_tuple_mul ⟨_, ho, rfl⟩ F.entry_tuple_mul (F.args_tuple_mul_2 _ _) (tuple_mul0 l its.toArray n dd sl t hi) ⟨ho, ?_⟩⟩)
  refine ⟨.ref s.heap.objs.size, _, I.laid (t' := s.toks) (o := .tup []) (fun b ob q => Heap.get?_push_of_some _ q) (Nat.le_refl _) ?_, rfl, q _ (I.hok.fresh (Nat.le_refl _))⟩
  exact ⟨Nat.zero_le _, [], .nil, IsTup.new _ _⟩
end L2
namespace ML
open PySem PySem.Spec PyProof.Rows L2
def rMulZ (K : Frag) : R2 := fun x y H Q => rMulA K x y H Q ∨ rRepT0 K x y H Q
theorem o_mulZ {X : Cx} : OpR X (binaryOp .Mult) (rMulZ X.K) := o_mul.or op_repT0
def mulZ : F2 := fun x y st => match x, y with
  | .tup (d :: ds), .int 0 => some (.tup [], st)
  | x, y => mulD x y st
theorem s_mulZ [Tbs] {K : Frag} : Op2 K (rMulZ K) mulZ := by
  intro θ G H st x y d e z st' Q S rx ry h post
  unfold mulZ at h
  split at h
  · cases h
    cases rx with
    | tup h1 h2 =>
      cases ry
      exact .inr ⟨_, _, rfl, rfl, S.t h1, (fun e => by subst e; cases h2), fun p hp => post.newT S hp .nil⟩
  · exact .inl (s_mul θ G H st x y _ _ z st' Q S rx ry h post)
theorem c_mulZ [Tbs] {X : Cx} {a b : Expr} {fa fb : FE} {pos : Pos} (ha : PE X a (tE X.K fa)) (hb : PE X b (tE X.K fb)) : PE X (.BinOp a .Mult b pos) (tE X.K (E2 mulZ fa fb)) := c_op o_mulZ s_mulZ ha hb
theorem z_mulZ {st : Sto} {QE : D → Sto → Prop} {x : D} {k : Int} (h0 : 0 ≤ k ∧ k ≤ 1000) (h : QE (.tup (List.replicate k.toNat x)) st) : wp (mulZ (.tup [x]) (.int k) st) QE := by
  by_cases e : k = 0
  · subst e; exact wp_some h
  · have : mulZ (.tup [x]) (.int k) st = mulD (.tup [x]) (.int k) st := by
      unfold mulZ
      split
      · rename_i h2; cases h2; exact absurd rfl e
      · rfl
    rw [this]
    exact z_mulT1 (by omega) (by rw [const_R]; exact h)
/-- a statement that no run reaches here -/
def Sbad : FS := fun _ _ => none
theorem k_bad [Tbs] {X : Cx} {s : Stmt} : PS X s (tS X.K Sbad) := ⟨fun pins sh σ H D I h => by
  obtain ⟨θ, G, env, st, fl, st', S, EN, hf, _⟩ := h
  cases hf⟩
theorem z_inLS {st : Sto} {QE : D → Sto → Prop} {m : PySem.Str} {ds : List D} {zs : List PySem.Str} (e : strsD ds = some zs) (hm : PyData.strOk m = true) (hz : zs.all PyData.strOk = true) (h : QE (.bl (decide (m ∈ zs))) st) : wp (inD false (.str m) (.lst ds) st) QE := by
  rw [strsD.eq e]
  refine ⟨_, _, ?_, h⟩
  have e1 : pyD st (.str m) = some (.str m) := rfl
  have e2 : (pyD st (.lst (zs.map D.str))).bind seqPy = some (zs.map PyData.str) := by
    show ((toPys (zs.map D.str)).map PyData.list).bind seqPy = _
    rw [toPys_strs]
    rfl
  simp only [inD, e1, e2]
  rw [if_pos ⟨sh_str hm, sh_strs hz⟩, any_strs]
  simp only [Bool.false_eq_true, if_false]
end ML

set_option Elab.async false
set_option linter.all false
set_option maxRecDepth 100000
set_option maxHeartbeats 4000000
namespace ML
open PySem PySem.Spec PyProof.Rows L2
/-! ## instances: their attributes read and stored -/
section
variable {K : Frag} {θ : List Addr} {G H : Hp} {st : Sto} {a : Addr}
/-- a thing of the store changes -/
theorem Sim.setO [Tbs] (S : Sim K θ G H st) {n : Nat} (ha : θ[n]? = some a) {u : HO} {o : O} (r : OR K θ G (upd H a u) a o) : Sim K θ G (upd H a u) (st.set n o) where
  sub := fun b x e => by
    have z : b ≠ a := fun z => by
      have := S.off a (List.mem_of_getElem? ha)
      rw [z, this] at e
      cases e
    rw [upd_ne z]; exact S.sub b x e
  len := by simp [S.len]
  nd := S.nd
  off := S.off
  obj := fun i b x e1 e2 => by
    by_cases hi : n = i
    · subst hi
      rw [ha] at e1
      cases e1
      obtain ⟨hl, _⟩ := List.getElem?_eq_some_iff.mp e2
      rw [List.length_set] at hl
      rw [List.getElem?_set_self hl] at e2
      cases e2
      exact r
    · rw [List.getElem?_set_ne hi] at e2
      have z : b ≠ a := fun z => by
        subst z
        obtain ⟨l1, q1⟩ := List.getElem?_eq_some_iff.mp ha
        obtain ⟨l2, q2⟩ := List.getElem?_eq_some_iff.mp e1
        exact hi ((List.getElem_inj S.nd).mp (q1.trans q2.symm))
      exact (S.obj i b x e1 e2).mono ⟨[], by simp⟩ (fun _ _ e => e) (upd_ne z)
  tb := tabs_keep S.tb fun b x e hu => by
    have z : b ≠ a := fun z => by
      obtain ⟨o, _, r⟩ := S.at ha
      cases o with
      | lst ds =>
        obtain ⟨ws, h1, _⟩ := r
        rw [z, h1] at e
        cases e
        exact hu
      | ins cn ns ds =>
        obtain ⟨C, dx, ws, _, h1, _⟩ := r
        rw [z, h1] at e
        cases e
        exact hu
      | dct ks ds =>
        obtain ⟨ws, h1, _⟩ := r
        rw [z, h1] at e
        cases e
        exact hu
    rw [upd_ne z]; exact e
  tg := S.tg
end
def putN (f : PySem.Str) : List PySem.Str → List PySem.Str
  | [] => [f]
  | g :: r => if g = f then g :: r else g :: putN f r
def putL {α : Type} (f : PySem.Str) (y : α) : List PySem.Str → List α → List α
  | g :: ns, v :: vs => if g = f then y :: vs else v :: putL f y ns vs
  | _, _ => [y]
theorem putF_zip {f : PySem.Str} {y : V} : ∀ {ns : List PySem.Str} {vs : List V}, vs.length = ns.length → putF f y (ns.zip vs) = (putN f ns).zip (putL f y ns vs) ∧ (putL f y ns vs).length = (putN f ns).length
  | [], [], _ => ⟨rfl, rfl⟩
  | g :: ns, v :: vs, h => by
    have ih := putF_zip (f := f) (y := y) (ns := ns) (vs := vs) (by simpa using h)
    have h : vs.length = ns.length := by simpa using h
    by_cases e : g = f
    · simp only [List.zip_cons_cons, putF, putN, putL, if_pos e]
      exact ⟨trivial, by simp [h]⟩
    · simp only [List.zip_cons_cons, putF, putN, putL, if_neg e, List.length_cons]
      exact ⟨by rw [ih.1], by rw [ih.2]⟩
theorem Reps.put {K : Frag} {θ : List Addr} {G : Hp} {f : PySem.Str} {y : V} {d : D} (r : Rep K θ G y d) : ∀ {ns : List PySem.Str} {vs : List V} {ds : List D}, vs.length = ns.length → Reps K θ G vs ds → Reps K θ G (putL f y ns vs) (putL f d ns ds)
  | [], [], _, _, h => by cases h; exact .cons r .nil
  | g :: ns, v :: vs, _, hl, h => by
    cases h with
    | cons h1 h2 =>
      by_cases e : g = f
      · simp only [putL, if_pos e]; exact .cons r h2
      · simp only [putL, if_neg e]; exact .cons h1 (Reps.put r (by simpa using hl) h2)
theorem zip_look {K : Frag} {θ : List Addr} {G : Hp} {f : PySem.Str} {d : D} : ∀ {ns : List PySem.Str} {vs : List V} {ds : List D}, Reps K θ G vs ds → (ns.zip ds).lookup f = some d → ∃ v, (ns.zip vs).lookup f = some v ∧ Rep K θ G v d
  | [], _, _, _, h => by simp at h
  | g :: ns, _, [], h, e => by simp at e
  | g :: ns, vs, x :: ds, h, e => by
    cases h with
    | cons h1 h2 =>
      rename_i v vs
      rw [List.zip_cons_cons, List.lookup_cons] at e ⊢
      cases hb : f == g with
      | true =>
        rw [hb] at e
        cases e
        exact ⟨v, rfl, h1⟩
      | false =>
        rw [hb] at e
        exact zip_look h2 e
/-- an attribute of an instance of the class -/
def fldD (cn f : PySem.Str) : D → Sto → Option (D × Sto) := fun d st => match d with
  | .ref n => match st[n]? with
    | some (.ins c ns ds) => if c = cn then ((ns.zip ds).lookup f).map fun v => (v, st) else none
    | _ => none
  | _ => none
/-- an attribute stored -/
def putD (cn f : PySem.Str) (o v : D) (st : Sto) : Option Sto := match o with
  | .ref n => match st[n]? with
    | some (.ins c ns ds) => if c = cn ∧ ns.length < 1000 then some (st.set n (.ins c (putN f ns) (putL f v ns ds))) else none
    | _ => none
  | _ => none
def SsetF (cn f : PySem.Str) (fo fv : FE) : FS := fun env st => (fv env st).bind fun p => (fo env p.2).bind fun q => (putD cn f q.1 p.1 q.2).map fun st' => (.nx env, st')
/-- what of the class named cn an attribute f asks -/
def ClsF (K : Frag) (cn f : PySem.Str) : Prop := ∀ C, PySem.W.nsIn K PySem.mainGlobals cn = some (some (.ref C)) → Cls K C ∧ NoAttr K C f
theorem c_fld [Tbs] {X : Cx} {e : Expr} {fa : FE} {cn f : PySem.Str} {pos : Pos} (h : PE X e (tE X.K fa)) (hA : ClsF X.K cn f) (hb : attributeBase e f X.env (eval e X.env) = eval e X.env := by rfl) : PE X (.Attribute e f pos) (tE X.K (E1 (fldD cn f) fa)) :=
  peImp (pe_fld h hb) fun σ H Q ⟨θ, G, env, st, d, st', S, EN, hf, post⟩ => by
    obtain ⟨⟨x, st1⟩, h1, h2⟩ := Option.bind_eq_some_iff.mp hf
    refine tE.go S EN h1 fun θ1 G1 H1 v1 e1 S1 EN1 r1 => ?_
    dsimp only at h2
    unfold fldD at h2
    split at h2
    · rename_i n
      split at h2
      · rename_i c ns ds hst
        split at h2
        · rename_i hc
          subst hc
          obtain ⟨y, hy, h3⟩ := Option.map_eq_some_iff.mp h2
          cases h3
          cases r1 with
          | ref hn =>
            obtain ⟨o, ho, hr⟩ := S1.at hn
            rw [hst] at ho
            cases ho
            obtain ⟨C, dx, vs, hC, hH, hl, hR⟩ := hr
            obtain ⟨w, hw, rw1⟩ := zip_look hR hy
            obtain ⟨c1, c2⟩ := hA C hC
            exact ⟨_, C, dx, _, w, rfl, hH, c1, c2, hw, post _ _ _ _ e1 S1 rw1⟩
        · cases h2
      · cases h2
    · cases h2
theorem k_setF [Tbs] {X : Cx} {o value : Expr} {fo fv : FE} {cn f : PySem.Str} {pos pos' : Pos} (ho : PE X o (tE X.K fo)) (hv : PE X value (tE X.K fv)) (hA : ClsF X.K cn f) (hs : swapsWith value (some (.Attribute o f pos')) pos.line X.env = pure false := by rfl) :
    PS X (.Assign [.Attribute o f pos'] value pos) (tS X.K (SsetF cn f fo fv)) :=
  psImp (ps_fld ho hv hs) fun E σ H ⟨θ, G, env, st, d, st', S, EN, hf, post⟩ => by
    obtain ⟨⟨x, st1⟩, h1, h2⟩ := Option.bind_eq_some_iff.mp hf
    obtain ⟨⟨y, st2⟩, h3, h4⟩ := Option.bind_eq_some_iff.mp h2
    obtain ⟨st3, h5, h6⟩ := Option.map_eq_some_iff.mp h4
    cases h6
    refine tE.go S EN h1 fun θ1 G1 H1 v1 e1 S1 EN1 r1 => tE.go S1 EN1 h3 fun θ2 G2 H2 v2 e2 S2 EN2 r2 => ?_
    dsimp only at h5
    unfold putD at h5
    split at h5
    · rename_i n
      split at h5
      · rename_i c ns ds hst
        split at h5
        · rename_i hc
          obtain ⟨hc, hn⟩ := hc
          subst hc
          cases h5
          cases r2 with
          | ref hr2 =>
            obtain ⟨o, ho2, hr⟩ := S2.at hr2
            rw [hst] at ho2
            cases ho2
            obtain ⟨C, dx, vs, hC, hH, hl, hR⟩ := hr
            obtain ⟨c1, c2⟩ := hA C hC
            obtain ⟨p1, p2⟩ := putF_zip (f := f) (y := v1) hl
            refine ⟨_, C, dx, _, rfl, hH, c1, c2, by rw [List.length_zip, hl, Nat.min_self]; exact hn, ?_⟩
            rw [p1]
            exact post _ _ _ ((e1.trans S1 e2).trans S2 (Ext.set S2 hr2 _)) (S2.setO hr2 ⟨C, dx, _, hC, upd_same, p2, Reps.put (r1.ext e2) hl hR⟩) σ EN2
        · cases h5
      · cases h5
    · cases h5

/-! ## methods called, instances made -/
def Emt (cn m : PySem.Str) (fm : FC) (fo : FE) (g : FA) : FE := fun env st => (fo env st).bind fun p => match p.1 with
  | .ref n => match p.2[n]? with
    | some (.ins c ns _) => if c = cn ∧ m ∉ ns then (g env p.2).bind fun q => fm (.ref n :: q.1) q.2 else none
    | _ => none
  | _ => none
theorem zip_none {α : Type} {m : PySem.Str} : ∀ {ns : List PySem.Str} {vs : List α}, m ∉ ns → (ns.zip vs).lookup m = none
  | [], _, _ => by simp
  | g :: ns, [], _ => by simp
  | g :: ns, v :: vs, h => by
    rw [List.zip_cons_cons, List.lookup_cons]
    have hb : (m == g) = false := beq_eq_false_iff_ne.mpr fun e => h (e ▸ List.mem_cons_self)
    rw [hb]
    exact zip_none fun z => h (List.mem_cons_of_mem _ z)
section
variable {X : Cx} {o e : Expr} {es : List Expr} {fo : FE} {g : FA} {cn m : PySem.Str} {C f : Addr} {fd : FuncData} {ps : List PySem.Str} {np k : Nat} {fm : FC} {pos apos : Pos}
theorem goMt [Tbs] (hC : PySem.W.nsIn X.K PySem.mainGlobals cn = some (some (.ref C))) {σ : L2.St} {H : Hp} {Q : VK} {E : XK} (hn : ∀ {ds st r}, fm ds st = some r → ds.length = np) (h : tE X.K (Emt cn m fm fo g) σ H Q) : tMeth C m (spF X.K np fm) [] E (tE X.K fo) (tA X.K g) σ H Q := by
  obtain ⟨θ, G, env, st, d, st', S, EN, hf, post⟩ := h
  obtain ⟨⟨x, st1⟩, h1, h2⟩ := Option.bind_eq_some_iff.mp hf
  refine tE.go S EN h1 fun θ1 G1 H1 v1 e1 S1 EN1 r1 => ?_
  dsimp only at h2
  split at h2
  · rename_i n
    split at h2
    · rename_i c ns ds hst
      split at h2
      · rename_i hc
        obtain ⟨hc, hm⟩ := hc
        subst hc
        obtain ⟨⟨xs, st2⟩, h3, h4⟩ := Option.bind_eq_some_iff.mp h2
        cases r1 with
        | ref hr1 =>
          obtain ⟨ob, ho2, hr⟩ := S1.at hr1
          rw [hst] at ho2
          cases ho2
          obtain ⟨C', dx, vs, hC', hH, hl, hR⟩ := hr
          rw [hC] at hC'
          cases hC'
          refine ⟨_, dx, _, rfl, hH, zip_none hm, ?_⟩
          refine tA.go S1 EN1 h3 fun θ2 G2 H2 us e2 S2 EN2 r2 => ?_
          rw [List.append_nil]
          have rs : Reps X.K θ2 G2 (V.ref _ :: us) (D.ref n :: xs) := .cons ((Rep.ref hr1).ext e2) r2
          exact ⟨by rw [rs.len]; exact hn h4, θ2, G2, st2, _, d, st', S2, rs, h4, fun θ' G' H' v e' S' r' => post _ _ _ _ ((e1.trans S1 e2).trans S2 e') S' r'⟩
      · cases h2
    · cases h2
  · cases h2
theorem c_meth [Tbs] {pl : Sem Bool} (hC : PySem.W.nsIn X.K PySem.mainGlobals cn = some (some (.ref C))) (ho : PE X o (tE X.K fo)) (c : Cls X.K C) (hm : Meth X.K C m f) (F : FnOk X.prog X.w X.K X.mg X.base CX0 k f fd ps (spF X.K np fm)) (hr : Room k X.A) (hb : Binds X.K fd ps []) (ha : PA X (e :: es) (tA X.K g))
    (hst : starEach (e :: es) X.env = (false, eval e X.env) :: starEach es X.env := by rfl) (hpl : (backTo pos (starEach es X.env)).any (·.1) = false := by rfl)
    (ht : eval (.Call (.Attribute o m apos) (e :: es) [] pos) X.env = (do
      let ov ← eval o X.env
      standAt apos.atName
      let (f, first) ← holding [ov] (getMethod ov m pl)
      callWith pos f first (backTo pos (starEach (e :: es) X.env)) (backToKw pos (keywordEach [] X.env))) := by rfl) :
    PE X (.Call (.Attribute o m apos) (e :: es) [] pos) (tE X.K (Emt cn m (arN np fm) fo g)) :=
  peImp (pe_meth ho c hm (sp_ar F) hr hb .nil pass0 ha hst hpl ht) fun _ _ _ h => goMt hC (fun {_ _ _} h => arN.len _ _ _ h) h
/-- C(..): a new instance, then its __init__ -/
def Emk (cn : PySem.Str) (fm : FC) (g : FA) : FE := fun env st => (g env st).bind fun p => (fm (.ref p.2.length :: p.1) (p.2 ++ [.ins cn [] []])).bind fun q => if isNon q.1 = true then some (.ref p.2.length, q.2) else none
theorem Sim.newO [Tbs] {K : Frag} {θ : List Addr} {G H : Hp} {st : Sto} {p : Addr} (S : Sim K θ G H st) (h : H p = none) {u : HO} {o : O} (r : OR K (θ ++ [p]) G (upd H p u) p o) : Sim K (θ ++ [p]) G (upd H p u) (st ++ [o]) where
  sub := fun a x e => by
    have z : a ≠ p := fun z => by rw [z, S.gnone h] at e; cases e
    rw [upd_ne z]; exact S.sub a x e
  len := by simp [S.len]
  nd := by
    rw [List.nodup_append]
    refine ⟨S.nd, by simp, fun a ha b hb => ?_⟩
    rw [List.mem_singleton] at hb
    subst hb
    exact S.ne h ha
  off := fun a m => by
    rcases List.mem_append.mp m with m | m
    · exact S.off a m
    · rw [List.mem_singleton] at m
      subst m
      exact S.gnone h
  obj := fun i a x e1 e2 => by
    by_cases hi : i < θ.length
    · rw [List.getElem?_append_left hi] at e1
      rw [List.getElem?_append_left (by rw [← S.len]; exact hi)] at e2
      exact (S.obj i a x e1 e2).mono ⟨_, rfl⟩ (fun _ _ e => e) (upd_ne (S.ne h (List.mem_of_getElem? e1)))
    · have hi2 : i = θ.length := by
        obtain ⟨hl, _⟩ := List.getElem?_eq_some_iff.mp e1
        simp at hl
        omega
      subst hi2
      rw [List.getElem?_append_right (Nat.le_refl _)] at e1
      rw [List.getElem?_append_right (by rw [S.len]; exact Nat.le_refl _), S.len] at e2
      simp at e1 e2
      subst e1
      subst e2
      exact r
  tb := tabs_keep S.tb fun b x e _ => by
    have z : b ≠ p := fun z => by rw [z, h] at e; cases e
    rw [upd_ne z]; exact e
  tg := S.tg
theorem goMk [Tbs] (hC : PySem.W.nsIn X.K PySem.mainGlobals cn = some (some (.ref C))) {σ : L2.St} {H : Hp} {Q : VK} {E : XK} (hn : ∀ {ds st r}, fm ds st = some r → ds.length = np) (h : tE X.K (Emk cn fm g) σ H Q) : tMake C (spF X.K np fm) [] E (tA X.K g) σ H Q := by
  obtain ⟨θ, G, env, st, d, st', S, EN, hf, post⟩ := h
  obtain ⟨⟨xs, st1⟩, h1, h2⟩ := Option.bind_eq_some_iff.mp hf
  obtain ⟨⟨y, st2⟩, h3, h4⟩ := Option.bind_eq_some_iff.mp h2
  refine tA.go S EN h1 fun θ1 G1 H1 us e1 S1 EN1 r1 => ?_
  intro x dx hx hdx hne
  dsimp only at h3 h4
  split at h4
  · rename_i hy
    cases h4
    have ndθ : dx ∉ θ1 := fun m => by
      obtain ⟨u, hu⟩ := S1.there m
      rw [hu] at hdx
      cases hdx
    have S2 := S1.other (S1.gnone hdx) ndθ (.inl hdx) (.own x)
    have E2' := (Ext.refl (θ := θ1) (G := G1) (H := H1)).other hdx (.own x)
    have hx2 : upd H1 dx (.own x) x = none := by rw [upd_ne (fun z => hne z.symm)]; exact hx
    have S3 := S2.newO hx2 (u := .ins C dx []) (o := .ins cn [] []) ⟨C, dx, [], hC, upd_same, rfl, .nil⟩
    have E3 := Ext.newM S2 hx2 (.ins C dx [])
    have E4 := E2'.trans S2 E3
    have hxr : Rep X.K (θ1 ++ [x]) G1 (.ref x) (.ref st1.length) := .ref (by rw [← S1.len, List.getElem?_append_right (Nat.le_refl _), Nat.sub_self]; rfl)
    rw [List.append_nil]
    have rs : Reps X.K (θ1 ++ [x]) G1 (V.ref x :: us) (D.ref st1.length :: xs) := .cons hxr (r1.ext E4)
    refine ⟨by rw [rs.len]; exact hn h3, θ1 ++ [x], G1, _, _, y, _, S3, rs, h3, fun θ' G' H' v e' S' r' => ⟨?_, ?_⟩⟩
    · have := isNon_v r'
      rw [hy] at this
      exact of_decide_eq_true this
    · exact post _ _ _ _ ((e1.trans S1 E4).trans S3 e') S' (hxr.ext e')
  · cases h4
theorem c_make [Tbs] {x : PySem.Str} {p : Pos} (hC : PySem.W.nsIn X.K PySem.mainGlobals cn = some (some (.ref C))) (M : Mk X.K C f) (F : FnOk X.prog X.w X.K X.mg X.base CX0 k f fd ps (spF X.K np fm)) (hr : Room (k + 1) X.A) (hg : Gl X x) (hm : X.mg x = some (.ref C)) (hb : Binds X.K fd ps []) (ha : PA X (e :: es) (tA X.K g))
    (hdb : (x == ("__debug__" : PySem.Str)) = false := by decide) (he : starEach (e :: es) X.env = (false, eval e X.env) :: starEach es X.env := by rfl) (hpl : (backTo pos (starEach es X.env)).any (·.1) = false := by rfl) :
    PE X (.Call (.Name x p) (e :: es) [] pos) (tE X.K (Emk cn (arN np fm) g)) :=
  peImp (pe_make M (sp_ar F) hr hg hm hb .nil pass0 ha hdb he hpl) fun _ _ _ h => goMk hC (fun {_ _ _} h => arN.len _ _ _ h) h
end

/-! ## dicts in the store -/
def valD {α : Type} (k : Key) : List Key → List α → Option α
  | j :: ks, d :: ds => if j = k then some d else valD k ks ds
  | _, _ => none
def memK (k : Key) (ks : List Key) : Bool := ks.any fun j => decide (j = k)
def putKs (k : Key) (ks : List Key) : List Key := if memK k ks = true then ks else ks ++ [k]
def putVs {α : Type} (k : Key) (y : α) (ks : List Key) (ds : List α) : List α := if memK k ks = true then List.zipWith (fun j d => if j = k then y else d) ks ds else ds ++ [y]
theorem valD_zip {k : Key} : ∀ {ks : List Key} {vs : List V}, valV (ks.zip vs) k = valD k ks vs
  | [], _ => by simp [valD, valV]
  | j :: ks, [] => by simp [valD, valV]
  | j :: ks, v :: vs => by
    rw [List.zip_cons_cons]
    by_cases e : j = k
    · rw [valV_pos (p := (j, v)) e]; simp only [valD, if_pos e]
    · rw [valV_neg (p := (j, v)) e, valD_zip]; simp only [valD, if_neg e]
theorem valD_rep {K : Frag} {θ : List Addr} {G : Hp} {k : Key} : ∀ {ks : List Key} {vs : List V} {ds : List D}, Reps K θ G vs ds → (∀ d, valD k ks ds = some d → ∃ v, valD k ks vs = some v ∧ Rep K θ G v d) ∧ (valD k ks ds = none → valD k ks vs = none)
  | [], _, _, _ => ⟨fun _ h => (nomatch h), fun _ => rfl⟩
  | j :: ks, _, _, .nil => ⟨fun _ h => (nomatch h), fun _ => rfl⟩
  | j :: ks, _, _, .cons h1 h2 => by
    by_cases e : j = k
    · simp only [valD, if_pos e]
      exact ⟨fun d hd => ⟨_, rfl, by cases hd; exact h1⟩, fun h => nomatch h⟩
    · simp only [valD, if_neg e]
      exact valD_rep h2
theorem putVs_rep {K : Frag} {θ : List Addr} {G : Hp} {k : Key} {y : V} {d : D} (r : Rep K θ G y d) {ks : List Key} {vs : List V} {ds : List D} (h : Reps K θ G vs ds) : Reps K θ G (putVs k y ks vs) (putVs k d ks ds) := by
  unfold putVs
  split
  · rename_i hk
    clear hk
    induction ks generalizing vs ds with
    | nil => exact .nil
    | cons j ks ih =>
      cases h with
      | nil => exact .nil
      | cons h1 h2 =>
        simp only [List.zipWith_cons_cons]
        refine .cons ?_ (ih h2)
        split
        · exact r
        · exact h1
  · exact h.append (.cons r .nil)
theorem zip_any {k : Key} : ∀ {ks : List Key} {vs : List V}, vs.length = ks.length → ((ks.zip vs).any fun kv => decide (kv.1 = k)) = memK k ks
  | [], _, _ => by simp [memK]
  | j :: ks, v :: vs, h => by
    have ih := zip_any (k := k) (ks := ks) (vs := vs) (by simpa using h)
    unfold memK at ih ⊢
    rw [List.zip_cons_cons, List.any_cons, List.any_cons, ih]
theorem zip_putK {k : Key} {y : V} {ks : List Key} {vs : List V} (h : vs.length = ks.length) : putK (ks.zip vs) k y = (putKs k ks).zip (putVs k y ks vs) ∧ (putVs k y ks vs).length = (putKs k ks).length := by
  unfold putK putKs putVs
  rw [zip_any h]
  by_cases hk : memK k ks = true
  · rw [if_pos hk, if_pos hk, if_pos hk]
    refine ⟨?_, by rw [List.length_zipWith, h, Nat.min_self]⟩
    clear hk
    induction ks generalizing vs with
    | nil => simp
    | cons j ks ih =>
      cases vs with
      | nil => simp at h
      | cons v vs =>
        have h : vs.length = ks.length := by simpa using h
        rw [List.zip_cons_cons, List.map_cons, List.zipWith_cons_cons, List.zip_cons_cons, ih h]
        by_cases e : j = k
        · simp [e]
        · simp [e]
  · rw [if_neg hk, if_neg hk, if_neg hk]
    refine ⟨by rw [List.zip_append h.symm]; rfl, by simp [h]⟩
def keyOf : D → Option Key
  | .int i => some (.inl i)
  | .str x => some (.inr x)
  | _ => none
theorem keyOf_v {K : Frag} {θ : List Addr} {G : Hp} {v : V} {d : D} {k : Key} (r : Rep K θ G v d) (h : keyOf d = some k) : v = kV k := by
  cases d with
  | int i => cases h; cases r; rfl
  | str i => cases h; cases r; rfl
  | _ => cases h
/-- d[y] of a dict of the store -/
def dgetD : F2 := fun x y st => match x, keyOf y with
  | .ref n, some k => match st[n]? with
    | some (.dct ks ds) => (valD k ks ds).map fun d => (d, st)
    | _ => none
  | _, _ => none
/-- y in d -/
def dinD (neg : Bool) : F2 := fun y x st => match x, keyOf y with
  | .ref n, some k => match st[n]? with
    | some (.dct ks ds) => some (.bl (if neg then !(valD k ks ds).isSome else (valD k ks ds).isSome), st)
    | _ => none
  | _, _ => none
def dputD (x y v : D) (st : Sto) : Option Sto := match x, keyOf y with
  | .ref n, some k => match st[n]? with
    | some (.dct ks ds) => if ks.length < 16777216 then some (st.set n (.dct (putKs k ks) (putVs k v ks ds))) else none
    | _ => none
  | _, _ => none
def SsetD (fo fi fv : FE) : FS := fun env st => (fv env st).bind fun p => (fo env p.2).bind fun q => (fi env q.2).bind fun r => (dputD q.1 r.1 p.1 r.2).map fun st' => (.nx env, st')
def EnewD : FE := fun _ st => some (.ref st.length, st ++ [.dct [] []])
section
variable {X : Cx} {o i e value : Expr} {pos pos' : Pos} {fo fi fv : FE}
theorem c_newD [Tbs] : PE X (.Dict [] [] pos) (tE X.K EnewD) := peImp pe_dnewK fun σ H Q ⟨θ, G, env, st, d, st', S, EN, hf, post⟩ => by
  cases hf
  intro p hp
  exact post _ _ _ _ (Ext.newM S hp _) (S.newO hp ⟨[], upd_same, rfl, .nil⟩) (.ref (by rw [← S.len, List.getElem?_append_right (Nat.le_refl _), Nat.sub_self]; rfl))
theorem c_dget [Tbs] (hu : X.A.units + 1 < cLine) (ho : PE X o (tE X.K fo)) (hi : PE X i (tE X.K fi)) (hs : NoSl i) : PE X (.Subscript o i pos) (tE X.K (E2 dgetD fo fi)) :=
  peImp (pe_dget hu ho hi hs) fun σ H Q ⟨θ, G, env, st, d, st', S, EN, hf, post⟩ => by
    obtain ⟨⟨x, st1⟩, h1, h2⟩ := Option.bind_eq_some_iff.mp hf
    obtain ⟨⟨y, st2⟩, h3, h4⟩ := Option.bind_eq_some_iff.mp h2
    refine tE.go S EN h1 fun θ1 G1 H1 v1 e1 S1 EN1 r1 => tE.go S1 EN1 h3 fun θ2 G2 H2 v2 e2 S2 EN2 r2 => ?_
    dsimp only at h4
    unfold dgetD at h4
    split at h4
    · rename_i n k hk
      split at h4
      · rename_i ks ds hst
        obtain ⟨z, hz, h5⟩ := Option.map_eq_some_iff.mp h4
        cases h5
        have r1' := r1.ext e2
        cases r1' with
        | ref hr1 =>
          obtain ⟨ob, ho2, hr⟩ := S2.at hr1
          rw [hst] at ho2
          cases ho2
          obtain ⟨vs, hH, hl, hR⟩ := hr
          obtain ⟨w, hw, rw1⟩ := (valD_rep hR).1 _ hz
          refine ⟨_, w, rfl, ?_, post _ _ _ _ (e1.trans S1 e2) S2 rw1⟩
          rw [keyOf_v r2 hk, ← hw, ← valD_zip]
          exact DGet.k hH
      · cases h4
    · cases h4
theorem dgetX [Tbs] {K : Frag} {θ : List Addr} {G H : Hp} {st : Sto} {a : Addr} {n : Nat} {ks : List Key} {ds : List D} {k : Key} (S : Sim K θ G H st) (ha : θ[n]? = some a) (hst : st[n]? = some (.dct ks ds)) : ∃ o, DGet H a (kV k) o ∧ o.isSome = (valD k ks ds).isSome := by
  obtain ⟨ob, ho2, hr⟩ := S.at ha
  rw [hst] at ho2
  cases ho2
  obtain ⟨vs, hH, hl, hR⟩ := hr
  refine ⟨_, DGet.k hH, ?_⟩
  rw [valD_zip]
  cases q : valD k ks ds with
  | none => rw [(valD_rep hR).2 q]; rfl
  | some d =>
    obtain ⟨w, hw, _⟩ := (valD_rep hR).1 d q
    rw [hw]; rfl
theorem goDin [Tbs] {neg : Bool} {σ : L2.St} {H : Hp} {Q : VK} (h : tE X.K (E2 (dinD neg) fi fo) σ H Q) : tE X.K fi σ H fun y H1 => tE X.K fo σ H1 fun x H2 => ∃ a o, x = .ref a ∧ DGet H2 a y o ∧ Q (.bl (if neg then !o.isSome else o.isSome)) H2 := by
  obtain ⟨θ, G, env, st, d, st', S, EN, hf, post⟩ := h
  obtain ⟨⟨y, st1⟩, h1, h2⟩ := Option.bind_eq_some_iff.mp hf
  obtain ⟨⟨x, st2⟩, h3, h4⟩ := Option.bind_eq_some_iff.mp h2
  refine tE.go S EN h1 fun θ1 G1 H1 v1 e1 S1 EN1 r1 => tE.go S1 EN1 h3 fun θ2 G2 H2 v2 e2 S2 EN2 r2 => ?_
  dsimp only at h4
  unfold dinD at h4
  split at h4
  · rename_i n k hk
    split at h4
    · rename_i ks ds hst
      cases h4
      cases r2 with
      | ref hr2 =>
        obtain ⟨o, g, ho⟩ := dgetX (k := k) S2 hr2 hst
        refine ⟨_, o, rfl, by rw [keyOf_v (r1.ext e2) hk]; exact g, ?_⟩
        rw [ho]
        exact post _ _ _ _ (e1.trans S1 e2) S2 (.bl _)
    · cases h4
  · cases h4
theorem t_din [Tbs] (hu : X.A.units + 1 < cLine) (hi : PE X i (tE X.K fi)) (ho : PE X o (tE X.K fo)) (hm : behindInMarks .In o = false := by rfl) : PE X (.Compare i [.In] [o] pos) (tE X.K (E2 (dinD false) fi fo)) :=
  peImp (pe_cmp (pc_din hu hi ho) hm) fun _ _ _ h => goDin h
theorem k_setD [Tbs] (hu : X.A.units + 1 < cLine) (ho : PE X o (tE X.K fo)) (hi : PE X i (tE X.K fi)) (hv : PE X value (tE X.K fv)) (hs : swapsWith value (some (.Subscript o i pos')) pos.line X.env = pure false := by rfl) : PS X (.Assign [.Subscript o i pos'] value pos) (tS X.K (SsetD fo fi fv)) :=
  psImp (ps_dput hu ho hi hv hs) fun E σ H ⟨θ, G, env, st, d, st', S, EN, hf, post⟩ => by
    obtain ⟨⟨x, st1⟩, h1, h2⟩ := Option.bind_eq_some_iff.mp hf
    obtain ⟨⟨y, st2⟩, h3, h4⟩ := Option.bind_eq_some_iff.mp h2
    obtain ⟨⟨z, st3⟩, h5, h6⟩ := Option.bind_eq_some_iff.mp h4
    obtain ⟨st4, h7, h8⟩ := Option.map_eq_some_iff.mp h6
    cases h8
    refine tE.go S EN h1 fun θ1 G1 H1 v1 e1 S1 EN1 r1 => tE.go S1 EN1 h3 fun θ2 G2 H2 v2 e2 S2 EN2 r2 => tE.go S2 EN2 h5 fun θ3 G3 H3 v3 e3 S3 EN3 r3 => ?_
    dsimp only at h7
    unfold dputD at h7
    split at h7
    · rename_i n k hk
      split at h7
      · rename_i ks ds hst
        split at h7
        · rename_i hl
          cases h7
          have r2' := r2.ext e3
          cases r2' with
          | ref hr2 =>
            obtain ⟨ob, ho2, hr⟩ := S3.at hr2
            rw [hst] at ho2
            cases ho2
            obtain ⟨vs, hH, hlv, hR⟩ := hr
            obtain ⟨p1, p2⟩ := zip_putK (k := k) (y := v1) hlv
            refine ⟨_, _, rfl, .inl ⟨_, k, hH, keyOf_v r3 hk, by rw [List.length_zip, hlv, Nat.min_self]; exact Nat.lt_of_lt_of_le hl (szl (Nat.le_refl _)), rfl⟩, ?_⟩
            rw [p1]
            exact post _ _ _ (((e1.trans S1 e2).trans S2 e3).trans S3 (Ext.set S3 hr2 _)) (S3.setO hr2 ⟨_, upd_same, p2, putVs_rep ((r1.ext e2).ext e3) hR⟩) σ EN3
        · cases h7
      · cases h7
    · cases h7
end
end ML

set_option Elab.async false
set_option linter.all false
set_option maxRecDepth 100000
set_option maxHeartbeats 4000000
/-! sorted with a key whose calls keep what holds -/
namespace PySem.W
open PySem PySem.Calls PyProof.Rows
section
variable {prog : Program} {w : World} {A : Around} {E : Value → Shared → Prop} {s : Shared} {a kS : Addr} {vs : List Value} {e1 : Nat} {P : PySem.Fin → Shared → Prop} {kz : List PyData}
theorem collect_tuple {l : Addr} {vs : List Value} {Q : List Value → Shared → Prop} (hl : s.heap.IsTuple l vs.toArray)
    (h : Q vs { s with heap := (s.heap.push (seqObj "list" #[] 0)).update s.heap.objs.size (Obj.mapSeq (· ++ vs.toArray)) }) (hsz : vs.length ≤ sizeLine := by size_fits) :
    wpAny (model prog w) A (collect (.ref l)) Q E s := by
  obtain ⟨o, ho, hc, n, hd⟩ := id hl
  unfold collect
  refine wpAny_bind (wpAny_runValue (codeAny_builtin entry_proto_collect' ?_))
  show wpAny _ _ (do again (.builtin "list.__iadd__" ⟨[← newList [], .ref l], []⟩)) _ _ s
  refine wpAny_bind (wpAny_newList (wpAny_pure ⟨Code.quiet_builtin _ (by decide +kernel), codeAny_builtin entry_list_iadd' ?_⟩))
  show wpAny _ _ (Builtin.List.listExtendWith (.ref s.heap.objs.size) (.ref l) (.ref s.heap.objs.size)) _ _ { s with heap := s.heap.push (seqObj "list" #[] 0) }
  unfold Builtin.List.listExtendWith
  have ho' : (s.heap.push (seqObj "list" #[] 0)).get? l = some o := Heap.get?_push_of_some _ ho
  refine wpAny_bind (wpAny_typeOf (T := "tuple") ⟨o, ho', hc⟩ ?_)
  have ht : (Value.type "tuple" == Value.type "tuple") = true := by rfl
  rw [if_pos (by rw [ht]; simp)]
  refine wpAny_bind (listItems_at ho' hd ?_)
  refine wpAny_bind (listItems_at (xs := #[]) (n := 0) (Heap.get?_push_size _ rfl) rfl ?_)
  rw [if_neg (by simp)]
  refine wpAny_bind (listUpdate_at (xs := #[]) (n := 0) (Heap.get?_push_size _ rfl) rfl ?_ (Nat.zero_le _) (by show (#[] ++ vs.toArray).size ≤ sizeLine + 1; simp only [Array.size_append, List.size_toArray, List.length_nil]; omega))
  refine wpAny_pure ?_
  show wpAny (model prog w) A (do
      let o ← load s.heap.objs.size
      match o.data with
      | .seq xs _ => pure xs.toList
      | _ => unsupported "internal:collect") Q E { s with heap := (s.heap.push (seqObj "list" #[] 0)).update s.heap.objs.size (Obj.mapSeq (· ++ vs.toArray)) }
  refine wpAny_bind (wpAny_load (get?_update_seq (Heap.get?_push_size _ rfl) _) ?_)
  show wpAny _ _ (pure ((#[] : Array Value) ++ vs.toArray).toList) Q E _
  rw [show ((#[] : Array Value) ++ vs.toArray).toList = vs by simp]
  exact wpAny_pure h
theorem sorted_of_sortT {l : Addr} {vs : List Value} {kw : List (Str × Value)} {Q : Value → Shared → Prop} (hl : s.heap.IsTuple l vs.toArray) (hL : vs.length ≤ sizeLine) (ha1 : argsOk "sorted" ⟨[.ref l], kw⟩) (ha2 : ∀ x, argsOk "list.sort" ⟨[.ref x], kw⟩)
    (body : ∀ E' : Value → Shared → Prop, wpAny (model prog w) A.in1.in1 (Builtin.«list.sort» ⟨[.ref (s.heap.objs.size + 1)], kw⟩) (fun f s' => f = .done (.ret .none) ∧ Q (.ref (s.heap.objs.size + 1)) s') E' { s with heap := copyHeap s.heap vs }) :
    wpAny (model prog w) A (call (.builtin "sorted") [.ref l] kw) Q E s := by
  refine call_function_entry_kw kind_sorted plain_sorted entry_sorted ha1 ?_
  unfold Builtin.«sorted»
  refine wpAny_bind (m := checkCount "sorted" 1 1 _) (wpAny_pure ?_)
  refine wpAny_bind (collect_tuple hl ?_ hL)
  refine wpAny_bind (wpAny_newList ?_ hL)
  have hsz : ((s.heap.push (seqObj "list" #[] 0)).update s.heap.objs.size (Obj.mapSeq (· ++ vs.toArray))).objs.size = s.heap.objs.size + 1 := by
    rw [Heap.size_update, size_push']
  show wpAny _ _ _ _ _ { s with heap := copyHeap s.heap vs }
  rw [hsz]
  refine wpAny_bind (wpAny_holding (wpAny_call_entry_kw slot_list_sort ⟨_, copyHeap_at s.heap vs, rfl⟩ entry_list_sort ?body (ha2 _)))
  case body =>
    show wpAny (model prog w) A.in1.in1 (Builtin.«list.sort» ⟨[.ref (s.heap.objs.size + 1)], kw⟩) _ _ _
    refine wpAny_mono (body _) (fun f s' hf => ?_) fun _ _ e => e
    obtain ⟨rfl, hq⟩ := hf
    exact ⟨_, rfl, wpAny_pure ⟨_, rfl, hq⟩⟩
/-- the keys, one by one: J j holds behind j of them -/
theorem keyJ_rest {f : Value} (J : Nat → Array Value → Shared → Prop) (hka : kS ≠ a) (h0 : J 0 #[] s)
    (hlen : kz.length = vs.length) (hZ : vs.length ≤ sizeLine) (hal : AllAlike kz) (hsk : Sortable kz) (hu : ∀ d, d ∈ kz → A.units + d.depth < cLine)
    (kat : ∀ j kA s', J j kA s' → kA.size = j ∧ (∃ e, s'.heap.get? kS = some (seqObj "list" kA e)) ∧ s'.heap.get? a = some (seqObj "list" #[] e1))
    (turn : ∀ (j : Nat) (v : Value) (kA : Array Value) (s' : Shared), vs[j]? = some v → J j kA s' → wpAny (model prog w) A (call f [v]) (fun u s2 => ∃ e, s2.heap.get? kS = some (seqObj "list" kA e) ∧ J (j + 1) (kA.push u) { s2 with heap := s2.heap.update kS (Obj.mapSeq (·.push u)) }) (fun _ _ => False) s')
    (reads : ∀ kA s', J vs.length kA s' → EachIs (fun v k => ∃ as, Reads s'.heap v k as) kA.toList kz)
    (h : ∀ kA s' h' tk out c, J vs.length kA s' → (∀ b o, b ≠ a → b ≠ kS → s'.heap.get? b = some o → h'.get? b = some o) → h'.get? a = some (seqObj "list" (List.toArray out) c) → KeyedOut false kz vs out → P (.done (.ret .none)) { s' with heap := h', toks := tk }) :
    wpAny (model prog w) A (ksk_rest a f false vs.toArray e1 (.ref kS)) P E s := by
  unfold ksk_rest
  refine wpAny_bind (wpAny_rule ?_)
  first
    | rw [List.forIn_toArray]
    | (rw [← Array.forIn_toList]; simp only [List.toList_toArray])
    | rw [← Array.forIn_toList]
  refine wpAny_bind (ksk_fold (fun i s' => ∃ kA, J i kA s') vs 0 s ⟨#[], h0⟩ ?step ?done)
  case step =>
    rintro j x s' hx ⟨kA, hj⟩
    simp only [Nat.zero_add] at hj ⊢
    have hjl : j < vs.length := (List.getElem?_eq_some_iff.mp hx).1
    have hz : kA.size ≤ vs.length := by
      have := (kat j kA s' hj).1
      omega
    refine wpAny_bind (wpAny_attempt (wpAny_mono (turn j x kA s' hx hj) (fun v s'' he => ?_) fun _ _ hF => hF.elim))
    obtain ⟨e, nk2, hj2⟩ := he
    try dsimp only
    refine wpAny_bind (listUpdate_at nk2 rfl ?_ (Nat.le_trans hz hZ) (Nat.le_trans (Nat.le_of_eq (Array.size_push ..)) (Nat.succ_le_succ (Nat.le_trans hz hZ))))
    exact wpAny_pure ⟨rfl, kA.push v, hj2⟩
  case done =>
    rintro s' ⟨kA, hj⟩
    rw [Nat.zero_add] at hj
    obtain ⟨hsz, ⟨e, nk⟩, na⟩ := kat _ _ _ hj
    try dsimp only
    refine wpAny_bind (listItems_at nk rfl ?_)
    obtain ⟨G, g1, g2⟩ := L2.restrict s'.heap fun b => decide (b ≠ kS)
    have kp : KeepsBut a G s'.heap := fun b o hb q => by
      by_cases hk : b = kS
      · rw [hk, g2 kS (by simp)] at q; cases q
      · rw [g1 b (by simp [hk])] at q; exact q
    have hk := reads kA s' hj
    exact keyH_end (κ := dataKind s'.heap kz) (h₁ := G) kp (g2 kS (by simp)) nk na hka (SortsAt.data hk hal hsk hu) hsz hZ fun h3 tk3 c k3 n3 => h kA s' h3 tk3 _ c hj (fun b o h1 h2 q => k3 b o h1 (by rw [g1 b (by simp [h2])]; exact q)) n3 ⟨s'.heap, kA.toList, hal, rfl, hk⟩
theorem keyJ_tree {f : Value} {n : Nat} (ho : s.heap.get? a = some (seqObj "list" vs.toArray n)) (hZ : vs.length ≤ sizeLine)
    (body : ∀ (e1 : Nat) (kS : Addr) (h1 : Heap), kS = s.heap.objs.size + 1 → (∀ b o, b ≠ a → s.heap.get? b = some o → h1.get? b = some o) → h1.get? a = some (seqObj "list" #[] e1) → h1.get? kS = some (seqObj "list" #[] 0) → kS < h1.objs.size →
      wpAny (model prog w) A (ksk_rest a f false vs.toArray e1 (.ref kS)) P E { s with heap := h1 }) :
    wpAny (model prog w) A (ksk_tree a f false) P E s := by
  obtain ⟨e1, ho1⟩ : ∃ e1, (s.heap.update a (Obj.mapSeq fun _ => (#[] : Array Value))).get? a = some (seqObj "list" #[] e1) := ⟨_, get?_update_seq ho fun _ => #[]⟩
  have hkS : ((s.heap.update a (Obj.mapSeq fun _ => (#[] : Array Value))).push (seqObj "tuple" vs.toArray 0)).objs.size = s.heap.objs.size + 1 := by rw [size_push', Heap.size_update]
  unfold ksk_tree
  refine wpAny_bind (listItems_at ho rfl ?_)
  refine wpAny_bind (listUpdate_at ho rfl ?_ (by rw [List.size_toArray]; exact hZ) (Nat.zero_le _))
  refine wpAny_bind (seqEpoch_at ho1 rfl ?_)
  refine wpAny_bind (wpAny_newTuple ?_ (by show vs.length ≤ _; exact hZ))
  refine wpAny_bind (wpAny_newList ?_ (Nat.zero_le _))
  refine wpAny_holding ?_
  have hk := Heap.get?_push_size ((s.heap.update a (Obj.mapSeq fun _ => (#[] : Array Value))).push (seqObj "tuple" vs.toArray 0)) (o := seqObj "list" #[] 0) rfl
  exact body e1 _ _ hkS (fun b o hb q => sortingHeap_old hb q) (Heap.get?_push_of_some _ (Heap.get?_push_of_some _ ho1)) hk (Heap.lt_size hk)
end
end PySem.W
namespace ML
open PySem PySem.Spec PyProof.Rows L2 LamX NdefX
section
variable {X : Cx} {pins : List (Addr × Obj)} {σ : L2.St} {H : Hp} {s : Shared}
/-- a lambda is made: the table may grow, all else stays -/
theorem lam_make3 {T : List (Addr × PySem.Str)} {c P : Addr} {params : Arguments} {body : Expr} {scope : Scope} {pos : Pos} {E : Value → Shared → Prop} {Q : Value → Shared → Prop} (I : Inv X pins σ H s) (TB : TabB X.base X.mg c P) (hcode : X.env.code = .ref c)
    (hm : (P, X.env.qual ++ "<lambda>") ∈ T) (hu : ∀ p ∈ T, p.1 = P → p.2 = X.env.qual ++ "<lambda>") (hT : Tabs T H) (hdef : defaultsOf params X.env = ([], [])) (hfree : ∀ y ∈ scope.names, y.2 = .free → ∃ c, X.env.cells.lookup y.1 = some c)
    (h : ∀ (f c' : Addr) (pm ctv : Value) (H1 : Hp) (s' : Shared), Inv X pins σ H1 s' → (∀ b o, b ≠ P → H b = some o → H1 b = some o) → Tabs T H1 →
      s'.heap.get? f = some (PySem.W.kla_obj "<lambda>" (X.env.qual ++ "<lambda>") params body scope (cloFrom X.env.cells scope.names []) pm c' ctv) → H1 f = none → f ≠ X.env.locals → f ∉ X.fs → H1 c' = some (CodeO c' (X.env.qual ++ "<lambda>")) → Q (.ref f) s') :
    wpAny (model X.prog X.w) X.A (eval (.Lambda params body scope pos) X.env) Q E s := by
  obtain ⟨ps, hP, ht, ha⟩ := hT _ hm
  refine PySem.W.kla_eval hdef ?_
  have hP' : s.heap.get? P = some { cls := .none, data := .fields ps } := I.hok P _ hP
  have far : ∀ f, s.heap.objs.size ≤ f → f ≠ X.env.locals ∧ f ∉ X.fs := fun f hf => ⟨fun z => by
    have h1 := I.lt
    rw [← z] at h1
    exact Nat.lt_irrefl _ (Nat.lt_of_lt_of_le h1 hf), fun z => I.nofs hf z⟩
  cases hc : codeAmong pos ps.toList with
  | none =>
    refine PySem.W.kla_makeFunction (mg := X.mg) (c := c) (P := P) (ps := ps) (closure_ok hfree) I.ok.glob (I.mod.glob.keeps I.bk) hcode (TB.code.keeps I.bk) hP' ht hc TB.gP (TB.bm.keeps I.bk) fun c' ctv h' tk hx hge hlt hrec htb => ?_
    obtain ⟨c2, oc, vs, t, e2, hoc, hd, hv⟩ := hrec
    cases e2
    have hsz : s.heap.objs.size ≤ h'.objs.size := Nat.le_trans hge (Nat.le_of_lt hlt)
    have nC : H c' = none := I.hok.fresh hge
    have I1 := inv_table (t' := tk) (more := #[rawInt pos.line, rawInt pos.col, .ref c']) (h' := h'.push (PySem.W.kla_obj "<lambda>" (X.env.qual ++ "<lambda>") params body scope (cloFrom X.env.cells scope.names []) ((X.mg "__name__").getD .none) c' ctv)) I hP
      (fun b o hb e => Heap.get?_push_of_some _ (hx b o hb e)) (Heap.get?_push_of_some _ htb) hge ⟨oc, vs, t, Heap.get?_push_of_some _ hoc, hd, hv⟩
    have stay : ∀ b o, b ≠ P → H b = some o → upd (upd H P (.tbl (ps ++ #[rawInt pos.line, rawInt pos.col, .ref c']))) c' (CodeO c' (X.env.qual ++ "<lambda>")) b = some o := fun b o hb e => by
      rw [upd_ne (ne_of_none e nC), upd_ne hb]
      exact e
    have eL : (ps ++ #[rawInt pos.line, rawInt pos.col, .ref c']).toList = ps.toList ++ [rawInt pos.line, rawInt pos.col, .ref c'] := by simp
    refine h h'.objs.size c' ((X.mg "__name__").getD .none) ctv _ _ I1 stay (fun p hp => ?_) (Heap.get?_push_size _ rfl) ?_ (far _ hsz).1 (far _ hsz).2 upd_same
    · by_cases hb : p.1 = P
      · rw [hu p hp hb, hb]
        refine ⟨_, by rw [upd_ne (ne_of_none hP nC), upd_same], by rw [eL]; exact PySem.TriplesOk_snoc _ _ _ _ ht, fun p' cv hcv => ?_⟩
        rw [eL] at hcv
        rcases among_app _ ht hcv with z | z
        · obtain ⟨c0, e1, e2⟩ := ha p' cv z
          exact ⟨c0, e1, stay _ _ (fun z => by rw [z, hP] at e2; exact codeO_ne ps (Option.some.inj e2.symm)) e2⟩
        · exact ⟨c', z, upd_same⟩
      · obtain ⟨ps', a1, a2, a3⟩ := hT p hp
        refine ⟨ps', stay _ _ hb a1, a2, fun p' cv hcv => ?_⟩
        obtain ⟨c0, e1, e2⟩ := a3 p' cv hcv
        exact ⟨c0, e1, stay _ _ (fun z => by rw [z, hP] at e2; exact codeO_ne ps (Option.some.inj e2.symm)) e2⟩
    · have n2 : h'.objs.size ≠ P := Nat.ne_of_gt (Nat.lt_of_lt_of_le (Heap.lt_size hP') hsz)
      rw [upd_ne (Nat.ne_of_gt hlt), upd_ne n2]
      exact I.hok.fresh hsz
  | some cv =>
    obtain ⟨c', e, hco⟩ := ha pos cv hc
    subst e
    refine PySem.W.kla_makeFunctionHit (mg := X.mg) (c := c) (P := P) (ps := ps) (closure_ok hfree) I.ok.glob (I.mod.glob.keeps I.bk) hcode (TB.code.keeps I.bk) hP' ht hc (TB.bm.keeps I.bk) fun ctv h' tk hx hsz => ?_
    exact h h'.objs.size c' ((X.mg "__name__").getD .none) ctv H _ (I.kept fun b o e => Heap.get?_push_of_some _ (hx b o e)) (fun _ _ _ e => e) hT (Heap.get?_push_size _ rfl) (I.hok.fresh hsz) (far _ hsz).1 (far _ hsz).2 hco
/-- .. in the store's words -/
theorem Sim.lam [Tbs] {K : Frag} {θ : List Addr} {G H1 : Hp} {st : Sto} {P : Addr} {q : PySem.Str} (S : Sim K θ G H st) (hm : (P, q) ∈ Tbs.T) (k : ∀ b o, b ≠ P → H b = some o → H1 b = some o) (t : Tabs Tbs.T H1) : Sim K θ G H1 st ∧ Ext θ θ G G H H1 := by
  have hP : P ∈ tbA := List.mem_map.mpr ⟨_, hm, rfl⟩
  obtain ⟨ps, hp⟩ := S.isT hP
  refine ⟨⟨fun a o e => k a o (fun z => ?_) (S.sub a o e), S.len, S.nd, S.off, fun i a o e1 e2 => ?_, t, S.tg⟩, ⟨⟨[], by simp⟩, fun _ _ e => e, fun a o e _ nt => k a o (fun z => nt (by rw [z]; exact hP)) e, fun _ m n => absurd m n, fun a o e n => by rw [n] at e; cases e⟩⟩
  · rw [z, S.tg P hP] at e
    cases e
  · have r := S.obj i a o e1 e2
    have ne : a ≠ P := fun z => by
      obtain ⟨o', _, r'⟩ := S.at e1
      rw [z] at r'
      cases o' with
      | lst ds => obtain ⟨_, h1, _⟩ := r'; rw [hp] at h1; cases h1
      | ins cn ns ds => obtain ⟨_, _, _, _, h1, _⟩ := r'; rw [hp] at h1; cases h1
      | dct ks ds => obtain ⟨_, h1, _⟩ := r'; rw [hp] at h1; cases h1
    obtain ⟨u, hu⟩ := r.there
    exact r.mono ⟨[], by simp⟩ (fun _ _ e => e) ((k a u ne hu).trans hu.symm)
/-- a lambda is called -/
theorem lam_run {CX : CXT} {N ps fr : List PySem.Str} {js : List Nat} {A : Around} {params : Arguments} {body : Expr} {scope : Scope} {qual : PySem.Str} {f c' : Addr} {cl : List (PySem.Str × Addr)} {pm ctv : Value} {k : Nat} {us : List Value} {vs : List V} {Q : VK} {E : XK} {t : TE}
    (I : Inv X pins σ H s) (hf : s.heap.get? f = some (PySem.W.kla_obj "<lambda>" qual params body scope cl pm c' ctv)) (hc : H c' = some (CodeO c' qual)) (S : NScope N ps fr scope)
    (hb : bindArgs (PySem.W.kla_fn "<lambda>" qual params body scope cl pm (.ref c') ctv) ⟨us, []⟩ = pure (ps.zip us)) (cp : Caps X cl fr js) (fA : A.frames = X.A.frames) (hA : A.handled = none) (hr : Room (k + 1) A) (r : Vals vs us) (hl : vs.length = ps.length)
    (hbody : ∀ (s : Shared) (H : Hp), Room k (A.deeper (envF ⟨"<lambda>", qual, params, [], scope, cl, c'⟩ f s.heap.objs.size)) → PE (ncx CX X.prog X.w X.K X.mg X.base N ⟨"<lambda>", qual, params, [], scope, cl, c'⟩ f A X.stack s H E) body t)
    (q : t (startF N vs (js.map (slotAt σ))) H Q) :
    codeAny (model X.prog X.w) A (.call (.ref f) ⟨us, []⟩) (CR CX X.stack X.prog X.w H s Q E) s := by
  have e0 : Env0 X.prog X.w X.K X.mg X.base A X.stack s H := by
    have e := I.env0
    exact ⟨fA.trans e.frames, e.mod, e.bs, e.bsz, e.funs, e.frf, e.hok, e.bare⟩
  have C := cells_of I cp
  obtain ⟨⟨oc, ws, t1, hoc, hdc, hvc⟩, _, _⟩ := I.hok c' _ hc
  refine PySem.W.kla_callFunE hr.depth hf rfl S.co S.gen rfl ⟨c', oc, ws, t1, rfl, hoc, hdc, hvc⟩ ?_
  rw [hb]
  refine wpAny_pure (wpAny_newFunctionEnv S.nocell (fun ⟨n, _⟩ hy => S.par n (List.of_mem_zip hy).1) (fun h₁ hns hsb => ⟨I.nolimit.fresh _ hsb, ?_⟩) S.kind)
  show codeAny _ _ (.expr body (envF ⟨"<lambda>", qual, params, [], scope, cl, c'⟩ f s.heap.objs.size)) _ _
  have kp : ∀ b o, s.heap.get? b = some o → h₁.get? b = some o := fun b o e => hsb.extBut b o (Nat.ne_of_lt (Heap.lt_size e)) (Heap.get?_push_of_some _ e)
  have J : Inv (ncx CX X.prog X.w X.K X.mg X.base N ⟨"<lambda>", qual, params, [], scope, cl, c'⟩ f A X.stack s H E) [] (startF N vs (js.map (slotAt σ))) H { s with heap := h₁, toks := s.toks + (ps.zip us).length } :=
    inv_startN (F := ⟨"<lambda>", qual, params, [], scope, cl, c'⟩) S hA e0 hl r C hns kp
  refine PySem.W.kla_codeExpr (wpAny_mono ((hbody s H (hr.deeper _)).run [] _ _ H Q J q) (fun v s' hq => ?_) fun e s' hq => hq)
  obtain ⟨w', H', J', rv, q⟩ := hq
  exact ⟨w', H', J'.os, J'.bare, J'.base, J'.hok, rv, q⟩
/-- objects of ours that are not tracked are written -/
theorem inv_own {ch : List Addr} {h' : Heap} {t' : Nat} (I : Inv X pins σ H s) (own : ∀ b ∈ ch, H b = none ∧ X.s_0.heap.objs.size ≤ b ∧ b ≠ X.env.locals ∧ (∀ x c, X.env.cells.lookup x = some c → c ≠ b) ∧ ∀ p ∈ X.pn ++ pins, p.1 ≠ b)
    (k : ∀ b o, b ∉ ch → s.heap.get? b = some o → h'.get? b = some o) : Inv X pins σ H { s with heap := h', toks := t' } := by
  have nt : ∀ b o, H b = some o → b ∉ ch := fun b o e z => by rw [(own b z).1] at e; cases e
  refine I.step (g' := s.gens) (d' := s.drawn) (ch := ch) (fun b hb => ⟨.inr (own b hb).2.1, (own b hb).2.2.1, (own b hb).2.2.2.1, (own b hb).2.2.2.2⟩) (fun b o _ _ hb e _ => k b o hb e) (fun b o _ _ hb e _ => ⟨o.slots, k b o hb e⟩)
    (fun b o _ _ n => n) (fun b o hb e => ⟨o, k b o hb e⟩) (fun b xs e => e) (fun b o u e => e) (fun b qs e => ⟨#[], by simpa using e⟩) (fun m hn => ?_) (fun b u e => ?_) I.bare
  · obtain ⟨ob, es, ep, ho, r⟩ := hn
    exact ⟨ob, es, ep, k _ ob (fun z => (own _ z).2.2.1 rfl) ho, r⟩
  · refine (I.hok b u e).stay (fun d v hd q => k d v ?_ q) (fun d q => q) fun d xs q => q
    rcases hd with z | z
    · rw [z]; exact nt _ _ e
    · exact nt _ _ z
/-- an object of ours is tracked from now on -/
theorem inv_track {a : Addr} {o : HO} (I : Inv X pins σ H s) (hn : H a = none) (h0 : X.s_0.heap.objs.size ≤ a) (hl : a ≠ X.env.locals) (hc : ∀ x c, X.env.cells.lookup x = some c → c ≠ a) (hp : ∀ p ∈ X.pn ++ pins, p.1 ≠ a) (new : ObjOk X.prog X.w (upd H a o) s.heap a o) : Inv X pins σ (upd H a o) s := by
  have ne : ∀ b u, H b = some u → b ≠ a := fun b u e => ne_of_none e hn
  have I' : Inv X pins σ (upd H a o) { s with heap := s.heap, gens := s.gens, drawn := s.drawn, toks := s.toks } := by
    refine I.step (ch := [a]) (fun b hb => ?_) (fun b o _ _ _ e _ => e) (fun b o _ _ _ e _ => ⟨o.slots, e⟩) (fun b u hb _ n => by rw [upd_ne (fun z => hb (by simp [z]))]; exact n) (fun b o _ e => ⟨o, e⟩)
      (fun b xs e => by rw [upd_ne (ne b _ e)]; exact e) (fun b u v e => by rw [upd_ne (ne b _ e)]; exact e) (fun b qs e => ⟨#[], by rw [upd_ne (ne b _ e)]; simpa using e⟩) (fun m hm => hm) (I.hok.laidN (fun _ _ e => e) hn new) I.bare
    rw [List.mem_singleton] at hb
    subst hb
    exact ⟨.inr h0, hl, hc, hp⟩
  exact I'
/-- the key of an item: what the lambda gives, if it leaves the store -/
noncomputable def keyD (fb : FE) (mk : D → Env) (st : Sto) (d : D) : Option PyData := open Classical in (fb (mk d) st).bind fun q => if q.2 = st then toPy q.1 else none
def lamEnv (n : Nat) (js : List Nat) (env : Env) (d : D) : Env := some d :: (js.map (fun j => (env[j]?).join) ++ List.replicate (n - 1 - js.length) none)
noncomputable def keyP (fb : FE) (mk : D → Env) (st : Sto) (d : D) : PyData := (keyD fb mk st d).getD .none
def SrtOk (fb : FE) (mk : D → Env) (st : Sto) (ds : List D) : Prop := (∀ d, d ∈ ds → ∃ p, keyD fb mk st d = some p) ∧ PySem.W.AllAlike (ds.map (keyP fb mk st)) ∧ PySem.W.Sortable (ds.map (keyP fb mk st)) ∧ (∀ d, d ∈ ds → (keyP fb mk st d).depth ≤ 32) ∧ ds.length ≤ 16777216
noncomputable def Esrt (fe fb : FE) (n : Nat) (js : List Nat) : FE := fun env st => open Classical in (fe env st).bind fun p => (anyD p.2 p.1).bind fun q =>
  if SrtOk fb (lamEnv n js env) p.2 q.2 then some (.lst (q.2.mergeSort (PySem.W.dataLe false (keyP fb (lamEnv n js env) p.2))), p.2) else none
theorem anyD_now [Tbs] {K : Frag} {θ : List Addr} {G H : Hp} {st : Sto} {v : V} {d : D} {t : Bool} {ds : List D} (S : Sim K θ G H st) (r : Rep K θ G v d) (h : anyD st d = some (t, ds)) : ∃ a vs, v = .ref a ∧ SeqB K t H a vs ∧ Reps K θ G vs ds := by
  obtain ⟨a, e, _, k⟩ := anyD.ok S r h
  have w : watchOk (watchOf d ds) st := by
    cases d with
    | ref n =>
      intro p hp
      have hp : p ∈ [(n, ds)] := hp
      rw [List.mem_singleton] at hp
      subst hp
      cases hq : sqD st (.ref n) with
      | none => simp [anyD, hq] at h
      | some es =>
        simp only [anyD, hq, Option.map_some, Option.some.injEq, Prod.mk.injEq] at h
        obtain ⟨_, rfl⟩ := h
        have hq' : (match st[n]? with | some (.lst ds) => some ds | _ => none) = some es := hq
        split at hq'
        · rename_i es' he
          cases hq'
          exact he
        · cases hq'
    | _ => exact fun _ m => nomatch m
  obtain ⟨vs, h1, h2⟩ := k θ G H st ⟨[], by simp⟩ (fun _ _ e => e) S w
  exact ⟨a, vs, e, h1, h2⟩
theorem lamEnv_rep {K : Frag} {θ : List Addr} {G : Hp} {env : Env} {js : List Nat} {N : List PySem.Str} {v : V} {d : D} (EN : EnvR K θ G σ env) (r : Rep K θ G v d) : EnvR K θ G (startF N [v] (js.map (slotAt σ))) (lamEnv N.length js env d) := by
  unfold startF lamEnv
  refine ⟨by simp, fun i e he => ?_⟩
  cases i with
  | zero =>
    simp at he
    subst he
    exact ⟨v, rfl, r⟩
  | succ i =>
    simp only [List.getElem?_cons_succ] at he
    by_cases hi : i < js.length
    · rw [List.getElem?_append_left (by simpa using hi), List.getElem?_map, List.getElem?_eq_getElem hi] at he
      simp only [Option.map_some, Option.some.injEq] at he
      cases hj : env[js[i]]? with
      | none => rw [hj] at he; cases he
      | some o =>
        rw [hj] at he
        obtain rfl : o = some e := he
        obtain ⟨v', h1, h2⟩ := EN.2 _ _ hj
        refine ⟨v', ?_, h2⟩
        show (List.map (slotAt σ) js ++ _)[i]? = _
        rw [List.getElem?_append_left (by simpa using hi), List.getElem?_map, List.getElem?_eq_getElem hi, Option.map_some, slotAt_of h1]
    · rw [List.getElem?_append_right (by simpa using hi), List.getElem?_replicate] at he
      split at he <;> cases he
theorem each_of {K : Frag} {θ : List Addr} {G : Hp} : ∀ {vs : List V} {us : List Value} {ds : List D}, Vals vs us → Reps K θ G vs ds → PySem.W.EachIs (fun u d => ∃ v, RelV v u ∧ Rep K θ G v d) us ds
  | [], _, _, r, h => by cases r; cases h; exact .nil
  | _ :: _, _, _, r, h => by
    cases r with
    | cons r1 r2 => cases h with
      | cons h1 h2 => exact .cons ⟨_, r1, h1⟩ (each_of r2 h2)
theorem each_to {K : Frag} {θ : List Addr} {G : Hp} : ∀ {us : List Value} {ds : List D}, PySem.W.EachIs (fun u d => ∃ v, RelV v u ∧ Rep K θ G v d) us ds → ∃ vs, Vals vs us ∧ Reps K θ G vs ds
  | [], [], _ => ⟨[], .nil, .nil⟩
  | _ :: _, _ :: _, h => by
    cases h with
    | cons h1 h2 =>
      obtain ⟨v, r, q⟩ := h1
      obtain ⟨vs, rs, qs⟩ := each_to h2
      exact ⟨v :: vs, .cons r rs, .cons q qs⟩
theorem each_dp {X : Cx} {pins : List (Addr × Obj)} {σ : L2.St} {H : Hp} {s : Shared} (I : Inv X pins σ H s) : ∀ {vs : List V} {us : List Value} {ps : List PyData}, Vals vs us → DpAll X.K H vs ps → PySem.W.EachIs (fun u p => ∃ as, Reads s.heap u p as) us ps
  | [], _, _, r, h => by cases r; cases h; exact .nil
  | _ :: _, _, _, r, h => by
    cases r with
    | cons r1 r2 => cases h with
      | cons h1 h2 => exact .cons (Dp.reads I _ _ _ h1 r1) (each_dp I r2 h2)
theorem Reps.snoc {K : Frag} {θ : List Addr} {G : Hp} {vs : List V} {ds : List D} {v : V} {d : D} (h : Reps K θ G vs ds) (r : Rep K θ G v d) : Reps K θ G (vs ++ [v]) (ds ++ [d]) := h.append (.cons r .nil)
theorem toPys_snoc : ∀ {ds : List D} {ps : List PyData} {d : D} {p : PyData}, toPys ds = some ps → toPy d = some p → toPys (ds ++ [d]) = some (ps ++ [p])
  | [], _, d, p, h, e => by cases h; show (toPy d).bind _ = _; rw [e]; rfl
  | x :: ds, _, d, p, h, e => by
    obtain ⟨q, h1, h2⟩ := Option.bind_eq_some_iff.mp (show ((toPy x).bind fun p => (toPys ds).map (p :: ·)) = some _ from h)
    obtain ⟨ps, h3, rfl⟩ := Option.map_eq_some_iff.mp h2
    show ((toPy x).bind fun p => (toPys (ds ++ [d])).map (p :: ·)) = _
    rw [h1, toPys_snoc h3 e]
    rfl
theorem keyD_ok {fb : FE} {mk : D → Env} {st : Sto} {d : D} {p : PyData} (h : keyD fb mk st d = some p) : ∃ k, fb (mk d) st = some (k, st) ∧ toPy k = some p := by
  unfold keyD at h
  obtain ⟨⟨k, st'⟩, h1, h2⟩ := Option.bind_eq_some_iff.mp h
  dsimp only at h2
  split at h2
  · rename_i e
    subst e
    exact ⟨k, h1, h2⟩
  · cases h2
/-- what is new is ours -/
theorem inv_far {b : Addr} (I : Inv X pins σ H s) (hb : s.heap.objs.size ≤ b) : (H b = none ∧ X.s_0.heap.objs.size ≤ b ∧ b ≠ X.env.locals ∧ (∀ x c, X.env.cells.lookup x = some c → c ≠ b) ∧ ∀ p ∈ X.pn ++ pins, p.1 ≠ b) ∧ b ∉ X.fs := by
  have lt : ∀ c o, s.heap.get? c = some o → c ≠ b := fun c o e z => by
    rw [z] at e
    exact Nat.lt_irrefl _ (Nat.lt_of_lt_of_le (Heap.lt_size e) hb)
  refine ⟨⟨I.hok.fresh hb, Nat.le_trans I.sz hb, fun z => ?_, fun x c e => ?_, fun p hp => lt _ _ (I.pin p hp).1⟩, I.nofs hb⟩
  · have h1 := I.lt
    rw [← z] at h1
    exact Nat.lt_irrefl _ (Nat.lt_of_lt_of_le h1 hb)
  · obtain ⟨v, o, ho, _⟩ := I.cell x c e
    exact lt _ _ ho
/-- sorted(e, key=lambda y: body) -/
theorem c_sortK [Tbs] {X : Cx} {e body : Expr} {params : Arguments} {scope : Scope} {p lpos kpos pos : Pos} {fe fb : FE} {c P : Addr} {N fr : List PySem.Str} {y : PySem.Str} {js : List Nat} {k : Nat} {CX : CXT}
    (he : PE X e (tE X.K fe)) (hg : Gl X "sorted") (hm : X.mg "sorted" = none) (TB : TabB X.base X.mg c P) (hcode : X.env.code = .ref c) (hT : (P, X.env.qual ++ "<lambda>") ∈ Tbs.T) (hu : ∀ p ∈ Tbs.T, p.1 = P → p.2 = X.env.qual ++ "<lambda>")
    (hdef : defaultsOf params X.env = ([], [])) (S : NScope N [y] fr scope) (hfree : ∀ y ∈ scope.names, y.2 = .free → X.env.scope.names.lookup y.1 = some .cell ∨ X.env.scope.names.lookup y.1 = some .free) (hfr : ∀ y ∈ fr, (y, NameKind.free) ∈ scope.names) (hjs : js.map (fun j => X.N[j]?) = fr.map some)
    (hb : ∀ (c' : Addr) (pm ctv u : Value), bindArgs (PySem.W.kla_fn "<lambda>" (X.env.qual ++ "<lambda>") params body scope (cloFrom X.env.cells scope.names []) pm (.ref c') ctv) ⟨[u], []⟩ = pure ([y].zip [u]))
    (hr : Room (k + 3) X.A) (hCX : ∀ H s e s', CX X.stack H s (fun _ _ _ => False) e s' → False)
    (hbody : ∀ (f c' : Addr) (s : Shared) (H : Hp) (E : XK), Room k (X.A.in1.in1.deeper (envF ⟨"<lambda>", X.env.qual ++ "<lambda>", params, [], scope, cloFrom X.env.cells scope.names [], c'⟩ f s.heap.objs.size)) →
      PE (ncx CX X.prog X.w X.K X.mg X.base N ⟨"<lambda>", X.env.qual ++ "<lambda>", params, [], scope, cloFrom X.env.cells scope.names [], c'⟩ f X.A.in1.in1 X.stack s H E) body (tE X.K fb))
    (hst : starEach [e] X.env = (false, eval e X.env) :: starEach [] X.env := by rfl) (hbt : backTo pos (starEach [e] X.env) = (false, eval e X.env) :: backTo pos (starEach [] X.env) := by rfl) (hpl : (backTo pos (starEach [e] X.env)).any (·.1) = false := by rfl) :
    PE X (.Call (.Name "sorted" p) [e] [⟨some "key", .Lambda params body scope lpos, kpos⟩] pos) (tE X.K (Esrt fe fb N.length js)) := by
  refine ⟨fun pins s σ H Q I h => ?_⟩
  obtain ⟨θ, G, env, st, d, st', S0, EN0, hf, post⟩ := h
  unfold Esrt at hf
  obtain ⟨⟨d1, st1⟩, h1, hf⟩ := Option.bind_eq_some_iff.mp hf
  obtain ⟨⟨tt, ds⟩, h2, hf⟩ := Option.bind_eq_some_iff.mp hf
  dsimp only at h2 hf
  split at hf
  case isFalse => cases hf
  rename_i hok
  cases hf
  obtain ⟨ok1, ok2, ok3, ok4, ok5⟩ := hok
  refine wpAny_Call_Name_kw (ld_blt I hg hm (u := .builtin "sorted") (by decide +kernel) ?_)
  refine PyProof.Rows.callWith_kw (thn ((a_cons he a_nil hst).run pos pins s σ H _ I (tA.go (f := Acons fe Anil) (xs := [d1]) (st1 := st') S0 EN0 (by show (fe env st).bind _ = _; rw [h1]; rfl) fun θ1 G1 H1 vs e1 S1 EN1 r1 => (show ∃ θ1 G1, Ext θ θ1 G G1 H H1 ∧ Sim X.K θ1 G1 H1 st' ∧ EnvR X.K θ1 G1 σ env ∧ Reps X.K θ1 G1 vs [d1] from ⟨θ1, G1, e1, S1, EN1, r1⟩))) fun us s1 ⟨vs, H1, I1, r1, θ1, G1, e1, S1, EN1, q1⟩ => ?_) hbt hpl
  show wpAny _ _ (evalAll [(do let v ← eval (.Lambda params body scope lpos) X.env; standAt pos; pure v)]) _ _ s1
  refine wpAny_evalAll_cons (wpAny_bind (lam_make3 I1 TB hcode hT hu S1.tb hdef (fun y hy e => (hfree y hy e).elim (fun z => I.ok.has _ (.inl z)) fun z => I.ok.has _ (.inr z)) fun f c' pm ctv H2 s2 I2 k2 t2 hf hfn hfl hff hc => wpAny_bind (wpAny_standAt (wpAny_pure (wpAny_evalAll_nil ?_)))))
  obtain ⟨S2, e2⟩ := S1.lam hT k2 t2
  cases q1 with
  | cons q1 q2 =>
    cases q2
    obtain ⟨u, rfl, ru⟩ : ∃ u, us = [u] ∧ RelV _ u := by cases r1 with | cons a b => cases b; exact ⟨_, rfl, a⟩
    obtain ⟨a0, xs, rfl, hs, hr0⟩ := anyD_now S2 (q1.ext e2) h2
    obtain rfl : u = Value.ref a0 := ru
    obtain ⟨its, rv, hits⟩ := SeqB.items I2 hs
    have hlen : its.length = ds.length := by rw [← rv.length, hr0.len]
    have hL : its.length ≤ sizeLine := by rw [hlen]; exact szl ok5
    show wpAny (model X.prog X.w) X.A (call (.builtin "sorted") [.ref a0] [(Str.ofString "key", .ref f)]) (EP X pins σ Q) X.xe s2
    have body : ∀ E' : Value → Shared → Prop, wpAny (model X.prog X.w) X.A.in1.in1 (Builtin.«list.sort» ⟨[.ref (s2.heap.objs.size + 1)], [(Str.ofString "key", .ref f)]⟩) (fun fl s' => fl = .done (.ret .none) ∧ EP X pins σ Q (.ref (s2.heap.objs.size + 1)) s') E' { s2 with heap := PySem.W.copyHeap s2.heap its } := by
      intro E'
      have ha0 : s2.heap.objs.size ≤ s2.heap.objs.size + 1 := Nat.le_succ _
      generalize hadef : s2.heap.objs.size + 1 = a at ha0 ⊢
      obtain ⟨fa, fa2⟩ := inv_far I2 ha0
      rw [PyProof.Rows.ksk_t1]
      have hcp : (PySem.W.copyHeap s2.heap its).get? a = some (seqObj "list" its.toArray 0) := by rw [← hadef]; exact PySem.W.copyHeap_at s2.heap its
      refine PySem.W.keyJ_tree (s := { s2 with heap := PySem.W.copyHeap s2.heap its }) (n := 0) hcp hL fun el kS h1 hkS hkp hat hkt hlt => ?_
      have hsz : s2.heap.objs.size ≤ kS := by
        have h3 := Heap.lt_size hcp
        have hkS : kS = (PySem.W.copyHeap s2.heap its).objs.size + 1 := hkS
        rw [hkS]
        exact Nat.le_trans ha0 (Nat.le_trans (Nat.le_of_lt h3) (Nat.le_succ _))
      obtain ⟨fk, fk2⟩ := inv_far I2 hsz
      have hne : kS ≠ a := fun z => by
        have h3 := Heap.lt_size hcp
        have hkS : kS = (PySem.W.copyHeap s2.heap its).objs.size + 1 := hkS
        rw [← z, hkS] at h3
        exact Nat.lt_irrefl _ (Nat.lt_trans (Nat.lt_succ_self _) h3)
      have I3 : Inv X pins σ H2 { s2 with heap := PySem.W.copyHeap s2.heap its } := I2.kept (t' := s2.toks) fun b o e => PySem.W.copyHeap_old e
      have I4 : Inv X pins σ H2 { s2 with heap := h1 } := inv_own (s := { s2 with heap := PySem.W.copyHeap s2.heap its }) (ch := [a]) (t' := s2.toks) I3 (fun b hb => by rw [List.mem_singleton] at hb; subst hb; exact fa) fun b o hb e => hkp b o (fun z => hb (by simp [z])) e
      have hf1 : h1.get? f = some (PySem.W.kla_obj "<lambda>" (X.env.qual ++ "<lambda>") params body scope (cloFrom X.env.cells scope.names []) pm c' ctv) := hkp _ _ (fun z => by
        have h3 := Heap.lt_size hf
        rw [z] at h3
        exact Nat.lt_irrefl _ (Nat.lt_of_lt_of_le h3 ha0)) (PySem.W.copyHeap_old hf)
      have nfa : f ≠ a ∧ f ≠ kS := by
        have h3 := Heap.lt_size hf
        exact ⟨fun z => by rw [z] at h3; exact Nat.lt_irrefl _ (Nat.lt_of_lt_of_le h3 ha0), fun z => by rw [z] at h3; exact Nat.lt_irrefl _ (Nat.lt_of_lt_of_le h3 hsz)⟩
      have hkl : (ds.map (keyP fb (lamEnv N.length js env) st')).length = its.length := by rw [List.length_map, hlen]
      have hr1 := hr.in1.in1
      refine PySem.W.keyJ_rest (kz := ds.map (keyP fb (lamEnv N.length js env) st')) (J := fun j kA s' => kA.size = j ∧ (∃ e, s'.heap.get? kS = some (seqObj "list" kA e)) ∧ s'.heap.get? a = some (seqObj "list" #[] el) ∧
          s'.heap.get? f = some (PySem.W.kla_obj "<lambda>" (X.env.qual ++ "<lambda>") params body scope (cloFrom X.env.cells scope.names []) pm c' ctv) ∧ ∃ θ' G' H' kvs kds, Ext θ1 θ' G1 G' H2 H' ∧ Sim X.K θ' G' H' st' ∧ Inv X pins σ H' s' ∧ H' a = none ∧ H' kS = none ∧ H' f = none ∧ Vals kvs kA.toList ∧ Reps X.K θ' G' kvs kds ∧ toPys kds = some ((ds.map (keyP fb (lamEnv N.length js env) st')).take j))
        hne ⟨rfl, ⟨0, hkt⟩, hat, hf1, θ1, G1, H2, [], [], .refl, S2, I4, fa.1, fk.1, hfn, .nil, .nil, by simp [toPys]⟩ hkl hL ok2 ok3 (fun p hp => ?_) (fun j kA s' h => ⟨h.1, h.2.1, h.2.2.1⟩) (fun j v kA s' hv hj => ?_) (fun kA s' hj => ?_) (fun kA s' h' tk out cc hj hkeep hout hko => ?_)
      · obtain ⟨d, hd, rfl⟩ := List.mem_map.mp hp
        have h3 := hr1.units
        have h4 := ok4 d hd
        have h5 : X.A.in1.in1.units + (keyP fb (lamEnv N.length js env) st' d).depth < cLine := by omega
        exact h5
      · obtain ⟨hsz', ⟨e, hkA⟩, haA, hfA, θ', G', H', kvs, kds, x1, x2, x3, x4, x5, x6, x7, x8, x9⟩ := hj
        have hjl : j < its.length := (List.getElem?_eq_some_iff.mp hv).1
        obtain ⟨x, hx, rx⟩ : ∃ x, xs[j]? = some x ∧ RelV x v := by
          have hl := rv.length
          obtain ⟨u, hu, ru⟩ := rv.get (List.getElem?_eq_getElem (by omega : j < xs.length))
          rw [hv] at hu
          cases hu
          exact ⟨_, List.getElem?_eq_getElem _, ru⟩
        obtain ⟨dj, hdj, rdj⟩ := hr0.at' hx
        obtain ⟨pk, hpk⟩ := ok1 dj (List.mem_of_getElem? hdj)
        obtain ⟨kd, hkd, hkp'⟩ := keyD_ok hpk
        have hkP : keyP fb (lamEnv N.length js env) st' dj = pk := by unfold keyP; rw [hpk]; rfl
        have I5 : Inv X (pins ++ [(a, seqObj "list" #[] el), (kS, seqObj "list" kA e), (f, PySem.W.kla_obj "<lambda>" (X.env.qual ++ "<lambda>") params body scope (cloFrom X.env.cells scope.names []) pm c' ctv)]) σ H' s' := x3.pins_of fun p hp => by
          rcases List.mem_append.mp hp with z | z
          · exact x3.pin p (List.mem_append_right _ z)
          · simp only [List.mem_cons, List.not_mem_nil, or_false] at z
            rcases z with rfl | rfl | rfl
            · exact ⟨haA, x4, fa.2.2.1, fa2, fun v z => by cases z⟩
            · exact ⟨hkA, x5, fk.2.2.1, fk2, fun v z => by cases z⟩
            · exact ⟨hfA, x6, hfl, hff, fun v z => by cases z⟩
        have hc5 : H' c' = some (CodeO c' (X.env.qual ++ "<lambda>")) := x1.fr c' _ hc (fun m => by
          obtain ⟨i, hi⟩ := List.mem_iff_getElem?.mp m
          obtain ⟨o, _, ro⟩ := S2.at hi
          cases o with
          | lst ds => obtain ⟨_, h1, _⟩ := ro; rw [hc] at h1; cases h1
          | ins cn ns ds => obtain ⟨_, _, _, _, h1, _⟩ := ro; rw [hc] at h1; cases h1
          | dct ks ds => obtain ⟨_, h1, _⟩ := ro; rw [hc] at h1; cases h1) fun m => by
          obtain ⟨ps, hps⟩ := S2.isT m
          rw [hc] at hps
          cases hps
        have EN5 : EnvR X.K θ' G' σ env := (EN1.ext e2).ext x1
        refine wpAny_call (codeAny_mono (lam_run (N := N) (js := js) (A := X.A.in1.in1) (E := fun _ _ _ => False) (Q := fun w H6 => ∃ θ6 G6, Ext θ' θ6 G' G6 H' H6 ∧ Sim X.K θ6 G6 H6 st' ∧ Rep X.K θ6 G6 w kd) I5 hfA hc5 S (hb c' pm ctv v) (Caps.made I.ok hfree hfr hjs) rfl (by show X.A.handled = none; exact hr.hd) hr1 (.cons rx .nil) rfl (fun s6 H6 hr6 => hbody f c' s6 H6 _ hr6)
          (tE.go x2 (lamEnv_rep EN5 (rdj.ext x1)) hkd fun θ6 G6 H6 v6 e6 S6 _ r6 => ⟨θ6, G6, e6, S6, r6⟩)) fun r s'' hq => ?_)
        cases r with
        | error ee => exact (hCX _ _ _ _ hq).elim
        | ok fl =>
          cases fl with
          | next => exact False.elim hq
          | brk => exact False.elim hq
          | cont => exact False.elim hq
          | ret u =>
            obtain ⟨w, H6, I6, rw6, θ6, G6, e6, S6, r6⟩ := I5.after hq
            have pin : ∀ b o, (b, o) ∈ [(a, seqObj "list" #[] el), (kS, seqObj "list" kA e), (f, PySem.W.kla_obj "<lambda>" (X.env.qual ++ "<lambda>") params body scope (cloFrom X.env.cells scope.names []) pm c' ctv)] → s''.heap.get? b = some o ∧ H6 b = none := fun b o hm => by
              obtain ⟨p1, p2, _⟩ := I6.pin (b, o) (List.mem_append_right _ (List.mem_append_right _ hm))
              exact ⟨p1, p2⟩
            obtain ⟨pa1, pa2⟩ := pin a _ List.mem_cons_self
            obtain ⟨pk1, pk2⟩ := pin kS _ (List.mem_cons_of_mem _ List.mem_cons_self)
            obtain ⟨pf1, pf2⟩ := pin f _ (List.mem_cons_of_mem _ (List.mem_cons_of_mem _ List.mem_cons_self))
            obtain ⟨c2, hc2⟩ : ∃ c2, (s''.heap.update kS (Obj.mapSeq (·.push u))).get? kS = some (seqObj "list" (kA.push u) c2) := ⟨_, get?_update_seq pk1 (·.push u)⟩
            have I7 : Inv X pins σ H6 { s'' with heap := s''.heap.update kS (Obj.mapSeq (·.push u)) } := inv_own (s := s'') (ch := [kS]) (t' := s''.toks) I6.unpinned (fun b hb => by rw [List.mem_singleton] at hb; subst hb; exact ⟨pk2, fk.2⟩) fun b o hb q => by
              rw [Heap.get?_update_ne _ _ _ _ (fun z => hb (by simp [z]))]
              exact q
            refine ⟨e, pk1, by rw [Array.size_push, hsz'], ⟨c2, hc2⟩, by show (s''.heap.update kS _).get? a = _; rw [Heap.get?_update_ne _ _ _ _ hne.symm]; exact pa1, by show (s''.heap.update kS _).get? f = _; rw [Heap.get?_update_ne _ _ _ _ nfa.2]; exact pf1, θ6, G6, H6, kvs ++ [w], kds ++ [kd], x1.trans x2 e6, S6, I7, pa2, pk2, pf2, ?_, (x8.ext e6).snoc r6, ?_⟩
            · rw [Array.toList_push]
              exact x7.append (.cons rw6 .nil)
            · have ek : (ds.map (keyP fb (lamEnv N.length js env) st')).take (j + 1) = (ds.map (keyP fb (lamEnv N.length js env) st')).take j ++ [pk] := by
                rw [List.take_add_one, List.getElem?_map, hdj, Option.map_some, hkP]
                rfl
              rw [ek]
              exact toPys_snoc x9 hkp'
      · obtain ⟨hsz', _, _, _, θ', G', H', kvs, kds, x1, x2, x3, _, _, _, x7, x8, x9⟩ := hj
        have hd := toPys.ok x2.sub kds kvs _ x8 x9
        rw [List.take_of_length_le (by rw [hkl]; exact Nat.le_refl _)] at hd
        exact each_dp x3 x7 hd
      · obtain ⟨hsz', ⟨e, hkA⟩, haA, hfA, θ', G', H', kvs, kds, x1, x2, x3, x4, x5, x6, x7, x8, x9⟩ := hj
        refine ⟨rfl, ?_⟩
        have hR := PySem.W.keyedOut_each (R := fun u d => ∃ v, RelV v u ∧ Rep X.K θ1 G1 v d) (keyP fb (lamEnv N.length js env) st') hko (each_of rv hr0)
        obtain ⟨ys, ry, rys⟩ := each_to hR
        have I5 : Inv X pins σ H' { s' with heap := h' } := inv_own (s := s') (ch := [a, kS]) (t' := s'.toks) x3 (fun b hb => by
          simp only [List.mem_cons, List.not_mem_nil, or_false] at hb
          rcases hb with rfl | rfl
          · exact ⟨x4, fa.2⟩
          · exact ⟨x5, fk.2⟩) fun b o hb q => hkeep b o (fun z => hb (by simp [z])) (fun z => hb (by simp [z])) q
        have hyl : ys.length ≤ sizeLine := by
          rw [rys.len, List.length_mergeSort]
          exact szl ok5
        have I6 : Inv X pins σ (upd H' a (.lst ys)) { s' with heap := h', toks := tk } := by
          have := inv_track (s := { s' with heap := h' }) (o := .lst ys) I5 x4 fa.2.1 fa.2.2.1 fa.2.2.2.1 fa.2.2.2.2 ⟨hyl, out, cc, ry, hout⟩
          exact this.kept (t' := tk) fun _ _ q => q
        refine ⟨.ref a, _, I6, rfl, ?_⟩
        exact PostE.newL (fun θ9 G9 H9 v9 e9 S9 r9 => post θ9 G9 H9 v9 (((e1.trans S1 e2).trans S2 x1).trans x2 e9) S9 r9) x2 x4 (rys.mono x1.pre x1.im _ _)
    cases tt with
    | true => exact PySem.W.sorted_of_sortT (show s2.heap.IsTuple a0 its.toArray from hits) hL (PyProof.Rows.ksk_s1 _ _) (fun _ => PyProof.Rows.ksk_l1 _ _) body
    | false => exact PySem.W.sorted_of_sort (show s2.heap.IsList a0 its.toArray from hits) hL (PyProof.Rows.ksk_s1 _ _) (fun _ => PyProof.Rows.ksk_l1 _ _) body
/-! sorted(xs) of a list -/
noncomputable def pyP (d : D) : PyData := (toPy d).getD .none
def SrtOk1 (ds : List D) : Prop := (∀ d, d ∈ ds → ∃ p, toPy d = some p) ∧ PySem.W.AllAlike (ds.map pyP) ∧ PySem.W.Sortable (ds.map pyP) ∧ (∀ d, d ∈ ds → (pyP d).depth ≤ 32) ∧ ds.length ≤ 16777216
noncomputable def fSrt : D → Sto → Option (D × Sto) := fun d st => open Classical in (sqD st d).bind fun ds => if SrtOk1 ds then some (.lst (ds.mergeSort (PySem.W.dataLe false pyP)), st) else none
theorem each_py {X : Cx} {pins : List (Addr × Obj)} {σ : L2.St} {H : Hp} {s : Shared} {θ : List Addr} {G : Hp} (I : Inv X pins σ H s) (g : Gle G H) : ∀ {vs : List V} {us : List Value} {ds : List D}, Vals vs us → Reps X.K θ G vs ds → (∀ d, d ∈ ds → ∃ p, toPy d = some p) → PySem.W.EachIs (fun u d => ∃ as, Reads s.heap u (pyP d) as) us ds
  | [], _, _, r, h, _ => by cases r; cases h; exact .nil
  | _ :: _, _, d :: ds, r, h, hp => by
    cases r with
    | cons r1 r2 => cases h with
      | cons h1 h2 =>
        obtain ⟨p, e⟩ := hp d List.mem_cons_self
        exact .cons (Dp.reads I _ _ _ (toPy.ok g d _ (pyP d) h1 (by unfold pyP; rw [e]; rfl)) r1) (each_py I g r2 h2 fun x hx => hp x (List.mem_cons_of_mem _ hx))
theorem c_sorted [Tbs] {X : Cx} {e : Expr} {p pos : Pos} {fe : FE} {k : Nat} (he : PE X e (tE X.K fe)) (hg : Gl X "sorted") (hm : X.mg "sorted" = none) (hr : Room k X.A)
    (hst : starEach [e] X.env = (false, eval e X.env) :: starEach [] X.env := by rfl) (hpl : (backTo pos (starEach [] X.env)).any (·.1) = false := by rfl) :
    PE X (.Call (.Name "sorted" p) [e] [] pos) (tE X.K (E1 fSrt fe)) := by
  have hc : ∀ (θ : List Addr) (G : Hp) (st : Sto) (ds : List D), SrtOk1 ds → CallR X (.builtin "sorted") fun vs H Q => ∃ a xs, vs = [.ref a] ∧ SqL X.K H a xs ∧ Reps X.K θ G xs ds ∧ Gle G H ∧ ∀ ys p, Reps X.K θ G ys (ds.mergeSort (PySem.W.dataLe false pyP)) → H p = none → Q (.ref p) (upd H p (.lst ys)) := by
    rintro θ G st ds ⟨ok1, ok2, ok3, ok4, ok5⟩ pins s σ H vs us Q I r ⟨a, xs, rfl, hs, hR, g, q⟩
    obtain rfl := Vals.ref1 r
    obtain ⟨its, rv, hl, hz⟩ := I.list hs
    have hlen : its.length = ds.length := by rw [← rv.length, hR.len]
    refine PySem.W.sorted_data (bs := ds) (enc := pyP) (R := fun u d => ∃ v, RelV v u ∧ Rep X.K θ G v d) hl.isList (each_of rv hR) (each_py I g rv hR ok1) ok2 ok3 (szl ok5) (fun d hd => ?_) fun out ho hR' => ?_
    · have h1 := hr.units
      have h2 := ok4 d hd
      have h3 : X.A.units + 2 + (pyP d).depth < cLine := by omega
      exact h3
    · obtain ⟨ys, ry, rys⟩ := each_to hR'
      obtain ⟨ep, he'⟩ := PyProof.Rows.sortedAll_at s.heap its (List.toArray out)
      have hyl : ys.length ≤ sizeLine := by
        rw [rys.len, List.length_mergeSort]
        exact szl ok5
      exact ⟨.ref _, upd H (s.heap.objs.size + 1) (.lst ys), I.laid (t' := s.toks) (fun _ _ => PyProof.Rows.sortedAll_old) (Nat.le_succ _) ⟨hyl, out, ep, ry, he'⟩, rfl, q _ _ rys (I.hok.fresh (Nat.le_succ _))⟩
  refine ⟨fun pins s σ H Q I h => ?_⟩
  obtain ⟨θ, G, env, st, d, st', S0, EN0, hf, post⟩ := h
  unfold E1 fSrt at hf
  obtain ⟨⟨d1, st1⟩, h1, hf⟩ := Option.bind_eq_some_iff.mp hf
  dsimp only at hf
  obtain ⟨ds, h2, hf⟩ := Option.bind_eq_some_iff.mp hf
  split at hf
  case isFalse => cases hf
  rename_i hok
  cases hf
  refine (pe_callB (id := "sorted") (hc := fun pins s σ H vs us Q I r h => ?_) (r := fun vs H Q => ∃ θ G, (CallR X (.builtin "sorted") fun vs H Q => ∃ a xs, vs = [.ref a] ∧ SqL X.K H a xs ∧ Reps X.K θ G xs ds ∧ Gle G H ∧ ∀ ys p, Reps X.K θ G ys (ds.mergeSort (PySem.W.dataLe false pyP)) → H p = none → Q (.ref p) (upd H p (.lst ys))) ∧ ∃ a xs, vs = [.ref a] ∧ SqL X.K H a xs ∧ Reps X.K θ G xs ds ∧ Gle G H ∧ ∀ ys p, Reps X.K θ G ys (ds.mergeSort (PySem.W.dataLe false pyP)) → H p = none → Q (.ref p) (upd H p (.lst ys))) hg hm (by decide +kernel) (a_cons he a_nil hst) (by decide) (by decide) hst hpl).run pins s σ H Q I ?_
  · obtain ⟨θ, G, hC, hq⟩ := h
    exact hC pins s σ H vs us Q I r hq
  · refine tA.go (f := Acons fe Anil) (xs := [d1]) (st1 := st') S0 EN0 (by show (fe env st).bind _ = _; rw [h1]; rfl) fun θ1 G1 H1 vs e1 S1 EN1 r1 => ?_
    cases r1 with
    | cons r1 r2 =>
      cases r2
      obtain ⟨a, xs, rfl, hs, hR⟩ := sqD.ok S1 r1 h2
      refine ⟨θ1, G1, hc θ1 G1 st' ds hok, a, xs, rfl, hs, hR, S1.sub, fun ys p hy hp => ?_⟩
      exact PostE.newL (fun θ9 G9 H9 v9 e9 S9 r9 => post θ9 G9 H9 v9 (e1.trans S1 e9) S9 r9) S1 hp hy
end
/-! ## defs with lambdas; the law's promise over tables -/
section
variable [Tbs] {P : Program} {w : World} {K : Frag} {mg : PySem.Str → Option Value} {base : Heap}
theorem fn_okL {x qual : PySem.Str} {st : Stmt} {f c : Addr} {fd : FuncData} {N ps : List PySem.Str} {k : Nat} {fb : FS} (F : Fun K x qual st f fd) (hc : fd.code = .ref c) (S : FnScope N ps (defScope st))
    (hbody : ∀ (A : Around) (outer : List PySem.Env) (s : Shared) (H : Hp) (E : XK), Room k (A.deeper (envOfC qual (defScope st) s.heap.objs.size f (.ref c))) →
      PSs (cxOf CX0 P w K mg base N qual (defScope st) f (.ref c) A outer s H E).nox (defBody st) (tS K fb)) : FnOk P w K mg base CX0 (k + 1) f fd ps (spF K ps.length (runF N.length fb)) := by
  obtain ⟨oc, od, kV, doc, pm, an, cdv, ct, osl, rfl, lk, hcd⟩ := F.ex
  cases hc
  refine fn_of lk hcd S (fun vs H Q E h => h.1) fun A outer s H vs Q E hr h => ?_
  refine ⟨_, (hbody A outer s H E hr).nox, ?_⟩
  obtain ⟨hl, θ, G, sto, ds, d, st', S', r, hf, post⟩ := h
  obtain ⟨⟨fl, st2⟩, h1, h2⟩ := Option.bind_eq_some_iff.mp hf
  refine tS.go S' (start_rep r N) h1 fun θ1 G1 H1 e1 S1 => ?_
  cases fl with
  | nx env => cases h2; exact fun σ _ => post _ _ _ _ e1 S1 .non
  | rt d' => cases h2; exact fun v r => post _ _ _ _ e1 S1 r
  | bk _ => cases h2
  | ct _ => cases h2
/-- the law's promise where tables stand -/
def spLawT (T : List (Addr × PySem.Str)) (K : Frag) : Sp := fun vs H Q _ => ∃ (a : Addr) (ns : List Int), vs = [.ref a] ∧ SqL K H a (ns.map V.int) ∧ ns.length ≤ 63 ∧ (∀ p ∈ T, H p.1 = some (.tbl #[])) ∧ ∀ H', Q (.bl true) H'
theorem law_ofT {CX : CXT} {k : Nat} {f : Addr} {fd : FuncData} {ps : List PySem.Str} {m : FC} (F : FnOk P w K mg base CX k f fd ps (spF K 1 m))
    (h : ∀ ns : List Int, ns.length ≤ 63 → ∃ st, m [.sq (ns.map D.int)] [] = some (.bl true, st)) : FnOk P w K mg base CX k f fd ps (spLawT Tbs.T K) :=
  F.imp fun vs H Q E ⟨a, ns, hv, hs, hl, ht, q⟩ => by
    obtain ⟨st, hm⟩ := h ns hl
    subst hv
    have hA : ∀ a, a ∈ tbA → H a = some (.tbl #[]) := fun a ha => by
      obtain ⟨p, hp, rfl⟩ := List.mem_map.mp ha
      exact ht p hp
    let G : Hp := fun a => open Classical in if a ∈ tbA then none else H a
    have hG : ∀ a, a ∉ tbA → G a = H a := fun a n => if_neg n
    have hs' : SqL K G a (ns.map V.int) := by
      have na : ∀ u : HO, (∀ ps, u ≠ .tbl ps) → Rd H a u → Rd G a u := fun u hu r => by
        rcases r with r | ⟨o, r⟩
        · exact .inl (by rw [hG a (fun z => by rw [hA a z] at r; exact hu _ (Option.some.inj r.symm))]; exact r)
        · exact .inr ⟨o, by rw [hG a (fun z => by rw [hA a z] at r; cases r)]; exact r⟩
      rcases hs with r | r
      · exact .inl (na _ (fun ps z => by cases z) r)
      · exact .inr r
    refine ⟨rfl, [], G, [], [.sq (ns.map D.int)], .bl true, st, ⟨fun a o e => ?_, rfl, List.nodup_nil, (fun a m => nomatch m), (fun i a o e => by simp at e), fun p hp => LamX.TabS.nil (ht p hp), fun a m => if_pos m⟩, .cons (.sq hs' (Reps.of_ints ns)) .nil, hm, fun θ' G' H' v _ _ r => ?_⟩
    · by_cases m : a ∈ tbA
      · rw [show G a = none from if_pos m] at e
        cases e
      · rw [hG a m] at e
        exact e
    · cases r
      exact q _
end
section
variable [Tbs]
end
end ML
namespace ML
open PySem PySem.Spec PyProof.Rows L2
/-! ## sorts reckoned -/
def SrtC (kf : D → PyData) (ds : List D) : Prop := PySem.W.AllAlike (ds.map kf) ∧ PySem.W.Sortable (ds.map kf) ∧ (∀ d, d ∈ ds → (kf d).depth ≤ 32) ∧ ds.length ≤ 16777216
theorem sort_same {kf kg : D → PyData} {ds : List D} (h : ∀ d, d ∈ ds → kf d = kg d) : ds.mergeSort (PySem.W.dataLe false kf) = ds.mergeSort (PySem.W.dataLe false kg) :=
  PySem.W.sort_congr fun a ha b hb => by show PySem.W.sortLe _ _ _ a b = PySem.W.sortLe _ _ _ a b; unfold PySem.W.sortLe; simp only [h a ha, h b hb]
theorem map_same {kf kg : D → PyData} {ds : List D} (h : ∀ d, d ∈ ds → kf d = kg d) : ds.map kf = ds.map kg := List.map_congr_left h
theorem x_srt {fe fb : FE} {n : Nat} {js : List Nat} {env : Env} {st : Sto} {QE : D → Sto → Prop} (kf : D → PyData)
    (h : wp (fe env st) fun d st1 => ∃ t ds, anyD st1 d = some (t, ds) ∧ (∀ x, x ∈ ds → wp (fb (lamEnv n js env x) st1) fun k s => s = st1 ∧ toPy k = some (kf x)) ∧ SrtC kf ds ∧ QE (.lst (ds.mergeSort (PySem.W.dataLe false kf))) st1) : wp (Esrt fe fb n js env st) QE := by
  obtain ⟨d, st1, e, t, ds, h1, h2, ⟨h3, h4, h5, h6⟩, h7⟩ := h
  have hk : ∀ x, x ∈ ds → keyD fb (lamEnv n js env) st1 x = some (kf x) := fun x hx => by
    obtain ⟨k, s, e1, rfl, e2⟩ := h2 x hx
    unfold keyD
    rw [e1]
    simp only [Option.bind_some, if_true]
    exact e2
  have hP : ∀ x, x ∈ ds → keyP fb (lamEnv n js env) st1 x = kf x := fun x hx => by unfold keyP; rw [hk x hx]; rfl
  refine ⟨_, st1, ?_, h7⟩
  unfold Esrt
  rw [e]
  simp only [Option.bind_some, h1]
  rw [if_pos ⟨fun x hx => ⟨_, hk x hx⟩, by rw [map_same hP]; exact h3, by rw [map_same hP]; exact h4, fun x hx => by rw [hP x hx]; exact h5 x hx, h6⟩, sort_same hP]
theorem z_srt {d : D} {st : Sto} {QE : D → Sto → Prop} {ds : List D} (kf : D → PyData) (h1 : sqD st d = some ds) (h2 : ∀ x, x ∈ ds → toPy x = some (kf x)) (h3 : SrtC kf ds) (h : QE (.lst (ds.mergeSort (PySem.W.dataLe false kf))) st) : wp (fSrt d st) QE := by
  obtain ⟨a, b, c, e⟩ := h3
  have hP : ∀ x, x ∈ ds → pyP x = kf x := fun x hx => by unfold pyP; rw [h2 x hx]; rfl
  refine ⟨_, st, ?_, h⟩
  unfold fSrt
  rw [h1]
  simp only [Option.bind_some]
  rw [if_pos ⟨fun x hx => ⟨_, h2 x hx⟩, by rw [map_same hP]; exact a, by rw [map_same hP]; exact b, fun x hx => by rw [hP x hx]; exact c x hx, e⟩, sort_same hP]
/-- one list, whatever the order it is handed in, where equal keys mean equal items -/
theorem sort_perm {α : Type} {le : α → α → Bool} (h : PySem.W.TotalLe le) {l m : List α} (p : m.Perm l) (anti : ∀ a, a ∈ l → ∀ b, b ∈ l → le a b = true → le b a = true → a = b) : m.mergeSort le = l.mergeSort le := by
  refine PySem.W.sort_unique h (PySem.W.sort_pairwise h m) fun c => ?_
  rw [PySem.W.sort_stable h]
  have hp := p.filter (PySem.W.sameRank le c)
  have same : ∀ a, a ∈ l.filter (PySem.W.sameRank le c) → ∀ b, b ∈ l.filter (PySem.W.sameRank le c) → a = b := fun a ha b hb => by
    obtain ⟨a1, a2⟩ := List.mem_filter.mp ha
    obtain ⟨b1, b2⟩ := List.mem_filter.mp hb
    unfold PySem.W.sameRank at a2 b2
    rw [Bool.and_eq_true] at a2 b2
    exact anti a a1 b b1 (h.trans _ _ _ a2.2 b2.1) (h.trans _ _ _ b2.2 a2.1)
  cases hl : l.filter (PySem.W.sameRank le c) with
  | nil => rw [hl] at hp; exact hp.eq_nil
  | cons x r =>
    rw [hl] at same hp
    have e1 : (x :: r) = List.replicate (x :: r).length x := List.eq_replicate_of_mem fun y hy => same y hy x List.mem_cons_self
    have e2 : m.filter (PySem.W.sameRank le c) = List.replicate (m.filter (PySem.W.sameRank le c)).length x := List.eq_replicate_of_mem fun y hy => same y (hp.mem_iff.mp hy) x List.mem_cons_self
    rw [e2, hp.length_eq, ← e1]
theorem x_filM {α : Type} {xs : List α} {F G : α → D} {p : α → Bool} {w : Watch} {t : Tg} {ga : FT} {fe : FE} {env : Env} {st : Sto} {QA : List D → Sto → Prop} (hw : watchOk w st)
    (hs : ∀ i, i ∈ xs → ∃ e1, bindT t (F i) env = some e1 ∧ wp (ga e1 st) fun b s1 => (b = p i ∧ s1 = st) ∧ (p i = true → wp (fe e1 st) fun y s2 => y = G i ∧ s2 = st)) (hd : QA ((xs.filter p).map G) st) : wp (compL w t ga fe env (xs.map F) st) QA := by
  induction xs generalizing QA with
  | nil =>
    unfold compL
    exact wp_if hw (wp_some hd)
  | cons x xs ih =>
    rw [List.map_cons]
    unfold compL
    refine wp_if hw ?_
    obtain ⟨e1, hb, q⟩ := hs x (List.mem_cons_self ..)
    rw [hb]
    refine wp_bind (q.mono fun b s1 ⟨⟨h1, h2⟩, h3⟩ => ?_)
    subst h1 h2
    cases hp : p x with
    | true =>
      rw [List.filter_cons_of_pos hp, List.map_cons] at hd
      rw [if_pos rfl]
      refine wp_bind ((h3 hp).mono fun y s2 ⟨h1, h2⟩ => ?_)
      subst h1 h2
      exact wp_bind (ih (QA := fun ys s => QA (G x :: ys) s) (fun i hi => hs i (List.mem_cons_of_mem _ hi)) hd |>.mono fun ys s3 h => wp_some h)
    | false =>
      rw [List.filter_cons_of_neg (by rw [hp]; exact Bool.false_ne_true)] at hd
      rw [if_neg Bool.false_ne_true]
      exact ih (fun i hi => hs i (List.mem_cons_of_mem _ hi)) hd
theorem ints_lst {st : Sto} {ns : List Int} : (listItems st (.lst (ns.map D.int))).bind intsD = some ns := intsD_map ns
end ML

set_option Elab.async false
set_option linter.all false
set_option maxRecDepth 100000
set_option maxHeartbeats 4000000
/-! defs and methods with *values, calls with *values -/
namespace L2
open PySem PySem.Spec PyProof.Rows
theorem starcall3_of {M : Model} {A : Around} {E : Value → Shared → Prop} {s : Shared} {env : Env} {o e1 e2 e3 : Expr} {m : Str} {p apos pos : Pos} {Q : Value → Shared → Prop} (hbase : attributeBase o m env (eval o env) = eval o env)
    (hst : starEach [e1, e2, .Starred e3 p] env = [(false, eval e1 env), (false, eval e2 env), (true, eval e3 env)])
    (h : wpAny M A (eval o env) (fun ov s₁ => wpAny M A (getAttr ov m true) (fun f s₂ => wpAny M A (callWith pos f [] (backTo pos [(false, eval e1 env), (false, eval e2 env), (true, eval e3 env)]) []) Q E s₂) E s₁) E s) :
    wpAny M A (eval (.Call (.Attribute o m apos) [e1, e2, .Starred e3 p] [] pos) env) Q E s := by
  have hke : backToKw pos (keywordEach [] env) = [] := rfl
  have hform : methodCallForm ([e1, e2, Expr.Starred e3 p].length + ([] : List Keyword).length) (backTo pos [(false, eval e1 env), (false, eval e2 env), (true, eval e3 env)]) [] = false := rfl
  have hpos : methodCallPos false o env apos pos = pure pos := rfl
  have hcal : ∀ ov, calleeOf false o env ov m = (getAttr ov m true >>= fun v => pure (v, [])) := fun _ => rfl
  rw [arm_eval_Call, hbase, hst, hke]
  refine wpAny_bind (wpAny_mono h (fun ov s₁ h₁ => ?_) fun _ _ x => x)
  refine wpAny_bind (wpAny_standAt ?_)
  unfold methodCall
  rw [hform, hpos, hcal]
  refine wpAny_bind (wpAny_holding (wpAny_bind (wpAny_mono h₁ (fun f s₂ h₂ => wpAny_pure ?_) fun _ _ x => x)))
  exact wpAny_bind (wpAny_pure h₂)
def tMethSC (K : PySem.W.Frag) (C : Addr) (m : Str) (g : Addr) (sp : Sp) (E : XK) (ta t1 t2 t3 : TE) : TE := fun σ H Q => ta σ H fun x H1 => ∃ a dx fs, x = .ref a ∧ H1 a = some (.ins C dx fs) ∧ fs.lookup m = none ∧
  ∀ q, H1 q = none → t1 σ (upd H1 q (.met g a)) fun y1 H2 => t2 σ H2 fun y2 H3 => t3 σ H3 fun y3 H4 => ∃ b vs, y3 = .ref b ∧ (SqT K H4 b vs ∨ SqL K H4 b vs) ∧ H4 q = some (.met g a) ∧ sp (.ref a :: y1 :: y2 :: vs) H4 Q E
theorem pe_methSC {X : Cx} {CX : CXT} {k : Nat} {C g : Addr} {m : Str} {sp : Sp} {E : XK} {o e1 e2 e3 : Expr} {ta t1 t2 t3 : TE} {p apos pos : Pos} (he : PE X o ta) (c : Cls X.K C) (b : BMeth X.K C m g) (F : FnR X.prog X.w X.K X.mg X.base CX k g sp) (hr : Room k X.A)
    (hx : Passes CX X E) (h1 : PE X e1 t1) (h2 : PE X e2 t2) (h3 : PE X e3 t3) (hbase : attributeBase o m X.env (eval o X.env) = eval o X.env := by rfl)
    (hst : starEach [e1, e2, .Starred e3 p] X.env = [(false, eval e1 X.env), (false, eval e2 X.env), (true, eval e3 X.env)] := by rfl) : PE X (.Call (.Attribute o m apos) [e1, e2, .Starred e3 p] [] pos) (tMethSC X.K C m g sp E ta t1 t2 t3) := by
  refine ⟨fun pins s σ H Q I h => ?_⟩
  refine starcall3_of hbase hst (thn (he.run pins s σ H _ I h) fun u s1 ⟨x, H1, I1, rx, a, dx, fs, ex, ea, l, q⟩ => ?_)
  subst ex
  obtain rfl : u = Value.ref a := rx
  refine getbound_ok I1 ea c b l fun q1 s2 hq1 I2 => ?_
  refine PySem.W.ks_call (P := PySem.W.MethP X.K q1 g (.ref a)) rfl (PySem.W.keeps_M b.fi) (Calls.evalArgs_plain (Calls.spliced_cons (thn (h1.run pins s2 σ _ _ I2 (q q1 hq1)) fun v1 s3 ⟨y1, H2, I3, ry1, q2⟩ =>
    Calls.spliced_cons (thn (h2.run pins s3 σ H2 _ I3 q2) fun v2 s4 ⟨y2, H3, I4, ry2, q3⟩ =>
    PySem.W.ks_spliced (thn (h3.run pins s4 σ H3 _ I4 q3) fun v3 s5 ⟨y3, H4, I5, ry3, t, vs, ey, ht, hm, hsp⟩ => ?_)))))
  subst ey
  obtain rfl : v3 = Value.ref t := ry3
  refine StX.star_any I5 ht fun us s6 I6 rv => Calls.spliced_nil ?_
  show PySem.W.MethP X.K q1 g (.ref a) s6.heap ∧ wpAny (model X.prog X.w) X.A (call (.ref q1) (v1 :: v2 :: (us ++ [])) []) (EP X pins σ Q) X.xe s6
  rw [List.append_nil]
  exact ⟨met_P I6 hm, wpAny_call (PySem.W.method_call (met_P I6 hm).1 (run_fnR (us := Value.ref a :: v1 :: v2 :: us) (vs := V.ref a :: y1 :: y2 :: vs) F hr hx I6 (.cons rfl (.cons ry1 (.cons ry2 rv))) hsp))⟩
end L2
namespace ML
open PySem PySem.Spec PyProof.Rows L2
/-- np arguments by themselves, the rest as a tuple -/
def pack (np : Nat) (ds : List D) : List D := ds.take np ++ [.tup (ds.drop np)]
def arS (np : Nat) (f : FC) : FC := fun ds st => if np ≤ ds.length ∧ ds.length ≤ 16777216 then f (pack np ds) st else none
def spFS [Tbs] (K : Frag) (f : FC) : Sp := fun vs H Q _ => ∃ θ G st ds d st', Sim K θ G H st ∧ Reps K θ G vs ds ∧ f ds st = some (d, st') ∧ PostE K θ G H st' d Q
theorem Reps.split {K : Frag} {θ : List Addr} {G : Hp} {n : Nat} : ∀ {vs : List V} {ds : List D}, Reps K θ G vs ds → Reps K θ G (vs.take n) (ds.take n) ∧ Reps K θ G (vs.drop n) (ds.drop n) := by
  induction n with
  | zero => intro vs ds h; exact ⟨.nil, h⟩
  | succ n ih =>
    intro vs ds h
    cases h with
    | nil => exact ⟨.nil, .nil⟩
    | cons r rs => exact ⟨.cons r (ih rs).1, (ih rs).2⟩
section
variable {P : Program} {w : World} {K : Frag} {mg : PySem.Str → Option Value} {base : Heap}
theorem fn_okS [Tbs] {x qual pv : PySem.Str} {st : Stmt} {f : Addr} {fd : FuncData} {N ps : List PySem.Str} {k : Nat} {fb : FS} (F : Fun K x qual st f fd) (S : FnScope N (ps ++ [pv]) (defScope st))
    (hb : ∀ (kV doc pm : Value) (an : Option Addr) (cdv ct : Value) (us rest : List Value), us.length = ps.length → bindArgs (PySem.W.fnOf x qual (defArgs st) (defBody st) (defScope st) .none kV doc pm an cdv ct) ⟨us ++ rest, []⟩ = (newTuple rest >>= fun t => pure (ps.zip us ++ [(pv, t)])))
    (hbody : ∀ (cdv : Value) (A : Around) (outer : List PySem.Env) (s : Shared) (H : Hp) (E : XK), Room k (A.deeper (envOfC qual (defScope st) s.heap.objs.size f cdv)) →
      PSs (cxOf CX0 P w K mg base N qual (defScope st) f cdv A outer s H E).nox (defBody st) (tS K fb)) : FnR P w K mg base CX0 (k + 1) f (spFS K (arS ps.length (runF N.length fb))) := by
  obtain ⟨oc, od, kV, doc, pm, an, cdv, ct, osl, rfl, lk, hcd⟩ := F.ex
  refine (StX.fn_star (sp := spF K (ps ++ [pv]).length (runF N.length fb)) lk hcd S StX.cxUp_none (hb kV doc pm an cdv ct) fun A outer s H vs Q E hr h => ?_).imp fun vs H Q E ⟨θ, G, sto, ds, d, st', S', r, hf, post⟩ => ?_
  · refine ⟨_, (hbody cdv A outer s H E hr).nox, ?_⟩
    obtain ⟨hl, θ, G, sto, ds, d, st', S', r, hf, post⟩ := h
    obtain ⟨⟨fl, st2⟩, h1, h2⟩ := Option.bind_eq_some_iff.mp hf
    refine tS.go S' (start_rep r N) h1 fun θ1 G1 H1 e1 S1 => ?_
    cases fl with
    | nx env => cases h2; exact fun σ _ => post _ _ _ _ e1 S1 .non
    | rt d' => cases h2; exact fun v r => post _ _ _ _ e1 S1 r
    | bk _ => cases h2
    | ct _ => cases h2
  · unfold arS at hf
    split at hf
    · rename_i hl
      have hv := r.len
      obtain ⟨r1, r2⟩ := Reps.split (n := ps.length) r
      refine ⟨vs.take ps.length, vs.drop ps.length, (List.take_append_drop _ _).symm, by rw [List.length_take]; omega, szl (by rw [List.length_drop]; omega), fun p hp => ?_⟩
      have e := Ext.newG S' hp (.tup (vs.drop ps.length))
      refine ⟨by rw [List.length_append, List.length_append, List.length_take]; simp; omega, θ, _, sto, pack ps.length ds, d, st', S'.newG hp _, Reps.snoc (r1.ext e) (.tup (.inl (.inl upd_same)) (r2.ext e)), hf, fun θ' G' H' v e' s' r' => post _ _ _ _ (e.trans (S'.newG hp _) e') s' r'⟩
    · cases hf
end
section
variable {X : Cx} {o e e2 e3 : Expr} {es : List Expr} {fo f1 f2 f3 : FE} {g : FA} {cn m : PySem.Str} {C f : Addr} {k : Nat} {fm : FC} {pos apos p : Pos}
theorem goMtS [Tbs] (hC : PySem.W.nsIn X.K PySem.mainGlobals cn = some (some (.ref C))) {σ : L2.St} {H : Hp} {Q : VK} {E : XK} (h : tE X.K (Emt cn m fm fo g) σ H Q) : tMethR C m (spFS X.K fm) E (tE X.K fo) (tA X.K g) σ H Q := by
  obtain ⟨θ, G, env, st, d, st', S, EN, hf, post⟩ := h
  obtain ⟨⟨x, st1⟩, h1, h2⟩ := Option.bind_eq_some_iff.mp hf
  refine tE.go S EN h1 fun θ1 G1 H1 v1 e1 S1 EN1 r1 => ?_
  dsimp only at h2
  split at h2
  · rename_i n
    split at h2
    · rename_i c ns ds hst
      split at h2
      · rename_i hc
        obtain ⟨hc, hm⟩ := hc
        subst hc
        obtain ⟨⟨xs, st2⟩, h3, h4⟩ := Option.bind_eq_some_iff.mp h2
        cases r1 with
        | ref hr1 =>
          obtain ⟨ob, ho2, hr⟩ := S1.at hr1
          rw [hst] at ho2
          cases ho2
          obtain ⟨C', dx, vs, hC', hH, hl, hR⟩ := hr
          rw [hC] at hC'
          cases hC'
          refine ⟨_, dx, _, rfl, hH, zip_none hm, ?_⟩
          refine tA.go S1 EN1 h3 fun θ2 G2 H2 us e2 S2 EN2 r2 => ?_
          have rs : Reps X.K θ2 G2 (V.ref _ :: us) (D.ref n :: xs) := .cons ((Rep.ref hr1).ext e2) r2
          exact ⟨θ2, G2, st2, _, d, st', S2, rs, h4, fun θ' G' H' v e' S' r' => post _ _ _ _ ((e1.trans S1 e2).trans S2 e') S' r'⟩
      · cases h2
    · cases h2
  · cases h2
/-- o.m(e, ..), m a method with *values -/
theorem c_methS [Tbs] {pl : Sem Bool} (hC : PySem.W.nsIn X.K PySem.mainGlobals cn = some (some (.ref C))) (ho : PE X o (tE X.K fo)) (c : Cls X.K C) (hm : Meth X.K C m f) (F : FnR X.prog X.w X.K X.mg X.base CX0 k f (spFS X.K fm)) (hr : Room k X.A) (ha : PA X (e :: es) (tA X.K g))
    (hst : starEach (e :: es) X.env = (false, eval e X.env) :: starEach es X.env := by rfl) (hpl : (backTo pos (starEach es X.env)).any (·.1) = false := by rfl)
    (ht : eval (.Call (.Attribute o m apos) (e :: es) [] pos) X.env = (do
      let ov ← eval o X.env
      standAt apos.atName
      let (f, first) ← holding [ov] (getMethod ov m pl)
      callWith pos f first (backTo pos (starEach (e :: es) X.env)) (backToKw pos (keywordEach [] X.env))) := by rfl) :
    PE X (.Call (.Attribute o m apos) (e :: es) [] pos) (tE X.K (Emt cn m fm fo g)) :=
  peImp (pe_methR ho c hm F hr pass0 ha hst hpl ht) fun _ _ _ h => goMtS hC h
/-- what *e hands on -/
def spD : D → Option (List D)
  | .tup ds => some ds
  | .lst ds => some ds
  | .sq ds => some ds
  | _ => none
def EmtSC (cn m : PySem.Str) (fm : FC) (fo f1 f2 f3 : FE) : FE := fun env st => (fo env st).bind fun p => match p.1 with
  | .ref n => match p.2[n]? with
    | some (.ins c ns _) => if c = cn ∧ m ∉ ns then (f1 env p.2).bind fun q1 => (f2 env q1.2).bind fun q2 => (f3 env q2.2).bind fun q3 => (spD q3.1).bind fun ds => fm (.ref n :: q1.1 :: q2.1 :: ds) q3.2 else none
    | _ => none
  | _ => none
theorem goMtSC [Tbs] (hC : PySem.W.nsIn X.K PySem.mainGlobals cn = some (some (.ref C))) {σ : L2.St} {H : Hp} {Q : VK} {E : XK} (h : tE X.K (EmtSC cn m fm fo f1 f2 f3) σ H Q) : tMethSC X.K C m f (spFS X.K fm) E (tE X.K fo) (tE X.K f1) (tE X.K f2) (tE X.K f3) σ H Q := by
  obtain ⟨θ, G, env, st, d, st', S, EN, hf, post⟩ := h
  obtain ⟨⟨x, st1⟩, h1, h2⟩ := Option.bind_eq_some_iff.mp hf
  refine tE.go S EN h1 fun θ1 G1 H1 v1 e1 S1 EN1 r1 => ?_
  dsimp only at h2
  split at h2
  · rename_i n
    split at h2
    · rename_i c ns ds hst
      split at h2
      · rename_i hc
        obtain ⟨hc, hm⟩ := hc
        subst hc
        obtain ⟨⟨x1, s1⟩, h3, h4⟩ := Option.bind_eq_some_iff.mp h2
        obtain ⟨⟨x2, s2⟩, h5, h6⟩ := Option.bind_eq_some_iff.mp h4
        obtain ⟨⟨x3, s3⟩, h7, h8⟩ := Option.bind_eq_some_iff.mp h6
        obtain ⟨xs, h9, h10⟩ := Option.bind_eq_some_iff.mp h8
        cases r1 with
        | @ref _ a hr1 =>
          obtain ⟨ob, ho2, hr⟩ := S1.at hr1
          rw [hst] at ho2
          cases ho2
          obtain ⟨C', dx, vs, hC', hH, hl, hR⟩ := hr
          rw [hC] at hC'
          cases hC'
          refine ⟨_, dx, _, rfl, hH, zip_none hm, fun q hq => ?_⟩
          have ndθ : q ∉ θ1 := fun mm => by
            obtain ⟨u, hu⟩ := S1.there mm
            rw [hu] at hq
            cases hq
          have ndT := S1.noT hq
          have Sq := S1.other (S1.gnone hq) ndθ (.inl hq) (.met f a)
          have eq := (Ext.refl (θ := θ1) (G := G1) (H := H1)).other hq (.met f a)
          refine tE.go Sq EN1 h3 fun θ2 G2 H2 u1 e2 S2 EN2 r2 => ?_
          refine tE.go S2 EN2 h5 fun θ3 G3 H3 u2 e3 S3 EN3 r3 => ?_
          refine tE.go S3 EN3 h7 fun θ4 G4 H4 u3 e4 S4 EN4 r4 => ?_
          have e234 := (e2.trans S2 e3).trans S3 e4
          have hmq : H4 q = some (.met f a) := e234.fr q _ upd_same ndθ ndT
          have eAll := (e1.trans S1 eq).trans Sq e234
          have rn : Rep X.K θ4 G4 (V.ref a) (D.ref n) := (Rep.ref hr1).ext (eq.trans Sq e234)
          have ru1 := r2.ext (e3.trans S3 e4)
          have ru2 := r3.ext e4
          have fin : ∀ (b : Addr) (us : List V), Reps X.K θ4 G4 us xs → spFS X.K fm (V.ref a :: u1 :: u2 :: us) H4 Q E := fun b us ru => ⟨θ4, G4, s3, _, d, st', S4, .cons rn (.cons ru1 (.cons ru2 ru)), h10, fun θ' G' H' v e' S' r' => post _ _ _ _ (eAll.trans S4 e') S' r'⟩
          cases r4 with
          | tup ht hrs => cases h9; exact ⟨_, _, rfl, .inl (S4.t ht), hmq, fin 0 _ hrs⟩
          | lst ht hrs => cases h9; exact ⟨_, _, rfl, .inr (.inl (.inl (S4.sub _ _ ht))), hmq, fin 0 _ hrs⟩
          | sq ht hrs => cases h9; exact ⟨_, _, rfl, .inr (S4.l ht), hmq, fin 0 _ hrs⟩
          | _ => cases h9
      · cases h2
    · cases h2
  · cases h2
/-- o.m(e1, e2, *e3) -/
theorem c_methSC [Tbs] (hC : PySem.W.nsIn X.K PySem.mainGlobals cn = some (some (.ref C))) (ho : PE X o (tE X.K fo)) (c : Cls X.K C) (b : BMeth X.K C m f) (F : FnR X.prog X.w X.K X.mg X.base CX0 k f (spFS X.K fm)) (hr : Room k X.A) (h1 : PE X e (tE X.K f1)) (h2 : PE X e2 (tE X.K f2)) (h3 : PE X e3 (tE X.K f3))
    (hbase : attributeBase o m X.env (eval o X.env) = eval o X.env := by rfl)
    (hst : starEach [e, e2, .Starred e3 p] X.env = [(false, eval e X.env), (false, eval e2 X.env), (true, eval e3 X.env)] := by rfl) :
    PE X (.Call (.Attribute o m apos) [e, e2, .Starred e3 p] [] pos) (tE X.K (EmtSC cn m fm fo f1 f2 f3)) :=
  peImp (pe_methSC ho c b F hr pass0 h1 h2 h3 hbase hst) fun _ _ _ h => goMtSC hC h
end
end ML

set_option Elab.async false
set_option linter.all false
set_option maxRecDepth 100000
set_option maxHeartbeats 4000000
/-! super().m(..) within a method of a plain class, the receiver an instance of exactly this class -/
namespace SUO
open PySem PySem.Spec PySem.Calls PyProof.Rows L2 NdefX
/-- F: the method (at f) of the class at D, __class__'s cell at cc; m: the method of the base that is called, at g -/
structure SupT (P : Program) (K : PySem.W.Frag) (F : NF) (f D cc : Addr) (m : Str) (g : Addr) : Prop where
  lk : ∃ (oc : Value) (od : Option Addr) (fd : FuncData) (osl : Array (Option Value)) (ar : Arg), K.lookup f = some ⟨oc, od, .func fd, osl⟩ ∧ (fd.params.posonlyargs ++ fd.params.args).head? = some ar ∧ ar.arg = "self"
  code : ∃ ccl cdd vs ccs file tf, K.lookup F.c = some ⟨ccl, cdd, .fields vs, ccs⟩ ∧ vs[2]? = some (.str file tf) ∧ ((P.main.file : Str) == file) = true
  cell : ∃ cl cld csl, K.lookup cc = some ⟨cl, cld, .cell (some (.ref D)), csl⟩
  cl : F.cl = [(("__class__" : Str), cc)]
  cls : ∃ cd, PySem.W.clsIn K D = some cd
  self : PySem.W.mroIn K D (.ref D) = some true
  sup : PySem.W.ks_superIn K D D m = some (some (.ref g))
  tg : PySem.W.typeIn K (.ref g) = some (.type "function")
  fi : PySem.W.fnIn K g = true
  zs : PySem.W.nsIn K mainGlobals "super" = some none
  top : (P.main.scope.names.lookup ("super" : Str)).isSome = false
  opq : PySem.W.nsIn K cStatics "thirdparty.any" = some none
  nm : (m == ("__class__" : Str)) = false
  ks : F.scope.names.lookup ("super" : Str) = some .globalImplicit
  kc : F.scope.names.lookup ("__class__" : Str) = some .free
  kd : F.scope.kind = .function
section
variable {X : Cx} {pins : List (Addr × Obj)} {σ : L2.St} {H : Hp} {s : Shared} {F : NF} {f D cc g L a dx : Addr} {m : Str} {fs : List (Str × V)} {i : Nat} {E : Value → Shared → Prop}
theorem super_expr (T : SupT X.prog X.K F f D cc m g) (I : Inv X pins σ H s) (hE : X.env = envF F f L) (hN : X.N[i]? = some ("self" : Str)) (hs : σ[i]? = some (some (.ref a))) (hv : F.scope.names.lookup ("self" : Str) = some .local) (e : H a = some (.ins D dx fs))
    {args : List Expr} {p0 p1 p2 p3 : Pos} {body : List Stmt} {pl : Sem Bool} {Q : Value → Shared → Prop}
    (he : eval (.Call (.Attribute (.Call (.Name "super" p0) [] [] p1) m p2) args [] p3) X.env = (do
      let ov ← attributeBase (.Call (.Name "super" p0) [] [] p1) m X.env (eval (.Call (.Name "super" p0) [] [] p1) X.env)
      standAt p2.atName
      let (f, first) ← holding [ov] (getMethod ov m pl)
      callWith p3 f first (backTo p3 (starEach args X.env)) []))
    (k : ∀ q s', H q = none → Inv X pins σ (upd H q (.met g a)) s' → wpAny (model X.prog X.w) X.A (callWith p3 (.ref q) [] (backTo p3 (starEach args X.env)) []) Q E s') :
    _root_.PySem.wpAt (model X.prog X.w) X.A (.func body X.env) (eval (.Call (.Attribute (.Call (.Name "super" p0) [] [] p1) m p2) args [] p3) X.env) Q E s := by
  obtain ⟨oc, od, fd, osl, ar, lk, hp, har⟩ := T.lk
  obtain ⟨ccl, cdd, vs, ccs, file, tf, hcode, hvs, hfile⟩ := T.code
  obtain ⟨cl, cld, csl, hcell⟩ := T.cell
  obtain ⟨cd, hcd⟩ := T.cls
  have M := I.mod
  have KX := I.kIn
  have kb := I.bk
  obtain ⟨mb, hmb, hmb2⟩ := M.blt
  obtain ⟨ml, hns, hl⟩ := I.loc
  have vis : Vis X.env.scope "self" := .inl (by rw [hE]; exact hv)
  obtain ⟨u, ru, lu⟩ := hl i "self" (.ref a) hN hs vis
  obtain rfl : u = Value.ref a := ru
  have hself : ml "self" = some (.ref a) := by
    rcases lu with ⟨_, hm⟩ | ⟨hk, _⟩
    · exact hm
    · have : X.env.scope.names.lookup ("self" : Str) = some .local := by rw [hE]; exact hv
      rcases hk with hk | hk
      · have hk : X.env.scope.names.lookup ("self" : Str) = some .cell := hk
        rw [this] at hk; cases hk
      · have hk : X.env.scope.names.lookup ("self" : Str) = some .free := hk
        rw [this] at hk; cases hk
  obtain ⟨oD, hD1, hD2⟩ : ∃ oD, s.heap.get? D = some oD ∧ oD.data = .cls cd := by
    have hcd := hcd
    unfold PySem.W.clsIn at hcd
    split at hcd
    · rename_i ho
      cases hcd
      exact ⟨_, KX _ _ ho, rfl⟩
    · cases hcd
  obtain ⟨mA, O, _, _, _, _⟩ := ins_get I.hok e
  obtain ⟨odx, J, _⟩ := O.look
  refine ks_wpAt_MethodCall (he := he) ?_
  rw [hE] at hns ⊢
  have hck : (envF F f L).kindOf "__class__" = some .free := T.kc
  have hcl : (envF F f L).cells.lookup ("__class__" : Str) = some cc := by
    show F.cl.lookup ("__class__" : Str) = _
    rw [T.cl]
    rfl
  refine ks_wpAt_super_base (env := envF F f L) T.ks T.kc T.nm rfl (KX _ _ lk) rfl hp rfl (KX _ _ hcode) rfl hvs hfile T.top ?_
  refine PySem.W.ks_loadName_global T.kd T.ks (PySem.Calls.loadGlobal_builtin (env := envF F f L) (M.glob.keeps kb) (PySem.W.mg_none_of M.kin M.glob T.zs) (hmb.keeps kb) ((hmb2 _ (by decide)).trans PyProof.Rows.Boot.«super») ⟨rfl, ?_⟩)
  refine wpAny_loadName_free T.kd T.kc hcl ⟨_, KX _ _ hcell, rfl⟩ ?_
  rw [har]
  refine wpAny_loadName_local T.kd hv hns hself ?_
  refine ks_wpAny_isType_cls hD1 hD2 ⟨rfl, ?_⟩
  refine ks_wpAny_call_super hD1 hD2 J.at_ J.cls (fun c z => ?_) (PySem.W.looks_mroIn KX T.self) fun h2 e2 k2 => ?_
  · have := J.no
    unfold PySem.W.notCls at this
    rw [z] at this
    exact Bool.noConfusion this
  have I2 : Inv X pins σ H { s with heap := h2 } := I.kept (t' := s.toks) k2
  have X2 : X.K.In h2 := I2.kIn
  obtain ⟨mA2, O2, _, _, _, _⟩ := ins_get I2.hok e
  obtain ⟨od2, J2, _⟩ := O2.look
  have hm := T.sup
  unfold PySem.W.ks_superIn at hm
  rw [hcd] at hm
  obtain ⟨of, hof, hofc⟩ : ∃ of, h2.get? g = some of ∧ of.cls = .type "function" := by
    have ht' : (X.K.lookup g).map (·.cls) = some (.type "function") := T.tg
    cases z : X.K.lookup g with
    | none => rw [z] at ht'; cases ht'
    | some of => rw [z] at ht'; exact ⟨of, X2 _ _ z, Option.some.inj ht'⟩
  refine ks_wpAny_getMethod_super e2 (PySem.W.looks_opaque X2 T.opq) (l₀ := cd.mro) ?_ rfl X2 hm hof hofc (PySem.W.ks_ne X2 J2 hcd) T.nm ?_
  · exact fun A Q E s k q => wpAny_bind ((PySem.W.looks_clsIn X2 hcd) A _ E s k (wpAny_pure q))
  · have k3 := k h2.objs.size { s with heap := h2.push { cls := .type "method", data := .fields #[.ref g, .ref a] }, toks := s.toks + 1 } (I2.hok.fresh (Nat.le_refl _))
      (I2.laid (t' := s.toks + 1) (a := h2.objs.size) (o := .met g a) (fun b u z => Heap.get?_push_of_some _ z) (Nat.le_refl _) (show (h2.push (PySem.W.methodObj (.ref g) (.ref a))).get? h2.objs.size = some (PySem.W.methodObj (.ref g) (.ref a)) from Heap.get?_push_size h2 rfl))
    rw [hE] at k3
    exact k3
/-! ### statements at their level -/
structure PSa (X : Cx) (body : List Stmt) (st : Stmt) (t : TS) : Prop where
  run : ∀ (pins : List (Addr × Obj)) (s : Shared) (σ : L2.St) (H : Hp) (D : Ends), Inv X pins σ H s → t D σ H → _root_.PySem.wpAt (model X.prog X.w) X.A (.func body X.env) (exec st X.env) (SP X pins D) X.xe s
structure PSas (X : Cx) (body : List Stmt) (st : List Stmt) (t : TS) : Prop where
  run : ∀ (pins : List (Addr × Obj)) (s : Shared) (σ : L2.St) (H : Hp) (D : Ends), Inv X pins σ H s → t D σ H → _root_.PySem.wpAt (model X.prog X.w) X.A (.func body X.env) (execs st X.env) (SP X pins D) X.xe s
variable {body rest : List Stmt} {st : Stmt} {t u : TS}
theorem psa_of (h : PS X st t) : PSa X body st t := ⟨fun pins s σ H D I q => wpAt_of_wpAny (h.run pins s σ H D I q)⟩
theorem psas_of (h : PSs X rest t) : PSas X body rest t := ⟨fun pins s σ H D I q => wpAt_of_wpAny (h.run pins s σ H D I q)⟩
theorem psas_nox (h : PSas X.nox body rest t) : PSas X body rest t := ⟨fun pins s σ H D I hw => ks_wpAt_mono (h.run pins s σ H D (I.wish _) hw) (fun _ _ q => q.unwish) fun _ _ q => False.elim q⟩
theorem psas_cons (h1 : PSa X body st t) (h2 : PSas X body rest u) : PSas X body (st :: rest) (tSeq t u) := by
  refine ⟨fun pins s σ H D I h => ?_⟩
  refine ks_wpAt_execs_cons (ks_wpAt_mono (h1.run pins s σ H { D with nx := u D } I h) (fun f s1 q => ?_) fun _ _ x => x)
  cases f with
  | next =>
    obtain ⟨σ', H', I', q⟩ := q
    exact h2.run pins s1 σ' H' D I' q
  | ret v => exact q
  | brk => exact q
  | cont => exact q
end
end SUO
namespace ML
open PySem PySem.Spec PySem.Calls PyProof.Rows L2 NdefX SUO
/-- super().m(e), the receiver in slot i -/
def Ssup (i : Nat) (cn : PySem.Str) (fm : FC) (f : FE) : FS := fun env st => match env[i]? with
  | some (some (.ref n)) => match st[n]? with
    | some (.ins c _ _) => if c = cn then (f env st).bind fun p => (fm [.ref n, p.1] p.2).bind fun q => some (.nx env, q.2) else none
    | _ => none
  | _ => none
section
variable {X : Cx} {body rest : List Stmt} {st : Stmt} {f g : FS} {F : NF} {fa D cc ga L : Addr} {m cn : PySem.Str} {i k : Nat} {fd : FuncData} {ps : List PySem.Str} {fm : FC} {fe : FE} {e : Expr}
theorem ka_of [Tbs] (h : PS X st (tS X.K f)) : PSa X body st (tS X.K f) := psa_of h
theorem ka_rest [Tbs] (h : PSs X rest (tS X.K f)) : PSas X body rest (tS X.K f) := psas_of h
theorem ka_cons [Tbs] (h : PSa X body st (tS X.K f)) (hr : PSas X body rest (tS X.K g)) : PSas X body (st :: rest) (tS X.K (Sseq f g)) := by
  refine ⟨fun pins s σ H D I ⟨θ, G, env, sto, d, st', S, EN, hf, post⟩ => ?_⟩
  refine (psas_cons h hr).run pins s σ H D I ?_
  obtain ⟨⟨fl, st1⟩, h1, h2⟩ := Option.bind_eq_some_iff.mp hf
  refine tS.go S EN h1 fun θ1 G1 H1 e1 S1 => FlP.of_seq (fun env1 he σ1 EN1 => ?_) fun hn => ?_
  · subst he
    exact tS.go S1 EN1 h2 fun θ2 G2 H2 e2 S2 => post _ _ _ (e1.trans S1 e2) S2
  · cases fl with
    | nx env1 => exact absurd rfl (hn env1)
    | rt _ => cases h2; exact post _ _ _ e1 S1
    | bk _ => cases h2; exact post _ _ _ e1 S1
    | ct _ => cases h2; exact post _ _ _ e1 S1
theorem ka_super [Tbs] {p0 p1 p2 p3 p4 : Pos} {pl : Sem Bool} (T : SupT X.prog X.K F fa D cc m ga) (hC : PySem.W.nsIn X.K PySem.mainGlobals cn = some (some (.ref D))) (hE : X.env = envF F fa L) (hN : X.N[i]? = some ("self" : PySem.Str)) (hv : F.scope.names.lookup ("self" : PySem.Str) = some .local)
    (B : FnOk X.prog X.w X.K X.mg X.base CX0 k ga fd ps (spF X.K 2 fm)) (hr : Room k X.A) (hb : Binds X.K fd ps []) (he : PE X e (tE X.K fe))
    (hst : starEach [e] X.env = [(false, eval e X.env)] := by rfl) (hi : interactive X.env = false := by rfl) (hsw : swapsWith (.Call (.Attribute (.Call (.Name "super" p0) [] [] p1) m p2) [e] [] p3) none p4.line X.env = pure false := by rfl)
    (hc : eval (.Call (.Attribute (.Call (.Name "super" p0) [] [] p1) m p2) [e] [] p3) X.env = (do
      let ov ← attributeBase (.Call (.Name "super" p0) [] [] p1) m X.env (eval (.Call (.Name "super" p0) [] [] p1) X.env)
      standAt p2.atName
      let (f, first) ← holding [ov] (getMethod ov m pl)
      callWith p3 f first (backTo p3 (starEach [e] X.env)) []) := by rfl) :
    PSa X body (.Expr (.Call (.Attribute (.Call (.Name "super" p0) [] [] p1) m p2) [e] [] p3) p4) (tS X.K (Ssup i cn fm fe)) := by
  refine ⟨fun pins s σ H Dn I ⟨θ, G, env, sto, d, st', S, EN, hf, post⟩ => ?_⟩
  unfold Ssup at hf
  split at hf
  · rename_i n hen
    split at hf
    · rename_i c ns ds hst2
      split at hf
      · rename_i hcn
        subst hcn
        obtain ⟨⟨x, s1⟩, h1, h2⟩ := Option.bind_eq_some_iff.mp hf
        obtain ⟨⟨y, s2⟩, h3, h4⟩ := Option.bind_eq_some_iff.mp h2
        cases h4
        obtain ⟨v, hσ, rv⟩ := EN.2 i _ hen
        cases rv with
        | @ref _ a hra =>
          obtain ⟨ob, ho2, hr2⟩ := S.at hra
          rw [hst2] at ho2
          cases ho2
          obtain ⟨C', dx, vs, hC', hH, hl, hR⟩ := hr2
          rw [hC] at hC'
          cases hC'
          refine ks_wpAt_Expr_any (hi := hi) (hs := hsw) (super_expr T I hE hN hσ hv hH hc fun q s3 hq I3 => ?_)
          have ndθ : q ∉ θ := fun mm => by
            obtain ⟨u, hu⟩ := S.there mm
            rw [hu] at hq
            cases hq
          have ndT := S.noT hq
          have Sq := S.other (S.gnone hq) ndθ (.inl hq) (.met ga a)
          have eq := (Ext.refl (θ := θ) (G := G) (H := H)).other hq (.met ga a)
          rw [hst]
          refine callwith_met (g := ga) (a := a) rfl T.fi (Calls.evalArgs_plain (Calls.spliced_cons (thn (he.run pins s3 σ _ (fun v H2 => H2 q = some (.met ga a) ∧ spF X.K 2 fm [.ref a, v] H2 (fun _ H' => Dn.nx σ H') L2.E0) I3 ?_) fun v1 s4 ⟨y1, H2, I4, ry1, hm, hsp⟩ => Calls.spliced_nil ?_)))
          · refine tE.go Sq EN h1 fun θ2 G2 H2 u1 e2 S2 EN2 r2 => ?_
            refine ⟨e2.fr q _ upd_same ndθ ndT, rfl, θ2, G2, s1, [.ref n, x], y, s2, S2, .cons ((Rep.ref hra).ext (eq.trans Sq e2)) (.cons r2 .nil), h3, fun θ' G' H' v e' S' r' => ?_⟩
            exact post _ _ _ ((eq.trans Sq e2).trans S2 e') S' σ (EN2.ext e')
          · exact ⟨met_P I4 hm, thn (wpAny_call (PySem.W.method_call (met_P I4 hm).1 (run_fnR (E := L2.E0) (us := [.ref a, v1]) (vs := [V.ref a, y1]) (B.raw hb .nil) hr pass0 I4 (.cons rfl (.cons ry1 .nil)) hsp))) fun v s' ⟨v', H', I', _, hq⟩ => ⟨σ, H', I', hq⟩⟩
      · cases hf
    · cases hf
  · cases hf
end
section
variable {P : Program} {w : World} {K : Frag} {mg : PySem.Str → Option Value} {base : Heap} {F : NF} {f cc D : Addr} {N ps : List PySem.Str} {k : Nat} {fb : FS} {oc dV kV doc pm ct : Value} {od an : Option Addr} {osl : Array (Option Value)}
theorem startF_eq {N : List PySem.Str} {vs : List V} (h : vs.length + 1 ≤ N.length) : startF N vs [none] = L2.start N vs := by
  unfold startF L2.start
  congr 1
  rw [show N.length - vs.length = (N.length - vs.length - 1) + 1 by omega, List.replicate_succ]
  rfl
theorem fn_okU [Tbs] (lk : K.lookup f = some ⟨oc, od, .func (PySem.W.fnX F.name F.qual F.params F.body F.scope F.cl dV kV doc pm an (.ref F.c) ct), osl⟩) (hcd : PySem.W.codeIn K (.ref F.c) F.qual = true) (S : NScope N ps [("__class__" : PySem.Str)] F.scope)
    (hcl : F.cl = [(("__class__" : PySem.Str), cc)]) (hcell : ∃ cl cld csl, K.lookup cc = some ⟨cl, cld, .cell (some (.ref D)), csl⟩)
    (hbody : ∀ (A : Around) (outer : List PySem.Env) (s : Shared) (H : Hp) (E : XK), Room k (A.deeper (envF F f s.heap.objs.size)) → PSas (ncx CX0 P w K mg base N F f A outer s H E).nox F.body F.body (tS K fb)) :
    FnOk P w K mg base CX0 (k + 1) f (PySem.W.fnX F.name F.qual F.params F.body F.scope F.cl dV kV doc pm an (.ref F.c) ct) ps (spF K ps.length (runF N.length fb)) := by
  refine ⟨fun vs H Q E h => h.1, fun A outer s H args us vs Q E hr e0 hb r hsp => ?_⟩
  obtain ⟨hl, θ, G, sto, ds, d, st', S', rd, hf, post⟩ := hsp
  have KX : K.In s.heap := e0.mod.kin.keeps fun b o e => (e0.bs b o e).1
  have lim : s.heap.NoLimit := e0.mod.nolimit.keeps fun b o e => (e0.bs b o e).1
  obtain ⟨cl, cld, csl, hcell⟩ := hcell
  have C : CellsAt F.cl [("__class__" : PySem.Str)] [none] s.heap H := by
    rw [hcl]
    refine ⟨rfl, fun y c h => ?_, fun x y c h1 h2 => ?_, fun i y h => ?_⟩
    · rw [List.lookup_cons] at h
      split at h
      · cases h
        exact ⟨(e0.bs _ _ (e0.mod.kin _ _ hcell)).2, _, _, KX _ _ hcell, rfl⟩
      · cases h
    · rw [List.lookup_cons] at h1 h2
      split at h1
      · rename_i e1
        split at h2
        · rename_i e2
          exact (beq_iff_eq.mp e1).trans (beq_iff_eq.mp e2).symm
        · cases h2
      · cases h1
    · cases i with
      | zero =>
        simp at h
        subst h
        exact ⟨cc, rfl, fun v h => by simp at h⟩
      | succ i => simp at h
  refine ks_codeAny_call_defAt (fd := PySem.W.fnX F.name F.qual F.params F.body F.scope F.cl dV kV doc pm an (.ref F.c) ct) (body := F.body) hr.depth (KX _ _ lk) rfl lim (PySem.W.codeRec_of KX hcd) rfl hb S.nocell (fun ⟨n, _⟩ hy => S.par n (List.of_mem_zip hy).1) (fun h₁ hns kp => ?_) S.co S.gen S.kind
  have I : Inv (ncx CX0 P w K mg base N F f A outer s H E) [] (startF N vs [none]) H { s with heap := h₁, toks := s.toks + (ps.zip us).length } := inv_startN S hr.hd e0 hl r C hns kp
  have hn : vs.length + 1 ≤ N.length := by
    have := congrArg List.length S.pre
    rw [List.length_take, List.length_append] at this
    simp at this
    omega
  rw [startF_eq hn] at I
  refine ks_wpAt_mono ((psas_nox (hbody A outer s H E (hr.deeper _))).run [] _ _ H { nx := fun _ H' => Q .non H', rt := Q } I ?_) (fun fl s' hs => ?_) fun e s' hs => hs
  · obtain ⟨⟨fl, st2⟩, h1, h2⟩ := Option.bind_eq_some_iff.mp hf
    refine tS.go S' (start_rep rd N) h1 fun θ1 G1 H1 e1 S1 => ?_
    cases fl with
    | nx env => cases h2; exact fun σ _ => post _ _ _ _ e1 S1 .non
    | rt d' => cases h2; exact fun v r => post _ _ _ _ e1 S1 r
    | bk _ => cases h2
    | ct _ => cases h2
  · have fin : ∀ {σ' : L2.St} {H' : Hp} {v : V} {u : Value}, Inv (ncx CX0 P w K mg base N F f A outer s H E) [] σ' H' s' → L2.RelV v u → Q v H' → CE outer P w H s Q u s' :=
      fun {σ' H' v u} J rv q => ⟨v, H', J.os, J.bare, J.base, J.hok, rv, q⟩
    cases fl with
    | ret u =>
      obtain ⟨v, σ', H', J, rv, q⟩ := hs
      exact fin J rv q
    | next =>
      obtain ⟨σ', H', J, q⟩ := hs
      exact fin (v := V.non) (u := Value.none) J rfl q
    | brk =>
      obtain ⟨_, _, _, q⟩ := hs
      exact False.elim q
    | cont =>
      obtain ⟨_, _, _, q⟩ := hs
      exact False.elim q
end
theorem hu1 {A : Around} {k : Nat} (hr : Room k A) : A.units + 1 < cLine := by have := hu65 hr; omega
theorem t_dinT [Tbs] {X : Cx} {i o : Expr} {fi fo : FE} {pos : Pos} (hu : X.A.units + 1 < cLine) (hi : PE X i (tE X.K fi)) (ho : PE X o (tE X.K fo)) (hm : behindInMarks .In o = false := by rfl) : PT X (.Compare i [.In] [o] pos) (tT X.K (Tb (E2 (dinD false) fi fo))) :=
  ptImp (pt_cmp (pc_din hu hi ho) hm) fun _ _ _ h => goT (fun _ _ _ h => goDin h) h
theorem t_dninT [Tbs] {X : Cx} {i o : Expr} {fi fo : FE} {pos : Pos} (hu : X.A.units + 1 < cLine) (hi : PE X i (tE X.K fi)) (ho : PE X o (tE X.K fo)) (hm : behindInMarks .NotIn o = false := by rfl) : PT X (.Compare i [.NotIn] [o] pos) (tT X.K (Tb (E2 (dinD true) fi fo))) :=
  ptImp (pt_cmp (pc_dnotin hu hi ho) hm) fun _ _ _ h => goT (fun _ _ _ h => goDin h) h
theorem t_dnin [Tbs] {X : Cx} {i o : Expr} {fi fo : FE} {pos : Pos} (hu : X.A.units + 1 < cLine) (hi : PE X i (tE X.K fi)) (ho : PE X o (tE X.K fo)) (hm : behindInMarks .NotIn o = false := by rfl) : PE X (.Compare i [.NotIn] [o] pos) (tE X.K (E2 (dinD true) fi fo)) :=
  peImp (pe_cmp (pc_dnotin hu hi ho) hm) fun _ _ _ h => goDin h
theorem bind_star3 {B : List Value → Sem (List (PySem.Str × Value))} {p1 p2 p3 pv : PySem.Str} (h0 : ∀ a b c, B [a, b, c] = (newTuple [] >>= fun t => pure [(p1, a), (p2, b), (p3, c), (pv, t)])) (h1 : ∀ a b c r rs, B (a :: b :: c :: r :: rs) = (newTuple (r :: rs) >>= fun t => pure [(p1, a), (p2, b), (p3, c), (pv, t)])) :
    ∀ us rest : List Value, us.length = [p1, p2, p3].length → B (us ++ rest) = (newTuple rest >>= fun t => pure ([p1, p2, p3].zip us ++ [(pv, t)]))
  | [a, b, c], [], _ => h0 a b c
  | [a, b, c], r :: rs, _ => h1 a b c r rs
theorem clsF_of {K : Frag} {cn f : PySem.Str} {C : Addr} (a : PySem.W.nsIn K PySem.mainGlobals cn = some (some (.ref C))) (c : Cls K C) (n : NoAttr K C f) : ClsF K cn f := fun C' h => by
  rw [a] at h
  cases h
  exact ⟨c, n⟩
end ML

set_option Elab.async false
set_option linter.all false
set_option maxRecDepth 100000
set_option maxHeartbeats 4000000
namespace ML
open PySem PySem.Spec PyProof.Rows L2
/-! ## steps found by instance -/
class Stp (p : Prop) (q : outParam Prop) : Prop where go : q → p
class Stps (p : Prop) (q : outParam Prop) : Prop where go : q → p
class Stp1 (p : Prop) (q : outParam Prop) : Prop where go : q → p
instance (priority := 10) stps_id {p : Prop} : Stps p p := ⟨fun h => h⟩
instance stps_go {p q r : Prop} [a : Stp p q] [b : Stps q r] : Stps p r := ⟨fun h => a.go (b.go h)⟩
instance stp1_go {p q r : Prop} [a : Stp p q] [b : Stps q r] : Stp1 p r := ⟨fun h => a.go (b.go h)⟩
class AtE (e : Env) (i : Nat) (d : outParam D) : Prop where go : e[i]? = some (some d)
instance ate_0 {d : D} {e : Env} : AtE (some d :: e) 0 d := ⟨rfl⟩
instance ate_s {x : Option D} {d : D} {e : Env} {i : Nat} [a : AtE e i d] : AtE (x :: e) (i + 1) d := ⟨a.go⟩
class SetE (e : Env) (i : Nat) (v : Option D) (e' : outParam Env) : Prop where go : e.set i v = e'
instance set_0 {x v : Option D} {e : Env} : SetE (x :: e) 0 v (v :: e) := ⟨rfl⟩
instance set_s {x v : Option D} {e e' : Env} {i : Nat} [a : SetE e i v e'] : SetE (x :: e) (i + 1) v (x :: e') := ⟨by rw [List.set_cons_succ, a.go]⟩
class NfE (e : Env) (e' : outParam Env) : Prop where go : e = e'
instance (priority := 10) nf_id {e : Env} : NfE e e := ⟨rfl⟩
instance nf_set {e e1 e2 : Env} {i : Nat} {v : Option D} [a : NfE e e1] [b : SetE e1 i v e2] : NfE (e.set i v) e2 := ⟨by rw [a.go, b.go]⟩
instance nf_wipe0 {e e1 : Env} [a : NfE e e1] : NfE (wipeE e []) e1 := ⟨a.go⟩
instance nf_wipe {e e1 e2 : Env} {i : Nat} {is : List Nat} [a : NfE (wipeE e is) e1] [b : SetE e1 i none e2] : NfE (wipeE e (i :: is)) e2 := ⟨by unfold wipeE; rw [a.go, b.go]⟩
instance ate_set {e e1 : Env} {i j : Nat} {v : Option D} {d : D} [a : NfE (e.set j v) e1] [b : AtE e1 i d] : AtE (e.set j v) i d := ⟨by rw [a.go]; exact b.go⟩
instance ate_wipe {e e1 : Env} {i : Nat} {is : List Nat} {d : D} [a : NfE (wipeE e is) e1] [b : AtE e1 i d] : AtE (wipeE e is) i d := ⟨by rw [a.go]; exact b.go⟩
class BindE (t : Tg) (x : D) (e : Env) (e' : outParam Env) : Prop where go : bindT t x e = some e'
class BindsE (ts : List Tg) (xs : List D) (e : Env) (e' : outParam Env) : Prop where go : bindTs ts xs e = some e'
instance bind_nm {i : Nat} {x : D} {e e' : Env} [a : NfE (e.set i (some x)) e'] : BindE (.nm i) x e e' := ⟨by rw [← a.go]; rfl⟩
instance bind_tp {ts : List Tg} {xs : List D} {e e' : Env} [a : BindsE ts xs e e'] : BindE (.tp ts) (.tup xs) e e' := ⟨a.go⟩
instance binds_nil {e : Env} : BindsE [] [] e e := ⟨rfl⟩
instance binds_cons {t : Tg} {ts : List Tg} {x : D} {xs : List D} {e e1 e2 : Env} [a : BindE t x e e1] [b : BindsE ts xs e1 e2] : BindsE (t :: ts) (x :: xs) e e2 := ⟨by
  simp only [bindTs, a.go, Option.bind_some, b.go]⟩
class LenE (xs : List D) (n : Nat) : Prop where go : xs.length = n
instance len_0 : LenE [] 0 := ⟨rfl⟩
instance len_s {x : D} {xs : List D} {n : Nat} [a : LenE xs n] : LenE (x :: xs) (n + 1) := ⟨by rw [List.length_cons, a.go]⟩
class LenU (xs : List D) (n : Nat) : Prop where go : xs.length ≤ n
instance lenu_0 {n : Nat} : LenU [] n := ⟨Nat.zero_le _⟩
instance lenu_s {x : D} {xs : List D} {n : Nat} [a : LenU xs n] : LenU (x :: xs) (n + 1) := ⟨by rw [List.length_cons]; exact Nat.succ_le_succ a.go⟩
section
variable {env env' : Env} {st : Sto} {QE : D → Sto → Prop} {QS : Fl → Sto → Prop} {QX : Out D → Sto → Prop} {QXS : XFl → Sto → Prop}
instance s_x_v {i : Nat} {d : D} [a : AtE env i d] : Stp (wp (Ev i env st) QE) (QE d st) := ⟨x_v a.go⟩
instance s_x_seqnx {s : FS} [a : NfE env env'] : Stp (seqK s QS (.nx env) st) (wp (s env' st) QS) := ⟨x_seqnx a.go⟩
instance s_x_loopn {N : Env → Sto → Prop} [a : NfE env env'] : Stp (loopK QS N (.nx env) st) (N env' st) := ⟨x_loopn a.go⟩
instance s_xv_seqnx {s : XFS} [a : NfE env env'] : Stp (seqX s QXS (.fl (.nx env)) st) (wp (s env' st) QXS) := ⟨xv_seqnx a.go⟩
instance s_xv_loopnx {N : Env → Sto → Prop} [a : NfE env env'] : Stp (loopX QXS N (.fl (.nx env)) st) (N env' st) := ⟨xv_loopnx a.go⟩
instance s_x_ar {n : Nat} {ds : List D} {fC : FC} [a : LenE ds n] : Stp (wp (arN n fC ds st) QE) (wp (fC ds st) QE) := ⟨x_ar a.go⟩
instance s_xv_ar {n : Nat} {ds : List D} {m : XFC} [a : LenE ds n] : Stp (wp (arX n m ds st) QX) (wp (m ds st) QX) := ⟨xv_ar a.go⟩
instance s_sd {xs : List D} {q : Prop} [a : LenU xs 64] : Stp (Sd (xs.length ≤ 16777216) q) q := ⟨y_sd (Nat.le_trans a.go (by decide))⟩
instance s_tg {t : Tg} {x : D} {P : Env → Prop} [a : BindE t x env env'] : Stp (∃ e1, bindT t x env = some e1 ∧ P e1) (P env') := ⟨y_tg a.go⟩
instance s_eb {b : Bool} {P : Bool → Prop} : Stp (∃ c, D.bl b = D.bl c ∧ P c) (P b) := ⟨fun h => ⟨_, rfl, h⟩⟩
instance s_es {z : PySem.Str} {P : PySem.Str → Prop} : Stp (∃ c, D.str z = D.str c ∧ P c) (P z) := ⟨fun h => ⟨_, rfl, h⟩⟩
instance s_ei1 {z : Int} {P : Int → Prop} : Stp (∃ c, [D.int z] = [D.int c] ∧ P c) (P z) := ⟨fun h => ⟨_, rfl, h⟩⟩
instance s_ei2 {y z : Int} {P : Int → Int → Prop} : Stp (∃ b c, [D.int y, D.int z] = [D.int b, D.int c] ∧ P b c) (P y z) := ⟨fun h => ⟨_, _, rfl, h⟩⟩
instance s_ei3 {x y z : Int} {P : Int → Int → Prop} : Stp (∃ b c, [D.int y, D.int z, D.int x] = [D.int b, D.int c, D.int x] ∧ P b c) (P y z) := ⟨fun h => ⟨_, _, rfl, h⟩⟩
instance s_trb {b : Bool} {P : Bool → Prop} : Stp (∃ c, truD st (.bl b) = some c ∧ P c) (P b) := ⟨fun h => ⟨_, rfl, h⟩⟩
instance s_ix0 {d : D} {ds : List D} : Stp (wp (ixD (.tup (d :: ds)) (.int 0) st) QE) (QE d st) := ⟨z_ixT (atI_nat (j := 0) rfl)⟩
instance s_ix1 {d0 d : D} {ds : List D} : Stp (wp (ixD (.tup (d0 :: d :: ds)) (.int 1) st) QE) (QE d st) := ⟨z_ixT (atI_nat (j := 1) rfl)⟩
instance s_ix2 {d0 d1 d : D} {ds : List D} : Stp (wp (ixD (.tup (d0 :: d1 :: d :: ds)) (.int 2) st) QE) (QE d st) := ⟨z_ixT (atI_nat (j := 2) rfl)⟩
instance s_ix3 {d0 d1 d2 d : D} {ds : List D} : Stp (wp (ixD (.tup (d0 :: d1 :: d2 :: d :: ds)) (.int 3) st) QE) (QE d st) := ⟨z_ixT (atI_nat (j := 3) rfl)⟩
instance s_ix4 {d0 d1 d2 d3 d : D} {ds : List D} : Stp (wp (ixD (.tup (d0 :: d1 :: d2 :: d3 :: d :: ds)) (.int 4) st) QE) (QE d st) := ⟨z_ixT (atI_nat (j := 4) rfl)⟩
end
section
variable {env env' : Env} {st : Sto} {fa fb fc fo fi fe fv : FE} {ga gb : FT} {g : FA} {f f' : F2} {fC : FC} {s s' : FS} {QE : D → Sto → Prop} {QA : List D → Sto → Prop} {QT : Bool → Sto → Prop} {QS : Fl → Sto → Prop} {QI : List D → Watch → Sto → Prop}
instance s_x_2  : Stp (wp (E2 f fa fb env st) QE) (wp (fa env st) fun x st1 => wp (fb env st1) fun y st2 => wp (f x y st2) QE) := ⟨x_2⟩
instance s_x_c {d : D} : Stp (wp (Ec d env st) QE) (QE d st) := ⟨x_c⟩
instance s_x_cons  : Stp (wp (Acons fa g env st) QA) (wp (fa env st) fun x st1 => wp (g env st1) fun xs st2 => QA (x :: xs) st2) := ⟨x_cons⟩
instance s_x_nil  : Stp (wp (Anil env st) QA) (QA [] st) := ⟨x_nil⟩
instance s_x_call  : Stp (wp (EC fC g env st) QE) (wp (g env st) fun xs st1 => wp (fC xs st1) QE) := ⟨x_call⟩
instance s_x_seq  : Stp (wp (Sseq s s' env st) QS) (wp (s env st) (seqK s' QS)) := ⟨x_seq⟩
instance s_x_set {i : Nat} : Stp (wp (Sset i fa env st) QS) (wp (fa env st) fun x st1 => QS (.nx (env.set i (some x))) st1) := ⟨x_set⟩
instance s_x_ret  : Stp (wp (Sret fa env st) QS) (wp (fa env st) fun x st1 => QS (.rt x) st1) := ⟨x_ret⟩
instance s_x_sif  : Stp (wp (Sif ga s s' env st) QS) (wp (ga env st) fun b st1 => if b = true then wp (s env st1) QS else wp (s' env st1) QS) := ⟨x_sif⟩
instance s_x_tb  : Stp (wp (Tb fa env st) QT) (wp (fa env st) fun x st1 => ∃ b, x = .bl b ∧ QT b st1) := ⟨x_tb⟩
instance s_x_1 {f1 : D → Sto → Option (D × Sto)} : Stp (wp (E1 f1 fa env st) QE) (wp (fa env st) fun x st1 => wp (f1 x st1) QE) := ⟨x_1⟩
instance s_x_3  : Stp (wp (E3 f f' fa fb fc env st) QE) (wp (fa env st) fun x st1 => wp (fb env st1) fun y st2 => wp (f x y st2) fun r st3 => ∃ b, r = .bl b ∧ if b = true then wp (fc env st3) fun z st4 => wp (f' y z st4) QE else QE (.bl false) st3) := ⟨x_3⟩
instance s_z_addI {i j : Int} : Stp (wp (addD (.int i) (.int j) st) QE) (QE (.int (i + j)) st) := ⟨z_addI⟩
instance s_z_sub {i j : Int} : Stp (wp (subD (.int i) (.int j) st) QE) (QE (.int (i - j)) st) := ⟨z_sub⟩
instance s_z_lt {i j : Int} : Stp (wp (ltD (.int i) (.int j) st) QE) (QE (.bl (decide (i < j))) st) := ⟨z_lt⟩
instance s_z_le {i j : Int} : Stp (wp (leD (.int i) (.int j) st) QE) (QE (.bl (decide (i ≤ j))) st) := ⟨z_le⟩
instance s_z_gt {i j : Int} : Stp (wp (gtD (.int i) (.int j) st) QE) (QE (.bl (decide (j < i))) st) := ⟨z_gt⟩
instance s_z_ge {i j : Int} : Stp (wp (geD (.int i) (.int j) st) QE) (QE (.bl (decide (j ≤ i))) st) := ⟨z_ge⟩
instance s_z_intI {i : Int} : Stp (wp (fInt [.int i] st) QE) (QE (.int i) st) := ⟨z_intI⟩
instance s_z_abs {i : Int} : Stp (wp (fAbs [.int i] st) QE) (QE (.int (if i < 0 then -i else i)) st) := ⟨z_abs⟩
instance s_z_eqI {i j : Int} : Stp (wp (eqD false (.int i) (.int j) st) QE) (QE (.bl (i == j)) st) := ⟨z_eqI⟩
instance s_z_neI {i j : Int} : Stp (wp (eqD true (.int i) (.int j) st) QE) (QE (.bl (!(i == j))) st) := ⟨z_neI⟩
instance s_z_eqS {i j : PySem.Str} : Stp (wp (eqD false (.str i) (.str j) st) QE) (QE (.bl (i == j)) st) := ⟨z_eqS⟩
instance s_z_neS {i j : PySem.Str} : Stp (wp (eqD true (.str i) (.str j) st) QE) (QE (.bl (!(i == j))) st) := ⟨z_neS⟩
instance s_z_neg {i : Int} : Stp (wp (negD (.int i) st) QE) (QE (.int (-i)) st) := ⟨z_neg⟩
instance s_z_is {x : D} : Stp (wp (isnD false x .non st) QE) (QE (.bl (isNon x)) st) := ⟨z_is⟩
instance s_z_isn {x : D} : Stp (wp (isnD true x .non st) QE) (QE (.bl (!isNon x)) st) := ⟨z_isn⟩
instance s_z_iadd {i j : Int} : Stp (wp (iaddI (.int i) (.int j) st) QE) (QE (.int (i + j)) st) := ⟨z_iadd⟩
instance s_z_lenT {ds : List D} : Stp (wp (fLen [.tup ds] st) QE) (QE (.int ds.length) st) := ⟨z_lenT⟩
instance s_z_lenL {ds : List D} : Stp (wp (fLen [.lst ds] st) QE) (QE (.int ds.length) st) := ⟨z_lenL⟩
instance s_z_lenQ {ds : List D} : Stp (wp (fLen [.sq ds] st) QE) (QE (.int ds.length) st) := ⟨z_lenQ⟩
instance s_x_exp  : Stp (wp (Sexp fa env st) QS) (wp (fa env st) fun _ st1 => QS (.nx env) st1) := ⟨x_exp⟩
instance s_x_retN  : Stp (wp (SretN env st) QS) (QS (.rt .non) st) := ⟨x_retN⟩
instance s_x_snil  : Stp (wp (Snil env st) QS) (QS (.nx env) st) := ⟨x_snil⟩
instance s_x_seqrt {d : D} : Stp (seqK s QS (.rt d) st) (QS (.rt d) st) := ⟨x_seqrt⟩
instance s_x_seqbk  : Stp (seqK s QS (.bk env) st) (QS (.bk env) st) := ⟨x_seqbk⟩
instance s_x_seqct  : Stp (seqK s QS (.ct env) st) (QS (.ct env) st) := ⟨x_seqct⟩
instance s_x_loopct {N : Env → Sto → Prop} : Stp (loopK QS N (.ct env) st) (N env st) := ⟨x_loopct⟩
instance s_x_loopbk {N : Env → Sto → Prop} : Stp (loopK QS N (.bk env) st) (QS (.nx env) st) := ⟨x_loopbk⟩
instance s_x_looprt {N : Env → Sto → Prop} {d : D} : Stp (loopK QS N (.rt d) st) (QS (.rt d) st) := ⟨x_looprt⟩
instance s_x_runrt {d : D} : Stp (runK QE (.rt d) st) (QE d st) := ⟨x_runrt⟩
instance s_x_runnx  : Stp (runK QE (.nx env) st) (QE .non st) := ⟨x_runnx⟩
instance s_x_setIx  : Stp (wp (SsetIx fo fi fv env st) QS) (wp (fv env st) fun x st1 => wp (fo env st1) fun o st2 => wp (fi env st2) fun i st3 => wpP (setD o i x st3) fun st4 => QS (.nx env) st4) := ⟨x_setIx⟩
instance s_x_augIx  : Stp (wp (SaugIx f fo fi fe env st) QS) (wp (fo env st) fun o st1 => wp (fi env st1) fun i st2 => wp (ixD o i st2) fun x st3 => wp (fe env st3) fun y st4 => wp (f x y st4) fun z st5 => wpP (setD o i z st5) fun st6 => QS (.nx env) st6) := ⟨x_augIx⟩
instance s_x_and  : Stp (wp (Tand ga gb env st) QT) (wp (ga env st) fun b st1 => if b = true then wp (gb env st1) QT else QT false st1) := ⟨x_and⟩
instance s_x_or  : Stp (wp (Tor ga gb env st) QT) (wp (ga env st) fun b st1 => if b = true then QT true st1 else wp (gb env st1) QT) := ⟨x_or⟩
instance s_x_not  : Stp (wp (Tnot ga env st) QT) (wp (ga env st) fun b st1 => QT (!b) st1) := ⟨x_not⟩
instance s_x_yes  : Stp (wp (Tyes env st) QT) (QT true st) := ⟨x_yes⟩
instance s_x_if  : Stp (wp (Eif ga fa fb env st) QE) (wp (ga env st) fun b st1 => if b = true then wp (fa env st1) QE else wp (fb env st1) QE) := ⟨x_if⟩
instance s_x_bind {t : Tg} : Stp (wp (Sbind t fa env st) QS) (wp (fa env st) fun x st1 => ∃ e, bindT t x env = some e ∧ QS (.nx e) st1) := ⟨x_bind⟩
instance s_x_for {i : FI} {t : Tg} {b : FS} : Stp (wp (Sfor i t b env st) QS) (wpI (i env st) fun items w st1 => wp (forL w t b items env st1) QS) := ⟨x_for⟩
instance s_x_iseq  : Stp (wpI (Iseq fa env st) QI) (wp (fa env st) (itemsK QI)) := ⟨x_iseq⟩
instance s_x_itT {ds : List D} : Stp (itemsK QI (.tup ds) st) (QI ds [] st) := ⟨x_itT⟩
instance s_x_itS {z : PySem.Str} : Stp (itemsK QI (.str z) st) (QI (chars z) [] st) := ⟨x_itS⟩
instance s_x_itL {ds : List D} : Stp (itemsK QI (.lst ds) st) (QI ds [] st) := ⟨x_itL⟩
instance s_x_itQ {ds : List D} : Stp (itemsK QI (.sq ds) st) (QI ds [] st) := ⟨x_itQ⟩
instance s_x_rng1  : Stp (wpI (Irng1 g env st) QI) (wp (g env st) fun xs st1 => ∃ n, xs = [.int n] ∧ Sd (-4611686018427387904 ≤ n ∧ n < 4611686018427387904) (QI (rangeL 0 n.toNat) [] st1)) := ⟨x_rng1⟩
instance s_x_rng2  : Stp (wpI (Irng2 g env st) QI) (wp (g env st) fun xs st1 => ∃ lo n, xs = [.int lo, .int n] ∧ Sd (-4611686018427387904 ≤ lo ∧ lo < 4611686018427387904 ∧ -4611686018427387904 ≤ n ∧ n < 4611686018427387904) (QI (rangeL lo (n - lo).toNat) [] st1)) := ⟨x_rng2⟩
instance s_x_rng3  : Stp (wpI (Irng3 g env st) QI) (wp (g env st) fun xs st1 => ∃ i j, xs = [.int i, .int j, .int (-1)] ∧ Sd (-4611686018427387904 ≤ i ∧ i < 4611686018427387904 ∧ -4611686018427387904 ≤ j ∧ j < 4611686018427387904) (QI (downL i (i - j).toNat) [] st1)) := ⟨x_rng3⟩
instance s_x_brk  : Stp (wp (Sbrk env st) QS) (QS (.bk env) st) := ⟨x_brk⟩
end
section
variable {env env' : Env} {st : Sto} {QE : D → Sto → Prop} {QS : Fl → Sto → Prop}
instance s_z_inC {c : Nat} {b : PySem.Str} : Stp (wp (inD false (.str ⟨#[c]⟩) (.str b) st) QE) (QE (.bl (decide (c ∈ b.cps.toList))) st) := ⟨z_inC⟩
instance s_z_ninC {c : Nat} {b : PySem.Str} : Stp (wp (inD true (.str ⟨#[c]⟩) (.str b) st) QE) (QE (.bl (!decide (c ∈ b.cps.toList))) st) := ⟨z_ninC⟩
instance s_z_ord1 {c : Nat} : Stp (wp (fOrd [.str ⟨#[c]⟩] st) QE) (QE (.int (c : Int)) st) := ⟨z_ord1⟩
instance s_z_find {a b : PySem.Str} : Stp (wp (mFind (.str a) [.str b] st) QE) (QE (.int (Txt.find a b)) st) := ⟨z_find⟩
end
section
variable {env env' : Env} {st : Sto} {fa fb fc fo fi fe fv : FE} {ga gb : FT} {g : FA} {f f' : F2} {fC : FC} {s s' : FS} {QE : D → Sto → Prop} {QA : List D → Sto → Prop} {QT : Bool → Sto → Prop} {QS : Fl → Sto → Prop} {QI : List D → Watch → Sto → Prop}
instance s_x_ctn  : Stp (wp (Sctn env st) QS) (QS (.ct env) st) := ⟨x_ctn⟩
instance s_y_t {A B : Prop} : Stp (if true = true then A else B) (A) := ⟨y_t⟩
instance s_y_f {A B : Prop} : Stp (if false = true then A else B) (B) := ⟨y_f⟩
instance s_y_not {b : Bool} {A B : Prop} : Stp (if (!b) = true then A else B) (if b = true then B else A) := ⟨y_not⟩
instance s_x_tt  : Stp (wp (Tt fa env st) QT) (wp (fa env st) fun x st1 => ∃ b, truD st1 x = some b ∧ QT b st1) := ⟨x_tt⟩
instance s_x_eand  : Stp (wp (Eand fa fb env st) QE) (wp (fa env st) fun x st1 => ∃ b, truD st1 x = some b ∧ if b = true then wp (fb env st1) QE else QE x st1) := ⟨x_eand⟩
instance s_x_eor  : Stp (wp (Eor fa fb env st) QE) (wp (fa env st) fun x st1 => ∃ b, truD st1 x = some b ∧ if b = true then QE x st1 else wp (fb env st1) QE) := ⟨x_eor⟩
instance s_x_enot  : Stp (wp (Enot fa env st) QE) (wp (fa env st) fun x st1 => ∃ b, truD st1 x = some b ∧ QE (.bl (!b)) st1) := ⟨x_enot⟩
instance s_z_intB {b : Bool} : Stp (wp (fInt [.bl b] st) QE) (QE (.int (if b then 1 else 0)) st) := ⟨z_intB⟩
instance s_x_cmp {i : FI} {t : Tg} {own : List Nat} : Stp (wp (Ecmp i t ga fe own env st) QE) (wpI (i env st) fun items w st1 => Sd (items.length ≤ 16777216) (wp (compL w t ga fe (wipeE env own) items st1) fun ds st2 => QE (.lst ds) st2)) := ⟨x_cmp⟩
instance s_x_cmpN {i : FI} {t : Tg} {own : List Nat} : Stp (wp (EcmpN i t ga fe own env st) QE) (wpI (i env st) fun items w st1 => Sd (items.length ≤ 16777216) (wp (compL w t ga fe (wipeE env own) items st1) fun ds st2 => QE (.ref st2.length) (st2 ++ [.lst ds]))) := ⟨x_cmpN⟩
instance s_x_tup  : Stp (wp (Etup g env st) QE) (wp (g env st) fun xs st1 => Sd (xs.length ≤ 16777216) (QE (.tup xs) st1)) := ⟨x_tup⟩
instance s_x_lst  : Stp (wp (Elst g env st) QE) (wp (g env st) fun xs st1 => Sd (xs.length ≤ 16777216) (QE (.lst xs) st1)) := ⟨x_lst⟩
instance s_x_new  : Stp (wp (Enew g env st) QE) (wp (g env st) fun xs st1 => Sd (xs.length ≤ 16777216) (QE (.ref st1.length) (st1 ++ [.lst xs]))) := ⟨x_new⟩
end
section
variable {env env' : Env} {st : Sto} {QE : D → Sto → Prop} {QS : Fl → Sto → Prop} {QI : List D → Watch → Sto → Prop} {g : FA} {fo : FE}
instance s_x_zip  : Stp (wpI (Izip g env st) QI) (wp (g env st) (zipK QI)) := ⟨x_zip⟩
end
section
variable {st : Sto} {QE : D → Sto → Prop}
instance s_z_eqP {a b c d : Int} : Stp (wp (eqD false (.tup [.int a, .int b]) (.tup [.int c, .int d]) st) QE) (QE (.bl (decide ([a, b] = [c, d]))) st) := ⟨z_eqP⟩
end
section
variable {env env' : Env} {st : Sto} {QE : D → Sto → Prop} {QS : Fl → Sto → Prop} {QI : List D → Watch → Sto → Prop} {g : FA} {fo : FE}
instance s_z_tupT {ds : List D} : Stp (wp (fTup [.tup ds] st) QE) (QE (.tup ds) st) := ⟨z_tupT⟩
instance s_z_tupL {ds : List D} : Stp (wp (fTup [.lst ds] st) QE) (QE (.tup ds) st) := ⟨z_tupL⟩
instance s_z_tupQ {ds : List D} : Stp (wp (fTup [.sq ds] st) QE) (QE (.tup ds) st) := ⟨z_tupQ⟩
instance s_z_max2 {i j : Int} : Stp (wp (fMax2 [.int i, .int j] st) QE) (QE (.int (if j > i then j else i)) st) := ⟨z_max2⟩
instance s_z_min2 {i j : Int} : Stp (wp (fMin2 [.int i, .int j] st) QE) (QE (.int (if j < i then j else i)) st) := ⟨z_min2⟩
instance s_z_eqTI {ns ms : List Int} : Stp (wp (eqD false (.tup (ns.map D.int)) (.tup (ms.map D.int)) st) QE) (QE (.bl (decide (ns = ms))) st) := ⟨z_eqTI⟩
instance s_x_sl {fl fh : FO} : Stp (wp (Esl fo fl fh env st) QE) (wp (fo env st) fun x st1 => wp (fl env st1) fun a st2 => wp (fh env st2) fun b st3 => wp (slD x a b st3) QE) := ⟨x_sl⟩
instance s_x_on {Q : Option Int → Sto → Prop} : Stp (wp (Onone env st) Q) (Q none st) := ⟨x_on⟩
instance s_x_os {Q : Option Int → Sto → Prop} {f : FE} : Stp (wp (Osome f env st) Q) (wp (f env st) fun d st1 => ∃ i, d = .int i ∧ Q (some i) st1) := ⟨x_os⟩
instance s_z_slT {ds : List D} {a b : Option Int} : Stp (wp (slD (.tup ds) a b st) QE) (QE (.tup (cutL ds a b)) st) := ⟨z_slT⟩
instance s_z_slL {ds : List D} {a b : Option Int} : Stp (wp (slD (.lst ds) a b st) QE) (QE (.lst (cutL ds a b)) st) := ⟨z_slL⟩
end
section
variable {st : Sto} {env : Env} {QE : D → Sto → Prop} {QA : List D → Sto → Prop} {QI : List D → Watch → Sto → Prop} {l l' r c : Nat} {F G : Nat → D} {f g : Nat → Int}
instance s_z_lenTR  : Stp (wp (fLen [.tup ((List.range l).map F)] st) QE) (QE (.int (l : Int)) st) := ⟨z_lenTR⟩
instance s_z_neP {a b c d : Int} : Stp (wp (eqD true (.tup [.int a, .int b]) (.tup [.int c, .int d]) st) QE) (QE (.bl (!decide ([a, b] = [c, d]))) st) := ⟨z_neP⟩
instance s_z_lenLR  : Stp (wp (fLen [.lst ((List.range l).map F)] st) QE) (QE (.int (l : Int)) st) := ⟨z_lenLR⟩
instance s_z_sumTR  : Stp (wp (fSum [.tup ((List.range l).map fun j => .int (f j))] st) QE) (QE (.int (sm l f)) st) := ⟨z_sumTR⟩
instance s_z_sumLR  : Stp (wp (fSum [.lst ((List.range l).map fun j => .int (f j))] st) QE) (QE (.int (sm l f)) st) := ⟨z_sumLR⟩
instance s_z_sumLF {p : Nat → Bool} : Stp (wp (fSum [.lst (((List.range l).filter p).map fun j => .int (f j))] st) QE) (QE (.int (smf l p f)) st) := ⟨z_sumLF⟩
end
section

instance s_x_tryK {env : Env} {st : Sto} {QF : Fl → Sto → Prop} {i : Nat} {cn : PySem.Str} {fb : XFS} {fh : EA → FS} : Stp (wp (Stry i cn fb fh env st) QF) (wp (fb env st) (tryK i cn fh QF)) := ⟨x_tryK⟩
instance s_try_fl {st : Sto} {QF : Fl → Sto → Prop} {i : Nat} {cn : PySem.Str} {fh : EA → FS} {fl : Fl} : Stp (tryK i cn fh QF (.fl fl) st) (QF fl st) := ⟨try_fl⟩
end
section
variable {env env' : Env} {st : Sto} {f : FE} {g : FA} {fx : XFE} {gx : XFA} {QE : D → Sto → Prop} {QX : Out D → Sto → Prop} {QA : Out (List D) → Sto → Prop} {QS : XFl → Sto → Prop} {QF : Fl → Sto → Prop} {s s' : XFS} {sf : FS}
instance s_xv_of  : Stp (wp (Xof f env st) QX) (wp (f env st) fun d st1 => QX (.ok d) st1) := ⟨xv_of⟩
instance s_xv_aof  : Stp (wp (XofA g env st) QA) (wp (g env st) fun d st1 => QA (.ok d) st1) := ⟨xv_aof⟩
instance s_xv_nil  : Stp (wp (Xnil env st) QA) (QA (.ok []) st) := ⟨xv_nil⟩
instance s_xv_cons  : Stp (wp (Xcons fx gx env st) QA) (wp (fx env st) (outK QA fun d st1 => wp (gx env st1) (outK QA fun ds st2 => QA (.ok (d :: ds)) st2))) := ⟨xv_cons⟩
instance s_xv_tup  : Stp (wp (Xtup gx env st) QX) (wp (gx env st) (outK QX fun ds st1 => Sd (ds.length ≤ 16777216) (QX (.ok (.tup ds)) st1))) := ⟨xv_tup⟩
instance s_xv_call {m : XFC} : Stp (wp (XC m gx env st) QX) (wp (gx env st) (outK QX fun ds st1 => wp (m ds st1) QX)) := ⟨xv_call⟩
instance s_xv_sof  : Stp (wp (XSof sf env st) QS) (wp (sf env st) fun fl st1 => QS (.fl fl) st1) := ⟨xv_sof⟩
instance s_xv_snil  : Stp (wp (XSnil env st) QS) (QS (.fl (.nx env)) st) := ⟨xv_snil⟩
instance s_xv_seq  : Stp (wp (XSseq s s' env st) QS) (wp (s env st) (seqX s' QS)) := ⟨xv_seq⟩
instance s_xv_seqrt {d : D} : Stp (seqX s QS (.fl (.rt d)) st) (QS (.fl (.rt d)) st) := ⟨xv_seqrt⟩
instance s_xv_seqbk  : Stp (seqX s QS (.fl (.bk env)) st) (QS (.fl (.bk env)) st) := ⟨xv_seqbk⟩
instance s_xv_seqct  : Stp (seqX s QS (.fl (.ct env)) st) (QS (.fl (.ct env)) st) := ⟨xv_seqct⟩
instance s_xv_seqrz {x : XD} : Stp (seqX s QS (.rz env x) st) (QS (.rz env x) st) := ⟨xv_seqrz⟩
instance s_xv_ret  : Stp (wp (XSret fx env st) QS) (wp (fx env st) (outS env QS fun d st1 => QS (.fl (.rt d)) st1)) := ⟨xv_ret⟩
instance s_xv_exp  : Stp (wp (XSexp fx env st) QS) (wp (fx env st) (outS env QS fun d st1 => QS (.fl (.nx env)) st1)) := ⟨xv_exp⟩
instance s_xv_set {i : Nat} : Stp (wp (XSset i fx env st) QS) (wp (fx env st) (outS env QS fun d st1 => QS (.fl (.nx (env.set i (some d)))) st1)) := ⟨xv_set⟩
instance s_xv_bind {t : Tg} : Stp (wp (XSbind t fx env st) QS) (wp (fx env st) (outS env QS fun d st1 => ∃ e, bindT t d env = some e ∧ QS (.fl (.nx e)) st1)) := ⟨xv_bind⟩
instance s_xv_if {ga : FT} : Stp (wp (XSif ga s s' env st) QS) (wp (ga env st) fun b st1 => if b = true then wp (s env st1) QS else wp (s' env st1) QS) := ⟨xv_if⟩
instance s_xv_runrt {d : D} : Stp (runKX QX (.fl (.rt d)) st) (QX (.ok d) st) := ⟨xv_runrt⟩
instance s_xv_runnx  : Stp (runKX QX (.fl (.nx env)) st) (QX (.ok .non) st) := ⟨xv_runnx⟩
instance s_xv_runrz {x : XD} : Stp (runKX QX (.rz env x) st) (QX (.rz x) st) := ⟨xv_runrz⟩
instance s_xv_looprt {N : Env → Sto → Prop} {d : D} : Stp (loopX QS N (.fl (.rt d)) st) (QS (.fl (.rt d)) st) := ⟨xv_looprt⟩
instance s_xv_looprz {N : Env → Sto → Prop} {x : XD} : Stp (loopX QS N (.rz env x) st) (QS (.rz env x) st) := ⟨xv_looprz⟩
instance s_xv_for {i : FI} {t : Tg} {b : XFS} : Stp (wp (XSfor i t b env st) QS) (wpI (i env st) fun items w st1 => wp (forX w t b items env st1) QS) := ⟨xv_for⟩
instance s_xv_ok {α β : Type} {Q : Out β → Sto → Prop} {N : α → Sto → Prop} {a : α} : Stp (outK Q N (.ok a) st) (N a st) := ⟨xv_ok⟩
instance s_xv_rz {α β : Type} {Q : Out β → Sto → Prop} {N : α → Sto → Prop} {x : XD} : Stp (outK Q N (.rz x) st) (Q (.rz x) st) := ⟨xv_rz⟩
instance s_xv_oks {N : D → Sto → Prop} {a : D} : Stp (outS env QS N (.ok a) st) (N a st) := ⟨xv_oks⟩
instance s_xv_rzs {N : D → Sto → Prop} {x : XD} : Stp (outS env QS N (.rz x) st) (QS (.rz env x) st) := ⟨xv_rzs⟩
instance s_xv_raise {cn fld : PySem.Str} : Stp (wp (XSraise cn fld g env st) QS) (wp (g env st) fun ds st1 => ∃ v, ds = [v] ∧ QS (.rz env ⟨cn, fld, v⟩) st1) := ⟨xv_raise⟩
end

end ML

set_option synthInstance.maxHeartbeats 400000
set_option synthInstance.maxSize 4096
namespace LW
open PySem L2 ML
def topS (i : Nat) : Stmt := PySem.Challenge.pw_lasttext_k11_plan_of_a_program.main.body.getD i (.Pass ⟨0, 0, 0, 0⟩)
/-! ### step_shape -/
abbrev s_step_shape : Stmt := topS 1
abbrev N_step_shape : List PySem.Str := ["kind", "found", "numbers", "first"]
theorem sc_step_shape : FnScope N_step_shape ["kind", "found", "numbers"] (defScope s_step_shape) := ⟨rfl, rfl, rfl, by decide +kernel, rfl, by decide +kernel, by decide +kernel⟩
@[reducible] noncomputable def b_step_shape : FS :=
  (Sseq (Sif (Tb (E2 (eqD true) (EC fLen (Acons (Ev 1) Anil)) (Eif (Tb (E2 (inD false) (Ev 0) (Etup (Acons (Ec (.str "add")) (Acons (Ec (.str "sub")) (Acons (Ec (.str "times")) (Acons (Ec (.str "product")) (Acons (Ec (.str "pick")) Anil)))))))) (Ec (.int 2)) (Ec (.int 1)))))
  (Sret (Ec .non))
  Snil)
  (Sseq (Sset 3 (E2 ixD (Ev 1) (Ec (.int 0))))
  (Sseq (Sif (Tb (E2 (inD false) (Ev 0) (Etup (Acons (Ec (.str "add")) (Acons (Ec (.str "sub")) (Acons (Ec (.str "times")) Anil))))))
  (Sret (Eif (Tb (E2 (eqD false) (Ev 3) (E2 ixD (Ev 1) (Ec (.int 1))))) (Ev 3) (Ec .non)))
  Snil)
  (Sseq (Sif (Tb (E2 (eqD false) (Ev 0) (Ec (.str "product"))))
  (Sret (Eif (Tb (E2 (eqD false) (E2 ixD (Ev 3) (Ec (.int 1))) (E2 ixD (E2 ixD (Ev 1) (Ec (.int 1))) (Ec (.int 0))))) (Etup (Acons (E2 ixD (Ev 3) (Ec (.int 0))) (Acons (E2 ixD (E2 ixD (Ev 1) (Ec (.int 1))) (Ec (.int 1))) Anil))) (Ec .non)))
  Snil)
  (Sseq (Sif (Tb (E2 (eqD false) (Ev 0) (Ec (.str "pick"))))
  (Sret (Eif (Tb (E2 (eqD false) (E2 ixD (E2 ixD (Ev 1) (Ec (.int 1))) (Ec (.int 1))) (Ec (.int 1)))) (Etup (Acons (E2 ixD (E2 ixD (Ev 1) (Ec (.int 1))) (Ec (.int 0))) (Acons (E2 ixD (Ev 3) (Ec (.int 1))) Anil))) (Ec .non)))
  Snil)
  (Sseq (Sif (Tb (E2 (eqD false) (Ev 0) (Ec (.str "turn"))))
  (Sret (Etup (Acons (E2 ixD (Ev 3) (Ec (.int 1))) (Acons (E2 ixD (Ev 3) (Ec (.int 0))) Anil))))
  Snil)
  (Sseq (Sif (Tb (E2 (eqD false) (Ev 0) (Ec (.str "total"))))
  (Sret (Etup (Acons (Ec (.int 1)) (Acons (Ec (.int 1)) Anil))))
  Snil)
  (Sseq (Sif (Tb (E2 (eqD false) (Ev 0) (Ec (.str "spread"))))
  (Sret (Eif (Tb (E2 (eqD false) (Ev 3) (Etup (Acons (Ec (.int 1)) (Acons (Ec (.int 1)) Anil))))) (Etup (Acons (E2 ixD (Ev 2) (Ec (.int 0))) (Acons (E2 ixD (Ev 2) (Ec (.int 1))) Anil))) (Ec .non)))
  Snil)
  (Sret (Ev 3))))))))))
noncomputable def m_step_shape : FC := (runF 4 b_step_shape)
/-! ### shapes -/
abbrev s_shapes : Stmt := topS 2
abbrev N_shapes : List PySem.Str := ["program", "params", "inputs", "steps", "_", "found", "name", "kind", "values", "numbers", "rows", "columns", "value"]
theorem sc_shapes : FnScope N_shapes ["program"] (defScope s_shapes) := ⟨rfl, rfl, rfl, by decide +kernel, rfl, by decide +kernel, by decide +kernel⟩
@[reducible] noncomputable def b_shapes : FS :=
  (Sseq (Sbind (.tp [(.nm 1), (.nm 2), (.nm 3), (.nm 4)]) (Ev 0))
  (Sseq (Sset 5 (EcmpN (Iseq (E2 addD (Ev 1) (Ev 2))) (.tp [(.nm 6), (.nm 10), (.nm 11)]) Tyes (Etup (Acons (Ev 10) (Acons (Ev 11) Anil))) [6, 10, 11]))
  (Sseq (Sfor (Iseq (Ev 3)) (.tp [(.nm 6), (.nm 7), (.nm 8), (.nm 9)])
  (Sexp (EM "list" mApp (Ev 5) (Acons (EC (arN 3 m_step_shape) (Acons (Ev 7) (Acons (Ecmp (Iseq (Ev 8)) (.nm 12) Tyes (E2 ixD (Ev 5) (Ev 12)) [12]) (Acons (Ev 9) Anil)))) Anil))))
  (Sret (EC fTup (Acons (Ev 5) Anil))))))
noncomputable def m_shapes : FC := gcF (runF 13 b_shapes)
/-! ### Back_Lines___init__ -/
abbrev s_Back_Lines___init__ : Stmt := inClass (topS 4) 0
abbrev N_Back_Lines___init__ : List PySem.Str := ["self", "leaves"]
theorem sc_Back_Lines___init__ : FnScope N_Back_Lines___init__ ["self", "leaves"] (defScope s_Back_Lines___init__) := ⟨rfl, rfl, rfl, by decide +kernel, rfl, by decide +kernel, by decide +kernel⟩
@[reducible] noncomputable def b_Back_Lines___init__ : FS :=
  (Sseq (SsetF "Back" "leaves" (Ev 0) (Ev 1))
  (SsetF "Back" "lines" (Ev 0) (Enew Anil)))
noncomputable def m_Back_Lines___init__ : FC := (runF 2 b_Back_Lines___init__)
/-! ### Back_Lines_line -/
abbrev s_Back_Lines_line : Stmt := inClass (topS 4) 1
abbrev N_Back_Lines_line : List PySem.Str := ["self", "kind", "numbers", "values"]
theorem sc_Back_Lines_line : FnScope N_Back_Lines_line ["self", "kind", "numbers", "values"] (defScope s_Back_Lines_line) := ⟨rfl, rfl, rfl, by decide +kernel, rfl, by decide +kernel, by decide +kernel⟩
@[reducible] noncomputable def b_Back_Lines_line : FS :=
  (Sseq (Sexp (EM "list" mApp (E1 (fldD "Back" "lines") (Ev 0)) (Acons (Etup (Acons (Ev 1) (Acons (Ev 2) (Acons (Ev 3) Anil)))) Anil)))
  (Sret (E2 subD (E2 addD (E1 (fldD "Back" "leaves") (Ev 0)) (EC fLen (Acons (E1 (fldD "Back" "lines") (Ev 0)) Anil))) (Ec (.int 1)))))
noncomputable def m_Back_Lines_line : FC := (runF 4 b_Back_Lines_line)
/-! ### Back_Back___init__ -/
abbrev s_Back_Back___init__ : Stmt := inClass (topS 5) 0
abbrev nf_Back_Back___init__ (ca cc : Addr) : NdefX.NF := ⟨"__init__", "Back.__init__", defArgs s_Back_Back___init__, defBody s_Back_Back___init__, defScope s_Back_Back___init__, [(("__class__" : PySem.Str), cc)], ca⟩
abbrev N_Back_Back___init__ : List PySem.Str := ["self", "program", "__class__", "params", "inputs", "steps", "loss", "name", "kind", "values", "numbers"]
theorem sc_Back_Back___init__ : NdefX.NScope N_Back_Back___init__ ["self", "program"] ["__class__"] (defScope s_Back_Back___init__) := NdefX.nscope_by (by decide +kernel)
@[reducible] noncomputable def b_Back_Back___init__ : FS :=
  (Sseq (Sbind (.tp [(.nm 3), (.nm 4), (.nm 5), (.nm 6)]) (Ev 1))
  (Sseq (Ssup 0 "Back" m_Back_Lines___init__ (E2 addD (EC fLen (Acons (Ev 3) Anil)) (EC fLen (Acons (Ev 4) Anil))))
  (Sseq (SsetF "Back" "shapes" (Ev 0) (EC (arN 1 m_shapes) (Acons (Ev 1) Anil)))
  (Sseq (SsetF "Back" "got" (Ev 0) EnewD)
  (Sseq (Sfor (Iseq (Ev 5)) (.tp [(.nm 7), (.nm 8), (.nm 9), (.nm 10)])
  (Sexp (EmtSC "Back" "line" (arS 3 m_Back_Lines_line) (Ev 0) (Ev 8) (Ev 10) (Ev 9))))
  (SsetD (E1 (fldD "Back" "got") (Ev 0)) (Ev 6) (Emt "Back" "line" (arS 3 m_Back_Lines_line) (Ev 0) (Acons (Ec (.str "fill")) (Acons (Etup (Acons (Ec (.int 1)) (Acons (Ec (.int 1)) (Acons (Ec (.int 1)) Anil)))) Anil)))))))))
noncomputable def m_Back_Back___init__ : FC := (runF 11 b_Back_Back___init__)
/-! ### Back_Back_first_part -/
abbrev s_Back_Back_first_part : Stmt := inClass (topS 5) 3
abbrev N_Back_Back_first_part : List PySem.Str := ["self", "kind", "values", "numbers", "given"]
theorem sc_Back_Back_first_part : FnScope N_Back_Back_first_part ["self", "kind", "values", "numbers", "given"] (defScope s_Back_Back_first_part) := ⟨rfl, rfl, rfl, by decide +kernel, rfl, by decide +kernel, by decide +kernel⟩
@[reducible] noncomputable def b_Back_Back_first_part : FS :=
  (Sseq (Sif (Tb (E2 (eqD false) (Ev 1) (Ec (.str "times"))))
  (Sret (Emt "Back" "line" (arS 3 m_Back_Lines_line) (Ev 0) (Acons (Ec (.str "times")) (Acons (Etup Anil) (Acons (Ev 4) (Acons (E2 ixD (Ev 2) (Ec (.int 1))) Anil))))))
  Snil)
  (Sseq (Sif (Tb (E2 (eqD false) (Ev 1) (Ec (.str "product"))))
  (Sret (Emt "Back" "line" (arS 3 m_Back_Lines_line) (Ev 0) (Acons (Ec (.str "product")) (Acons (Etup Anil) (Acons (Ev 4) (Acons (Emt "Back" "line" (arS 3 m_Back_Lines_line) (Ev 0) (Acons (Ec (.str "turn")) (Acons (Etup Anil) (Acons (E2 ixD (Ev 2) (Ec (.int 1))) Anil)))) Anil))))))
  Snil)
  (Sseq (Sif (Tb (E2 (eqD false) (Ev 1) (Ec (.str "turn"))))
  (Sret (Emt "Back" "line" (arS 3 m_Back_Lines_line) (Ev 0) (Acons (Ec (.str "turn")) (Acons (Etup Anil) (Acons (Ev 4) Anil)))))
  Snil)
  (Sseq (Sif (Tb (E2 (eqD false) (Ev 1) (Ec (.str "positive"))))
  (Sret (Emt "Back" "line" (arS 3 m_Back_Lines_line) (Ev 0) (Acons (Ec (.str "gate")) (Acons (Etup Anil) (Acons (E2 ixD (Ev 2) (Ec (.int 0))) (Acons (Ev 4) Anil))))))
  Snil)
  (Sseq (Sif (Tb (E2 (eqD false) (Ev 1) (Ec (.str "total"))))
  (Sret (Emt "Back" "line" (arS 3 m_Back_Lines_line) (Ev 0) (Acons (Ec (.str "spread")) (Acons (E2 ixD (E1 (fldD "Back" "shapes") (Ev 0)) (E2 ixD (Ev 2) (Ec (.int 0)))) (Acons (Ev 4) Anil)))))
  Snil)
  (Sseq (Sif (Tb (E2 (eqD false) (Ev 1) (Ec (.str "spread"))))
  (Sret (Emt "Back" "line" (arS 3 m_Back_Lines_line) (Ev 0) (Acons (Ec (.str "total")) (Acons (Etup Anil) (Acons (Ev 4) Anil)))))
  Snil)
  (Sseq (Sif (Tb (E2 (eqD false) (Ev 1) (Ec (.str "stretch"))))
  (Sret (Emt "Back" "line" (arS 3 m_Back_Lines_line) (Ev 0) (Acons (Ec (.str "stretch")) (Acons (Ev 3) (Acons (Ev 4) Anil)))))
  Snil)
  (Sseq (Sif (Tb (E2 (eqD false) (Ev 1) (Ec (.str "pick"))))
  (Sret (Emt "Back" "line" (arS 3 m_Back_Lines_line) (Ev 0) (Acons (Ec (.str "place")) (Acons (Etup (Acons (E2 ixD (E2 ixD (E1 (fldD "Back" "shapes") (Ev 0)) (E2 ixD (Ev 2) (Ec (.int 0)))) (Ec (.int 0))) Anil)) (Acons (E2 ixD (Ev 2) (Ec (.int 1))) (Acons (Ev 4) Anil))))))
  Snil)
  (Sret (Ev 4))))))))))
noncomputable def m_Back_Back_first_part : FC := (runF 5 b_Back_Back_first_part)
/-! ### Back_Back_give -/
abbrev s_Back_Back_give : Stmt := inClass (topS 5) 1
abbrev N_Back_Back_give : List PySem.Str := ["self", "value", "given"]
theorem sc_Back_Back_give : FnScope N_Back_Back_give ["self", "value", "given"] (defScope s_Back_Back_give) := ⟨rfl, rfl, rfl, by decide +kernel, rfl, by decide +kernel, by decide +kernel⟩
@[reducible] noncomputable def b_Back_Back_give : FS :=
  (Sseq (Sif (Tb (E2 (dinD false) (Ev 1) (E1 (fldD "Back" "got") (Ev 0))))
  (Sset 2 (Emt "Back" "line" (arS 3 m_Back_Lines_line) (Ev 0) (Acons (Ec (.str "add")) (Acons (Etup Anil) (Acons (E2 dgetD (E1 (fldD "Back" "got") (Ev 0)) (Ev 1)) (Acons (Ev 2) Anil))))))
  Snil)
  (SsetD (E1 (fldD "Back" "got") (Ev 0)) (Ev 1) (Ev 2)))
noncomputable def m_Back_Back_give : FC := (runF 3 b_Back_Back_give)
/-! ### Back_Back_second_part -/
abbrev s_Back_Back_second_part : Stmt := inClass (topS 5) 4
abbrev N_Back_Back_second_part : List PySem.Str := ["self", "kind", "values", "given"]
theorem sc_Back_Back_second_part : FnScope N_Back_Back_second_part ["self", "kind", "values", "given"] (defScope s_Back_Back_second_part) := ⟨rfl, rfl, rfl, by decide +kernel, rfl, by decide +kernel, by decide +kernel⟩
@[reducible] noncomputable def b_Back_Back_second_part : FS :=
  (Sseq (Sif (Tb (E2 (eqD false) (Ev 1) (Ec (.str "sub"))))
  (Sret (Emt "Back" "line" (arS 3 m_Back_Lines_line) (Ev 0) (Acons (Ec (.str "stretch")) (Acons (Etup (Acons (E1 negD (Ec (.int 1))) Anil)) (Acons (Ev 3) Anil)))))
  Snil)
  (Sseq (Sif (Tb (E2 (eqD false) (Ev 1) (Ec (.str "times"))))
  (Sret (Emt "Back" "line" (arS 3 m_Back_Lines_line) (Ev 0) (Acons (Ec (.str "times")) (Acons (Etup Anil) (Acons (Ev 3) (Acons (E2 ixD (Ev 2) (Ec (.int 0))) Anil))))))
  Snil)
  (Sseq (Sif (Tb (E2 (eqD false) (Ev 1) (Ec (.str "product"))))
  (Sret (Emt "Back" "line" (arS 3 m_Back_Lines_line) (Ev 0) (Acons (Ec (.str "product")) (Acons (Etup Anil) (Acons (Emt "Back" "line" (arS 3 m_Back_Lines_line) (Ev 0) (Acons (Ec (.str "turn")) (Acons (Etup Anil) (Acons (E2 ixD (Ev 2) (Ec (.int 0))) Anil)))) (Acons (Ev 3) Anil))))))
  Snil)
  (Sret (Ev 3)))))
noncomputable def m_Back_Back_second_part : FC := (runF 4 b_Back_Back_second_part)
/-! ### Back_Back_go_back -/
abbrev s_Back_Back_go_back : Stmt := inClass (topS 5) 2
abbrev N_Back_Back_go_back : List PySem.Str := ["self", "step", "own", "name", "kind", "values", "numbers", "given"]
theorem sc_Back_Back_go_back : FnScope N_Back_Back_go_back ["self", "step", "own"] (defScope s_Back_Back_go_back) := ⟨rfl, rfl, rfl, by decide +kernel, rfl, by decide +kernel, by decide +kernel⟩
@[reducible] noncomputable def b_Back_Back_go_back : FS :=
  (Sseq (Sbind (.tp [(.nm 3), (.nm 4), (.nm 5), (.nm 6)]) (Ev 1))
  (Sif (Tb (E2 (dinD false) (Ev 2) (E1 (fldD "Back" "got") (Ev 0))))
  (Sseq (Sset 7 (E2 dgetD (E1 (fldD "Back" "got") (Ev 0)) (Ev 2)))
  (Sseq (Sexp (Emt "Back" "give" (arN 3 m_Back_Back_give) (Ev 0) (Acons (E2 ixD (Ev 5) (Ec (.int 0))) (Acons (Emt "Back" "first_part" (arN 5 m_Back_Back_first_part) (Ev 0) (Acons (Ev 4) (Acons (Ev 5) (Acons (Ev 6) (Acons (Ev 7) Anil))))) Anil))))
  (Sif (Tand (Tb (E2 (eqD false) (EC fLen (Acons (Ev 5) Anil)) (Ec (.int 2)))) (Tb (E2 (eqD true) (Ev 4) (Ec (.str "pick")))))
  (Sexp (Emt "Back" "give" (arN 3 m_Back_Back_give) (Ev 0) (Acons (E2 ixD (Ev 5) (Ec (.int 1))) (Acons (Emt "Back" "second_part" (arN 4 m_Back_Back_second_part) (Ev 0) (Acons (Ev 4) (Acons (Ev 5) (Acons (Ev 7) Anil)))) Anil))))
  Snil)))
  Snil))
noncomputable def m_Back_Back_go_back : FC := (runF 8 b_Back_Back_go_back)
/-! ### plan -/
abbrev s_plan : Stmt := topS 6
abbrev N_plan : List PySem.Str := ["program", "params", "inputs", "steps", "loss", "back", "index", "number", "param", "gradients_of"]
theorem sc_plan : FnScope N_plan ["program"] (defScope s_plan) := ⟨rfl, rfl, rfl, by decide +kernel, rfl, by decide +kernel, by decide +kernel⟩
@[reducible] noncomputable def b_plan : FS :=
  (Sseq (Sbind (.tp [(.nm 1), (.nm 2), (.nm 3), (.nm 4)]) (Ev 0))
  (Sseq (Sset 5 (Emk "Back" (arN 2 m_Back_Back___init__) (Acons (Ev 0) Anil)))
  (Sseq (Sfor (Irng3 (Acons (E2 subD (EC fLen (Acons (Ev 3) Anil)) (Ec (.int 1))) (Acons (E1 negD (Ec (.int 1))) (Acons (E1 negD (Ec (.int 1))) Anil)))) (.nm 6)
  (Sexp (Emt "Back" "go_back" (arN 3 m_Back_Back_go_back) (Ev 5) (Acons (E2 ixD (Ev 3) (Ev 6)) (Acons (E2 addD (E1 (fldD "Back" "leaves") (Ev 5)) (Ev 6)) Anil)))))
  (Sseq (Sfor (Ienum (Acons (Ev 1) Anil)) (.tp [(.nm 7), (.nm 8)])
  (Sif (Tb (E2 (dinD true) (Ev 7) (E1 (fldD "Back" "got") (Ev 5))))
  (SsetD (E1 (fldD "Back" "got") (Ev 5)) (Ev 7) (Emt "Back" "line" (arS 3 m_Back_Lines_line) (Ev 5) (Acons (Ec (.str "fill")) (Acons (Etup (Acons (E2 ixD (Ev 8) (Ec (.int 1))) (Acons (E2 ixD (Ev 8) (Ec (.int 2))) (Acons (Ec (.int 0)) Anil)))) Anil))))
  Snil))
  (Sseq (Sset 9 (EC fTup (Acons (Ecmp (Irng1 (Acons (EC fLen (Acons (Ev 1) Anil)) Anil)) (.nm 7) Tyes (E2 dgetD (E1 (fldD "Back" "got") (Ev 5)) (Ev 7)) [7]) Anil)))
  (Sret (Etup (Acons (E1 (fldD "Back" "leaves") (Ev 5)) (Acons (EC fTup (Acons (E1 (fldD "Back" "lines") (Ev 5)) Anil)) (Acons (Ev 4) (Acons (Ev 9) Anil)))))))))))
noncomputable def m_plan : FC := gcF (runF 10 b_plan)
/-! ### _law_pool -/
abbrev s__law_pool : Stmt := topS 8
abbrev N__law_pool : List PySem.Str := ["_law_script"]
theorem sc__law_pool : FnScope N__law_pool ["_law_script"] (defScope s__law_pool) := ⟨rfl, rfl, rfl, by decide +kernel, rfl, by decide +kernel, by decide +kernel⟩
@[reducible] noncomputable def b__law_pool : FS :=
  (Sret (Enew (Acons (EC fList (Acons (Ev 0) Anil)) (Acons (Ec (.int 0)) (Acons (Ec (.int 0)) (Acons (Ec (.int 0)) (Acons (Ec (.int 0)) Anil)))))))
noncomputable def m__law_pool : FC := (runF 1 b__law_pool)
/-! ### _law_draw -/
abbrev s__law_draw : Stmt := topS 9
abbrev N__law_draw : List PySem.Str := ["_law_pool_here", "_law_many", "_law_found", "_law_cell", "_law_mixed"]
theorem sc__law_draw : FnScope N__law_draw ["_law_pool_here", "_law_many"] (defScope s__law_draw) := ⟨rfl, rfl, rfl, by decide +kernel, rfl, by decide +kernel, by decide +kernel⟩
@[reducible] noncomputable def b__law_draw : FS :=
  (Sseq (Sif (Tb (E2 gtD (E2 ixD (Ev 0) (Ec (.int 2))) (Ec (.int 0))))
  (Sseq (Sset 2 (E2 modD (EC fInt (Acons (E2 ixD (Ev 0) (Ec (.int 2))) Anil)) (Ev 1)))
  (Sseq (SsetIx (Ev 0) (Ec (.int 2)) (E2 fdivD (E2 ixD (Ev 0) (Ec (.int 2))) (Ev 1)))
  (Sret (Ev 2))))
  Snil)
  (Sseq (Sif (Tand (Tb (E2 (eqD false) (E2 modD (EC fInt (Acons (E2 ixD (Ev 0) (Ec (.int 4))) Anil)) (Ec (.int 8))) (Ec (.int 0)))) (Tb (E2 ltD (E2 ixD (Ev 0) (Ec (.int 1))) (EC fLen (Acons (E2 ixD (Ev 0) (Ec (.int 0))) Anil)))))
  (Sseq (Sset 3 (EC fAbs (Acons (E2 ixD (E2 ixD (Ev 0) (Ec (.int 0))) (E2 ixD (Ev 0) (Ec (.int 1)))) Anil)))
  (Sseq (SsetIx (Ev 0) (Ec (.int 1)) (E2 addD (E2 ixD (Ev 0) (Ec (.int 1))) (Ec (.int 1))))
  (Sseq (Sif (Tb (E2 geD (Ev 3) (E2 powD (Ec (.int 10)) (Ec (.int 18)))))
  (Sseq (SsetIx (Ev 0) (Ec (.int 2)) (E2 fdivD (Ev 3) (Ev 1)))
  (Sret (E2 modD (EC fInt (Acons (Ev 3) Anil)) (Ev 1))))
  Snil)
  (SsetIx (Ev 0) (Ec (.int 3)) (Ev 3)))))
  Snil)
  (Sseq (SsetIx (Ev 0) (Ec (.int 4)) (E2 addD (E2 ixD (Ev 0) (Ec (.int 4))) (Ec (.int 1))))
  (Sseq (Sset 4 (E2 modD (EC fInt (Acons (E2 addD (E2 addD (E2 mulD (E2 ixD (Ev 0) (Ec (.int 3))) (Ec (.int 48271))) (E2 mulD (E2 ixD (Ev 0) (Ec (.int 4))) (Ec (.int 69621)))) (Ec (.int 7919))) Anil)) (Ec (.int 2147483647))))
  (Sseq (Sset 4 (E2 modD (EC fInt (Acons (E2 addD (E2 mulD (Ev 4) (Ev 4)) (E2 mulD (E2 ixD (Ev 0) (Ec (.int 4))) (Ec (.int 40692)))) Anil)) (Ec (.int 2147483399))))
  (Sret (E2 modD (EC fInt (Acons (Ev 4) Anil)) (Ev 1))))))))
noncomputable def m__law_draw : FC := (runF 5 b__law_draw)
/-! ### _law_pick -/
abbrev s__law_pick : Stmt := topS 10
abbrev N__law_pick : List PySem.Str := ["_law_pool_here", "_law_rows"]
theorem sc__law_pick : FnScope N__law_pick ["_law_pool_here", "_law_rows"] (defScope s__law_pick) := ⟨rfl, rfl, rfl, by decide +kernel, rfl, by decide +kernel, by decide +kernel⟩
@[reducible] noncomputable def b__law_pick : FS :=
  (Sret (E2 ixD (Ev 1) (EC (arN 2 m__law_draw) (Acons (Ev 0) (Acons (EC fLen (Acons (Ev 1) Anil)) Anil)))))
noncomputable def m__law_pick : FC := (runF 2 b__law_pick)
/-! ### _law_same -/
abbrev s__law_same : Stmt := topS 11
abbrev N__law_same : List PySem.Str := ["_law_actual", "_law_due", "_law_k"]
theorem sc__law_same : FnScope N__law_same ["_law_actual", "_law_due"] (defScope s__law_same) := ⟨rfl, rfl, rfl, by decide +kernel, rfl, by decide +kernel, by decide +kernel⟩
@[reducible] noncomputable def b__law_same (m : FC) : FS :=
  (Sseq (Sif (Tt (EC fIsi (Acons (Ev 1) (Acons (Ec (.ty "tuple")) Anil))))
  (Sseq (Sif (Tor (Tnot (Tt (EC fIsi (Acons (Ev 0) (Acons (Ec (.ty "tuple")) Anil))))) (Tb (E2 (eqD true) (EC fLen (Acons (Ev 0) Anil)) (EC fLen (Acons (Ev 1) Anil)))))
  (Sret (Ec (.bl false)))
  Snil)
  (Sret (E2 (eqD false) (EC fLen (Acons (Ecmp (Irng1 (Acons (EC fLen (Acons (Ev 1) Anil)) Anil)) (.nm 2) (Tnot (Tt (EC (arN 2 m) (Acons (E2 ixD (Ev 0) (Ev 2)) (Acons (E2 ixD (Ev 1) (Ev 2)) Anil))))) (Ev 2) [2]) Anil)) (Ec (.int 0)))))
  Snil)
  (Sseq (Sif (Tb (E2 (isnD false) (Ev 1) (Ec .non)))
  (Sret (E2 (isnD false) (Ev 0) (Ec .non)))
  Snil)
  (Sseq (Sif (Tt (EC fIsi (Acons (Ev 1) (Acons (Ec (.ty "str")) Anil))))
  (Sret (Eand (EC fIsi (Acons (Ev 0) (Acons (Ec (.ty "str")) Anil))) (E2 (eqD false) (Ev 0) (Ev 1))))
  Snil)
  (Sret (Eand (EC fIsi (Acons (Ev 0) (Acons (Ec (.ty "int")) Anil))) (Eand (Enot (EC fIsi (Acons (Ev 0) (Acons (Ec (.ty "bool")) Anil)))) (E2 (eqD false) (Ev 0) (Ev 1))))))))
noncomputable def m__law_same : Nat → FC
  | 0 => fun _ _ => none
  | n + 1 => (runF 3 (b__law_same (m__law_same n)))
/-! ### _law_name -/
abbrev s__law_name : Stmt := topS 12
abbrev N__law_name : List PySem.Str := ["_law_pool_here", "_law_index", "_law_tail"]
theorem sc__law_name : FnScope N__law_name ["_law_pool_here", "_law_index"] (defScope s__law_name) := ⟨rfl, rfl, rfl, by decide +kernel, rfl, by decide +kernel, by decide +kernel⟩
@[reducible] noncomputable def b__law_name : FS :=
  (Sseq (Sset 2 (E2 ixD (Elst (Acons (Ec (.str "")) (Acons (Ec (.str "z")) (Acons (Ec (.str "q1")) (Acons (Ec (.str "loss")) (Acons (Ec (.str "a0b")) Anil)))))) (EC (arN 2 m__law_draw) (Acons (Ev 0) (Acons (Ec (.int 5)) Anil)))))
  (Sret (E2 addD (E2 addD (E2 ixD (Ec (.str "abcdefghijklmnopqrstuvwxyz")) (EC (arN 2 m__law_draw) (Acons (Ev 0) (Acons (Ec (.int 26)) Anil)))) (EC fStr (Acons (Ev 1) Anil))) (Ev 2))))
noncomputable def m__law_name : FC := (runF 3 b__law_name)
/-! ### _law_fits -/
abbrev s__law_fits : Stmt := topS 13
abbrev N__law_fits : List PySem.Str := ["_law_kind", "_law_found", "_law_a", "_law_b"]
theorem sc__law_fits : FnScope N__law_fits ["_law_kind", "_law_found", "_law_a", "_law_b"] (defScope s__law_fits) := ⟨rfl, rfl, rfl, by decide +kernel, rfl, by decide +kernel, by decide +kernel⟩
@[reducible] noncomputable def b__law_fits : FS :=
  (Sseq (Sif (Tb (E2 (inD false) (Ev 0) (Etup (Acons (Ec (.str "add")) (Acons (Ec (.str "sub")) (Acons (Ec (.str "times")) Anil))))))
  (Sret (E2 (eqD false) (E2 ixD (Ev 1) (Ev 2)) (E2 ixD (Ev 1) (Ev 3))))
  Snil)
  (Sseq (Sif (Tb (E2 (eqD false) (Ev 0) (Ec (.str "product"))))
  (Sret (E2 (eqD false) (E2 ixD (E2 ixD (Ev 1) (Ev 2)) (Ec (.int 1))) (E2 ixD (E2 ixD (Ev 1) (Ev 3)) (Ec (.int 0)))))
  Snil)
  (Sret (E2 (eqD false) (E2 ixD (E2 ixD (Ev 1) (Ev 3)) (Ec (.int 1))) (Ec (.int 1))))))
noncomputable def m__law_fits : FC := (runF 4 b__law_fits)
/-! ### _law_step_shape -/
abbrev s__law_step_shape : Stmt := topS 14
abbrev N__law_step_shape : List PySem.Str := ["_law_kind", "_law_found", "_law_values", "_law_numbers", "_law_first"]
theorem sc__law_step_shape : FnScope N__law_step_shape ["_law_kind", "_law_found", "_law_values", "_law_numbers"] (defScope s__law_step_shape) := ⟨rfl, rfl, rfl, by decide +kernel, rfl, by decide +kernel, by decide +kernel⟩
@[reducible] noncomputable def b__law_step_shape : FS :=
  (Sseq (Sset 4 (E2 ixD (Ev 1) (E2 ixD (Ev 2) (Ec (.int 0)))))
  (Sseq (Sif (Tb (E2 (eqD false) (Ev 0) (Ec (.str "product"))))
  (Sret (Etup (Acons (E2 ixD (Ev 4) (Ec (.int 0))) (Acons (E2 ixD (E2 ixD (Ev 1) (E2 ixD (Ev 2) (Ec (.int 1)))) (Ec (.int 1))) Anil))))
  Snil)
  (Sseq (Sif (Tb (E2 (eqD false) (Ev 0) (Ec (.str "pick"))))
  (Sret (Etup (Acons (E2 ixD (E2 ixD (Ev 1) (E2 ixD (Ev 2) (Ec (.int 1)))) (Ec (.int 0))) (Acons (E2 ixD (Ev 4) (Ec (.int 1))) Anil))))
  Snil)
  (Sseq (Sif (Tb (E2 (eqD false) (Ev 0) (Ec (.str "turn"))))
  (Sret (Etup (Acons (E2 ixD (Ev 4) (Ec (.int 1))) (Acons (E2 ixD (Ev 4) (Ec (.int 0))) Anil))))
  Snil)
  (Sseq (Sif (Tb (E2 (eqD false) (Ev 0) (Ec (.str "total"))))
  (Sret (Etup (Acons (Ec (.int 1)) (Acons (Ec (.int 1)) Anil))))
  Snil)
  (Sseq (Sif (Tb (E2 (eqD false) (Ev 0) (Ec (.str "spread"))))
  (Sret (Ev 3))
  Snil)
  (Sret (Ev 4))))))))
noncomputable def m__law_step_shape : FC := (runF 5 b__law_step_shape)
/-! ### _law_step -/
abbrev s__law_step : Stmt := topS 15
abbrev N__law_step : List PySem.Str := ["_law_pool_here", "_law_found", "_law_own", "_law_leaves", "_law_kinds", "_law_kind", "_law_last", "_law_pairs", "_law_a", "_law_low", "_law_high", "_law_cells", "_law_value", "_law_b"]
theorem sc__law_step : FnScope N__law_step ["_law_pool_here", "_law_found", "_law_own", "_law_leaves"] (defScope s__law_step) := ⟨rfl, rfl, rfl, by decide +kernel, rfl, by decide +kernel, by decide +kernel⟩
@[reducible] noncomputable def b__law_step : FS :=
  (Sseq (Sset 4 (Elst (Acons (Ec (.str "add")) (Acons (Ec (.str "sub")) (Acons (Ec (.str "times")) (Acons (Ec (.str "product")) (Acons (Ec (.str "product")) (Acons (Ec (.str "turn")) (Acons (Ec (.str "positive")) (Acons (Ec (.str "total")) (Acons (Ec (.str "spread")) (Acons (Ec (.str "stretch")) (Acons (Ec (.str "pick")) Anil)))))))))))))
  (Sseq (Sset 5 (EC (arN 2 m__law_pick) (Acons (Ev 0) (Acons (Ev 4) Anil))))
  (Sseq (Sset 6 (EC fLen (Acons (Ev 1) Anil)))
  (Sseq (Sif (Tb (E2 (inD false) (Ev 5) (Etup (Acons (Ec (.str "add")) (Acons (Ec (.str "sub")) (Acons (Ec (.str "times")) (Acons (Ec (.str "product")) (Acons (Ec (.str "pick")) Anil))))))))
  (Sseq (Sset 7 (Enew Anil))
  (Sseq (Sfor (Irng1 (Acons (Ev 6) Anil)) (.nm 8)
  (Sseq (Sset 9 (Eif (Tb (E2 (eqD false) (Ev 5) (Ec (.str "pick")))) (Ev 2) (Ec (.int 0))))
  (Sseq (Sset 10 (Eif (Tb (E2 (eqD false) (Ev 5) (Ec (.str "pick")))) (Ev 3) (Ev 6)))
  (Sexp (EM "list" mExA (Ev 7) (Acons (Ecmp (Irng2 (Acons (Ev 9) (Acons (Ev 10) Anil))) (.nm 13) (Tt (EC (arN 4 m__law_fits) (Acons (Ev 5) (Acons (Ev 1) (Acons (Ev 8) (Acons (Ev 13) Anil)))))) (Etup (Acons (Ev 8) (Acons (Ev 13) Anil))) [13]) Anil))))))
  (Sseq (Sif (Tb (E2 gtD (EC fLen (Acons (Ev 7) Anil)) (Ec (.int 0))))
  (Sret (Etup (Acons (Ev 5) (Acons (EC (arN 2 m__law_pick) (Acons (Ev 0) (Acons (Esl (Ev 7) (Osome (E2 fdivD (EC fLen (Acons (Ev 7) Anil)) (Ec (.int 3)))) Onone) Anil))) (Acons (Etup Anil) Anil)))))
  Snil)
  (Sset 5 (Ec (.str "positive"))))))
  Snil)
  (Sseq (Sif (Tb (E2 (eqD false) (Ev 5) (Ec (.str "spread"))))
  (Sseq (Sset 11 (Ecmp (Irng1 (Acons (Ev 6) Anil)) (.nm 8) (Tb (E2 (eqD false) (E2 ixD (Ev 1) (Ev 8)) (Etup (Acons (Ec (.int 1)) (Acons (Ec (.int 1)) Anil))))) (Ev 8) [8]))
  (Sseq (Sif (Tb (E2 gtD (EC fLen (Acons (Ev 11) Anil)) (Ec (.int 0))))
  (Sret (Etup (Acons (Ev 5) (Acons (Etup (Acons (EC (arN 2 m__law_pick) (Acons (Ev 0) (Acons (Ev 11) Anil))) Anil)) (Acons (Etup (Acons (E2 addD (Ec (.int 1)) (EC (arN 2 m__law_draw) (Acons (Ev 0) (Acons (Ec (.int 6)) Anil)))) (Acons (E2 addD (Ec (.int 1)) (EC (arN 2 m__law_draw) (Acons (Ev 0) (Acons (Ec (.int 6)) Anil)))) Anil))) Anil)))))
  Snil)
  (Sset 5 (Ec (.str "total")))))
  Snil)
  (Sseq (Sset 12 (E2 subD (E2 subD (Ev 6) (Ec (.int 1))) (EC (arN 2 m__law_draw) (Acons (Ev 0) (Acons (EC fMin2 (Acons (Ev 6) (Acons (Ec (.int 4)) Anil))) Anil)))))
  (Sseq (Sif (Tb (E2 (eqD false) (Ev 5) (Ec (.str "stretch"))))
  (Sret (Etup (Acons (Ev 5) (Acons (Etup (Acons (Ev 12) Anil)) (Acons (Etup (Acons (EC (arN 2 m__law_pick) (Acons (Ev 0) (Acons (Elst (Acons (E1 negD (Ec (.int 1000))) (Acons (E1 negD (Ec (.int 1))) (Acons (Ec (.int 0)) (Acons (Ec (.int 2)) (Acons (Ec (.int 1000)) (Acons (E2 subD (EC (arN 2 m__law_draw) (Acons (Ev 0) (Acons (Ec (.int 2001)) Anil))) (Ec (.int 1000))) Anil))))))) Anil))) Anil)) Anil)))))
  Snil)
  (Sret (Etup (Acons (Ev 5) (Acons (Etup (Acons (Ev 12) Anil)) (Acons (Etup Anil) Anil))))))))))))
@[reducible] noncomputable def t__law_step_1 : FS := (Sseq (Sset 5 (EC (arN 2 m__law_pick) (Acons (Ev 0) (Acons (Ev 4) Anil))))
  (Sseq (Sset 6 (EC fLen (Acons (Ev 1) Anil)))
  (Sseq (Sif (Tb (E2 (inD false) (Ev 5) (Etup (Acons (Ec (.str "add")) (Acons (Ec (.str "sub")) (Acons (Ec (.str "times")) (Acons (Ec (.str "product")) (Acons (Ec (.str "pick")) Anil))))))))
  (Sseq (Sset 7 (Enew Anil))
  (Sseq (Sfor (Irng1 (Acons (Ev 6) Anil)) (.nm 8)
  (Sseq (Sset 9 (Eif (Tb (E2 (eqD false) (Ev 5) (Ec (.str "pick")))) (Ev 2) (Ec (.int 0))))
  (Sseq (Sset 10 (Eif (Tb (E2 (eqD false) (Ev 5) (Ec (.str "pick")))) (Ev 3) (Ev 6)))
  (Sexp (EM "list" mExA (Ev 7) (Acons (Ecmp (Irng2 (Acons (Ev 9) (Acons (Ev 10) Anil))) (.nm 13) (Tt (EC (arN 4 m__law_fits) (Acons (Ev 5) (Acons (Ev 1) (Acons (Ev 8) (Acons (Ev 13) Anil)))))) (Etup (Acons (Ev 8) (Acons (Ev 13) Anil))) [13]) Anil))))))
  (Sseq (Sif (Tb (E2 gtD (EC fLen (Acons (Ev 7) Anil)) (Ec (.int 0))))
  (Sret (Etup (Acons (Ev 5) (Acons (EC (arN 2 m__law_pick) (Acons (Ev 0) (Acons (Esl (Ev 7) (Osome (E2 fdivD (EC fLen (Acons (Ev 7) Anil)) (Ec (.int 3)))) Onone) Anil))) (Acons (Etup Anil) Anil)))))
  Snil)
  (Sset 5 (Ec (.str "positive"))))))
  Snil)
  (Sseq (Sif (Tb (E2 (eqD false) (Ev 5) (Ec (.str "spread"))))
  (Sseq (Sset 11 (Ecmp (Irng1 (Acons (Ev 6) Anil)) (.nm 8) (Tb (E2 (eqD false) (E2 ixD (Ev 1) (Ev 8)) (Etup (Acons (Ec (.int 1)) (Acons (Ec (.int 1)) Anil))))) (Ev 8) [8]))
  (Sseq (Sif (Tb (E2 gtD (EC fLen (Acons (Ev 11) Anil)) (Ec (.int 0))))
  (Sret (Etup (Acons (Ev 5) (Acons (Etup (Acons (EC (arN 2 m__law_pick) (Acons (Ev 0) (Acons (Ev 11) Anil))) Anil)) (Acons (Etup (Acons (E2 addD (Ec (.int 1)) (EC (arN 2 m__law_draw) (Acons (Ev 0) (Acons (Ec (.int 6)) Anil)))) (Acons (E2 addD (Ec (.int 1)) (EC (arN 2 m__law_draw) (Acons (Ev 0) (Acons (Ec (.int 6)) Anil)))) Anil))) Anil)))))
  Snil)
  (Sset 5 (Ec (.str "total")))))
  Snil)
  (Sseq (Sset 12 (E2 subD (E2 subD (Ev 6) (Ec (.int 1))) (EC (arN 2 m__law_draw) (Acons (Ev 0) (Acons (EC fMin2 (Acons (Ev 6) (Acons (Ec (.int 4)) Anil))) Anil)))))
  (Sseq (Sif (Tb (E2 (eqD false) (Ev 5) (Ec (.str "stretch"))))
  (Sret (Etup (Acons (Ev 5) (Acons (Etup (Acons (Ev 12) Anil)) (Acons (Etup (Acons (EC (arN 2 m__law_pick) (Acons (Ev 0) (Acons (Elst (Acons (E1 negD (Ec (.int 1000))) (Acons (E1 negD (Ec (.int 1))) (Acons (Ec (.int 0)) (Acons (Ec (.int 2)) (Acons (Ec (.int 1000)) (Acons (E2 subD (EC (arN 2 m__law_draw) (Acons (Ev 0) (Acons (Ec (.int 2001)) Anil))) (Ec (.int 1000))) Anil))))))) Anil))) Anil)) Anil)))))
  Snil)
  (Sret (Etup (Acons (Ev 5) (Acons (Etup (Acons (Ev 12) Anil)) (Acons (Etup Anil) Anil)))))))))))
@[reducible] noncomputable def t__law_step_2 : FS := (Sseq (Sset 6 (EC fLen (Acons (Ev 1) Anil)))
  (Sseq (Sif (Tb (E2 (inD false) (Ev 5) (Etup (Acons (Ec (.str "add")) (Acons (Ec (.str "sub")) (Acons (Ec (.str "times")) (Acons (Ec (.str "product")) (Acons (Ec (.str "pick")) Anil))))))))
  (Sseq (Sset 7 (Enew Anil))
  (Sseq (Sfor (Irng1 (Acons (Ev 6) Anil)) (.nm 8)
  (Sseq (Sset 9 (Eif (Tb (E2 (eqD false) (Ev 5) (Ec (.str "pick")))) (Ev 2) (Ec (.int 0))))
  (Sseq (Sset 10 (Eif (Tb (E2 (eqD false) (Ev 5) (Ec (.str "pick")))) (Ev 3) (Ev 6)))
  (Sexp (EM "list" mExA (Ev 7) (Acons (Ecmp (Irng2 (Acons (Ev 9) (Acons (Ev 10) Anil))) (.nm 13) (Tt (EC (arN 4 m__law_fits) (Acons (Ev 5) (Acons (Ev 1) (Acons (Ev 8) (Acons (Ev 13) Anil)))))) (Etup (Acons (Ev 8) (Acons (Ev 13) Anil))) [13]) Anil))))))
  (Sseq (Sif (Tb (E2 gtD (EC fLen (Acons (Ev 7) Anil)) (Ec (.int 0))))
  (Sret (Etup (Acons (Ev 5) (Acons (EC (arN 2 m__law_pick) (Acons (Ev 0) (Acons (Esl (Ev 7) (Osome (E2 fdivD (EC fLen (Acons (Ev 7) Anil)) (Ec (.int 3)))) Onone) Anil))) (Acons (Etup Anil) Anil)))))
  Snil)
  (Sset 5 (Ec (.str "positive"))))))
  Snil)
  (Sseq (Sif (Tb (E2 (eqD false) (Ev 5) (Ec (.str "spread"))))
  (Sseq (Sset 11 (Ecmp (Irng1 (Acons (Ev 6) Anil)) (.nm 8) (Tb (E2 (eqD false) (E2 ixD (Ev 1) (Ev 8)) (Etup (Acons (Ec (.int 1)) (Acons (Ec (.int 1)) Anil))))) (Ev 8) [8]))
  (Sseq (Sif (Tb (E2 gtD (EC fLen (Acons (Ev 11) Anil)) (Ec (.int 0))))
  (Sret (Etup (Acons (Ev 5) (Acons (Etup (Acons (EC (arN 2 m__law_pick) (Acons (Ev 0) (Acons (Ev 11) Anil))) Anil)) (Acons (Etup (Acons (E2 addD (Ec (.int 1)) (EC (arN 2 m__law_draw) (Acons (Ev 0) (Acons (Ec (.int 6)) Anil)))) (Acons (E2 addD (Ec (.int 1)) (EC (arN 2 m__law_draw) (Acons (Ev 0) (Acons (Ec (.int 6)) Anil)))) Anil))) Anil)))))
  Snil)
  (Sset 5 (Ec (.str "total")))))
  Snil)
  (Sseq (Sset 12 (E2 subD (E2 subD (Ev 6) (Ec (.int 1))) (EC (arN 2 m__law_draw) (Acons (Ev 0) (Acons (EC fMin2 (Acons (Ev 6) (Acons (Ec (.int 4)) Anil))) Anil)))))
  (Sseq (Sif (Tb (E2 (eqD false) (Ev 5) (Ec (.str "stretch"))))
  (Sret (Etup (Acons (Ev 5) (Acons (Etup (Acons (Ev 12) Anil)) (Acons (Etup (Acons (EC (arN 2 m__law_pick) (Acons (Ev 0) (Acons (Elst (Acons (E1 negD (Ec (.int 1000))) (Acons (E1 negD (Ec (.int 1))) (Acons (Ec (.int 0)) (Acons (Ec (.int 2)) (Acons (Ec (.int 1000)) (Acons (E2 subD (EC (arN 2 m__law_draw) (Acons (Ev 0) (Acons (Ec (.int 2001)) Anil))) (Ec (.int 1000))) Anil))))))) Anil))) Anil)) Anil)))))
  Snil)
  (Sret (Etup (Acons (Ev 5) (Acons (Etup (Acons (Ev 12) Anil)) (Acons (Etup Anil) Anil))))))))))
@[reducible] noncomputable def t__law_step_3 : FS := (Sseq (Sif (Tb (E2 (inD false) (Ev 5) (Etup (Acons (Ec (.str "add")) (Acons (Ec (.str "sub")) (Acons (Ec (.str "times")) (Acons (Ec (.str "product")) (Acons (Ec (.str "pick")) Anil))))))))
  (Sseq (Sset 7 (Enew Anil))
  (Sseq (Sfor (Irng1 (Acons (Ev 6) Anil)) (.nm 8)
  (Sseq (Sset 9 (Eif (Tb (E2 (eqD false) (Ev 5) (Ec (.str "pick")))) (Ev 2) (Ec (.int 0))))
  (Sseq (Sset 10 (Eif (Tb (E2 (eqD false) (Ev 5) (Ec (.str "pick")))) (Ev 3) (Ev 6)))
  (Sexp (EM "list" mExA (Ev 7) (Acons (Ecmp (Irng2 (Acons (Ev 9) (Acons (Ev 10) Anil))) (.nm 13) (Tt (EC (arN 4 m__law_fits) (Acons (Ev 5) (Acons (Ev 1) (Acons (Ev 8) (Acons (Ev 13) Anil)))))) (Etup (Acons (Ev 8) (Acons (Ev 13) Anil))) [13]) Anil))))))
  (Sseq (Sif (Tb (E2 gtD (EC fLen (Acons (Ev 7) Anil)) (Ec (.int 0))))
  (Sret (Etup (Acons (Ev 5) (Acons (EC (arN 2 m__law_pick) (Acons (Ev 0) (Acons (Esl (Ev 7) (Osome (E2 fdivD (EC fLen (Acons (Ev 7) Anil)) (Ec (.int 3)))) Onone) Anil))) (Acons (Etup Anil) Anil)))))
  Snil)
  (Sset 5 (Ec (.str "positive"))))))
  Snil)
  (Sseq (Sif (Tb (E2 (eqD false) (Ev 5) (Ec (.str "spread"))))
  (Sseq (Sset 11 (Ecmp (Irng1 (Acons (Ev 6) Anil)) (.nm 8) (Tb (E2 (eqD false) (E2 ixD (Ev 1) (Ev 8)) (Etup (Acons (Ec (.int 1)) (Acons (Ec (.int 1)) Anil))))) (Ev 8) [8]))
  (Sseq (Sif (Tb (E2 gtD (EC fLen (Acons (Ev 11) Anil)) (Ec (.int 0))))
  (Sret (Etup (Acons (Ev 5) (Acons (Etup (Acons (EC (arN 2 m__law_pick) (Acons (Ev 0) (Acons (Ev 11) Anil))) Anil)) (Acons (Etup (Acons (E2 addD (Ec (.int 1)) (EC (arN 2 m__law_draw) (Acons (Ev 0) (Acons (Ec (.int 6)) Anil)))) (Acons (E2 addD (Ec (.int 1)) (EC (arN 2 m__law_draw) (Acons (Ev 0) (Acons (Ec (.int 6)) Anil)))) Anil))) Anil)))))
  Snil)
  (Sset 5 (Ec (.str "total")))))
  Snil)
  (Sseq (Sset 12 (E2 subD (E2 subD (Ev 6) (Ec (.int 1))) (EC (arN 2 m__law_draw) (Acons (Ev 0) (Acons (EC fMin2 (Acons (Ev 6) (Acons (Ec (.int 4)) Anil))) Anil)))))
  (Sseq (Sif (Tb (E2 (eqD false) (Ev 5) (Ec (.str "stretch"))))
  (Sret (Etup (Acons (Ev 5) (Acons (Etup (Acons (Ev 12) Anil)) (Acons (Etup (Acons (EC (arN 2 m__law_pick) (Acons (Ev 0) (Acons (Elst (Acons (E1 negD (Ec (.int 1000))) (Acons (E1 negD (Ec (.int 1))) (Acons (Ec (.int 0)) (Acons (Ec (.int 2)) (Acons (Ec (.int 1000)) (Acons (E2 subD (EC (arN 2 m__law_draw) (Acons (Ev 0) (Acons (Ec (.int 2001)) Anil))) (Ec (.int 1000))) Anil))))))) Anil))) Anil)) Anil)))))
  Snil)
  (Sret (Etup (Acons (Ev 5) (Acons (Etup (Acons (Ev 12) Anil)) (Acons (Etup Anil) Anil)))))))))
@[reducible] noncomputable def t__law_step_4 : FS := (Sseq (Sif (Tb (E2 (eqD false) (Ev 5) (Ec (.str "spread"))))
  (Sseq (Sset 11 (Ecmp (Irng1 (Acons (Ev 6) Anil)) (.nm 8) (Tb (E2 (eqD false) (E2 ixD (Ev 1) (Ev 8)) (Etup (Acons (Ec (.int 1)) (Acons (Ec (.int 1)) Anil))))) (Ev 8) [8]))
  (Sseq (Sif (Tb (E2 gtD (EC fLen (Acons (Ev 11) Anil)) (Ec (.int 0))))
  (Sret (Etup (Acons (Ev 5) (Acons (Etup (Acons (EC (arN 2 m__law_pick) (Acons (Ev 0) (Acons (Ev 11) Anil))) Anil)) (Acons (Etup (Acons (E2 addD (Ec (.int 1)) (EC (arN 2 m__law_draw) (Acons (Ev 0) (Acons (Ec (.int 6)) Anil)))) (Acons (E2 addD (Ec (.int 1)) (EC (arN 2 m__law_draw) (Acons (Ev 0) (Acons (Ec (.int 6)) Anil)))) Anil))) Anil)))))
  Snil)
  (Sset 5 (Ec (.str "total")))))
  Snil)
  (Sseq (Sset 12 (E2 subD (E2 subD (Ev 6) (Ec (.int 1))) (EC (arN 2 m__law_draw) (Acons (Ev 0) (Acons (EC fMin2 (Acons (Ev 6) (Acons (Ec (.int 4)) Anil))) Anil)))))
  (Sseq (Sif (Tb (E2 (eqD false) (Ev 5) (Ec (.str "stretch"))))
  (Sret (Etup (Acons (Ev 5) (Acons (Etup (Acons (Ev 12) Anil)) (Acons (Etup (Acons (EC (arN 2 m__law_pick) (Acons (Ev 0) (Acons (Elst (Acons (E1 negD (Ec (.int 1000))) (Acons (E1 negD (Ec (.int 1))) (Acons (Ec (.int 0)) (Acons (Ec (.int 2)) (Acons (Ec (.int 1000)) (Acons (E2 subD (EC (arN 2 m__law_draw) (Acons (Ev 0) (Acons (Ec (.int 2001)) Anil))) (Ec (.int 1000))) Anil))))))) Anil))) Anil)) Anil)))))
  Snil)
  (Sret (Etup (Acons (Ev 5) (Acons (Etup (Acons (Ev 12) Anil)) (Acons (Etup Anil) Anil))))))))
@[reducible] noncomputable def t__law_step_5 : FS := (Sseq (Sset 12 (E2 subD (E2 subD (Ev 6) (Ec (.int 1))) (EC (arN 2 m__law_draw) (Acons (Ev 0) (Acons (EC fMin2 (Acons (Ev 6) (Acons (Ec (.int 4)) Anil))) Anil)))))
  (Sseq (Sif (Tb (E2 (eqD false) (Ev 5) (Ec (.str "stretch"))))
  (Sret (Etup (Acons (Ev 5) (Acons (Etup (Acons (Ev 12) Anil)) (Acons (Etup (Acons (EC (arN 2 m__law_pick) (Acons (Ev 0) (Acons (Elst (Acons (E1 negD (Ec (.int 1000))) (Acons (E1 negD (Ec (.int 1))) (Acons (Ec (.int 0)) (Acons (Ec (.int 2)) (Acons (Ec (.int 1000)) (Acons (E2 subD (EC (arN 2 m__law_draw) (Acons (Ev 0) (Acons (Ec (.int 2001)) Anil))) (Ec (.int 1000))) Anil))))))) Anil))) Anil)) Anil)))))
  Snil)
  (Sret (Etup (Acons (Ev 5) (Acons (Etup (Acons (Ev 12) Anil)) (Acons (Etup Anil) Anil)))))))
@[reducible] noncomputable def t__law_step_6 : FS := (Sseq (Sif (Tb (E2 (eqD false) (Ev 5) (Ec (.str "stretch"))))
  (Sret (Etup (Acons (Ev 5) (Acons (Etup (Acons (Ev 12) Anil)) (Acons (Etup (Acons (EC (arN 2 m__law_pick) (Acons (Ev 0) (Acons (Elst (Acons (E1 negD (Ec (.int 1000))) (Acons (E1 negD (Ec (.int 1))) (Acons (Ec (.int 0)) (Acons (Ec (.int 2)) (Acons (Ec (.int 1000)) (Acons (E2 subD (EC (arN 2 m__law_draw) (Acons (Ev 0) (Acons (Ec (.int 2001)) Anil))) (Ec (.int 1000))) Anil))))))) Anil))) Anil)) Anil)))))
  Snil)
  (Sret (Etup (Acons (Ev 5) (Acons (Etup (Acons (Ev 12) Anil)) (Acons (Etup Anil) Anil))))))
@[reducible] noncomputable def t__law_step_7 : FS := (Sret (Etup (Acons (Ev 5) (Acons (Etup (Acons (Ev 12) Anil)) (Acons (Etup Anil) Anil)))))
@[reducible] noncomputable def i3__law_step : FS := (Sseq (Sset 7 (Enew Anil))
  (Sseq (Sfor (Irng1 (Acons (Ev 6) Anil)) (.nm 8)
  (Sseq (Sset 9 (Eif (Tb (E2 (eqD false) (Ev 5) (Ec (.str "pick")))) (Ev 2) (Ec (.int 0))))
  (Sseq (Sset 10 (Eif (Tb (E2 (eqD false) (Ev 5) (Ec (.str "pick")))) (Ev 3) (Ev 6)))
  (Sexp (EM "list" mExA (Ev 7) (Acons (Ecmp (Irng2 (Acons (Ev 9) (Acons (Ev 10) Anil))) (.nm 13) (Tt (EC (arN 4 m__law_fits) (Acons (Ev 5) (Acons (Ev 1) (Acons (Ev 8) (Acons (Ev 13) Anil)))))) (Etup (Acons (Ev 8) (Acons (Ev 13) Anil))) [13]) Anil))))))
  (Sseq (Sif (Tb (E2 gtD (EC fLen (Acons (Ev 7) Anil)) (Ec (.int 0))))
  (Sret (Etup (Acons (Ev 5) (Acons (EC (arN 2 m__law_pick) (Acons (Ev 0) (Acons (Esl (Ev 7) (Osome (E2 fdivD (EC fLen (Acons (Ev 7) Anil)) (Ec (.int 3)))) Onone) Anil))) (Acons (Etup Anil) Anil)))))
  Snil)
  (Sset 5 (Ec (.str "positive"))))))
@[reducible] noncomputable def i4__law_step : FS := (Sseq (Sset 11 (Ecmp (Irng1 (Acons (Ev 6) Anil)) (.nm 8) (Tb (E2 (eqD false) (E2 ixD (Ev 1) (Ev 8)) (Etup (Acons (Ec (.int 1)) (Acons (Ec (.int 1)) Anil))))) (Ev 8) [8]))
  (Sseq (Sif (Tb (E2 gtD (EC fLen (Acons (Ev 11) Anil)) (Ec (.int 0))))
  (Sret (Etup (Acons (Ev 5) (Acons (Etup (Acons (EC (arN 2 m__law_pick) (Acons (Ev 0) (Acons (Ev 11) Anil))) Anil)) (Acons (Etup (Acons (E2 addD (Ec (.int 1)) (EC (arN 2 m__law_draw) (Acons (Ev 0) (Acons (Ec (.int 6)) Anil)))) (Acons (E2 addD (Ec (.int 1)) (EC (arN 2 m__law_draw) (Acons (Ev 0) (Acons (Ec (.int 6)) Anil)))) Anil))) Anil)))))
  Snil)
  (Sset 5 (Ec (.str "total")))))
@[reducible] noncomputable def i6__law_step : FS := (Sret (Etup (Acons (Ev 5) (Acons (Etup (Acons (Ev 12) Anil)) (Acons (Etup (Acons (EC (arN 2 m__law_pick) (Acons (Ev 0) (Acons (Elst (Acons (E1 negD (Ec (.int 1000))) (Acons (E1 negD (Ec (.int 1))) (Acons (Ec (.int 0)) (Acons (Ec (.int 2)) (Acons (Ec (.int 1000)) (Acons (E2 subD (EC (arN 2 m__law_draw) (Acons (Ev 0) (Acons (Ec (.int 2001)) Anil))) (Ec (.int 1000))) Anil))))))) Anil))) Anil)) Anil)))))
@[reducible] noncomputable def u0__law_step_0 : FS := (Sseq (Sset 9 (Eif (Tb (E2 (eqD false) (Ev 5) (Ec (.str "pick")))) (Ev 2) (Ec (.int 0))))
  (Sseq (Sset 10 (Eif (Tb (E2 (eqD false) (Ev 5) (Ec (.str "pick")))) (Ev 3) (Ev 6)))
  (Sexp (EM "list" mExA (Ev 7) (Acons (Ecmp (Irng2 (Acons (Ev 9) (Acons (Ev 10) Anil))) (.nm 13) (Tt (EC (arN 4 m__law_fits) (Acons (Ev 5) (Acons (Ev 1) (Acons (Ev 8) (Acons (Ev 13) Anil)))))) (Etup (Acons (Ev 8) (Acons (Ev 13) Anil))) [13]) Anil)))))
@[reducible] noncomputable def u0__law_step_1 : FS := (Sseq (Sset 10 (Eif (Tb (E2 (eqD false) (Ev 5) (Ec (.str "pick")))) (Ev 3) (Ev 6)))
  (Sexp (EM "list" mExA (Ev 7) (Acons (Ecmp (Irng2 (Acons (Ev 9) (Acons (Ev 10) Anil))) (.nm 13) (Tt (EC (arN 4 m__law_fits) (Acons (Ev 5) (Acons (Ev 1) (Acons (Ev 8) (Acons (Ev 13) Anil)))))) (Etup (Acons (Ev 8) (Acons (Ev 13) Anil))) [13]) Anil))))
@[reducible] noncomputable def u0__law_step_2 : FS := (Sexp (EM "list" mExA (Ev 7) (Acons (Ecmp (Irng2 (Acons (Ev 9) (Acons (Ev 10) Anil))) (.nm 13) (Tt (EC (arN 4 m__law_fits) (Acons (Ev 5) (Acons (Ev 1) (Acons (Ev 8) (Acons (Ev 13) Anil)))))) (Etup (Acons (Ev 8) (Acons (Ev 13) Anil))) [13]) Anil)))
noncomputable def m__law_step : FC := (runF 14 b__law_step)
/-! ### _law_program -/
abbrev s__law_program : Stmt := topS 16
abbrev N__law_program : List PySem.Str := ["_law_pool_here", "_law_most", "_law_sizes", "_law_own", "_law_leaves", "_law_values", "_law_k", "_law_columns", "_law_found", "_law_steps", "_law_kind", "_law_operands", "_law_numbers", "_law_cells", "_law_loss", "_law_value"]
theorem sc__law_program : FnScope N__law_program ["_law_pool_here", "_law_most"] (defScope s__law_program) := ⟨rfl, rfl, rfl, by decide +kernel, rfl, by decide +kernel, by decide +kernel⟩
@[reducible] noncomputable def b__law_program : FS :=
  (Sseq (Sset 2 (Elst (Acons (Ec (.int 1)) (Acons (E2 addD (Ec (.int 1)) (EC (arN 2 m__law_draw) (Acons (Ev 0) (Acons (Ec (.int 6)) Anil)))) (Acons (E2 addD (Ec (.int 1)) (EC (arN 2 m__law_draw) (Acons (Ev 0) (Acons (Ec (.int 6)) Anil)))) Anil)))))
  (Sseq (Sset 3 (E2 addD (Ec (.int 1)) (EC (arN 2 m__law_draw) (Acons (Ev 0) (Acons (Ec (.int 3)) Anil)))))
  (Sseq (Sif (Tb (E2 (eqD false) (EC (arN 2 m__law_draw) (Acons (Ev 0) (Acons (Ec (.int 8)) Anil))) (Ec (.int 0))))
  (Sset 3 (E2 addD (Ec (.int 1)) (EC (arN 2 m__law_draw) (Acons (Ev 0) (Acons (Ec (.int 6)) Anil)))))
  Snil)
  (Sseq (Sset 4 (E2 addD (Ev 3) (EC (arN 2 m__law_draw) (Acons (Ev 0) (Acons (Ec (.int 5)) Anil)))))
  (Sseq (Sset 5 (Enew Anil))
  (Sseq (Sfor (Irng1 (Acons (Ev 4) Anil)) (.nm 6)
  (Sseq (Sset 7 (EC (arN 2 m__law_pick) (Acons (Ev 0) (Acons (Ev 2) Anil))))
  (Sseq (Sif (Tand (Tb (E2 geD (Ev 6) (Ev 3))) (Tb (E2 (eqD false) (EC (arN 2 m__law_draw) (Acons (Ev 0) (Acons (Ec (.int 2)) Anil))) (Ec (.int 0)))))
  (Sset 7 (Ec (.int 1)))
  Snil)
  (Sexp (EM "list" mApp (Ev 5) (Acons (Etup (Acons (EC (arN 2 m__law_name) (Acons (Ev 0) (Acons (Ev 6) Anil))) (Acons (EC (arN 2 m__law_pick) (Acons (Ev 0) (Acons (Ev 2) Anil))) (Acons (Ev 7) Anil)))) Anil))))))
  (Sseq (Sset 8 (EcmpN (Iseq (Ev 5)) (.nm 15) Tyes (Esl (Ev 15) (Osome (Ec (.int 1))) Onone) [15]))
  (Sseq (Sset 9 (Enew Anil))
  (Sseq (Sfor (Irng1 (Acons (EC (arN 2 m__law_draw) (Acons (Ev 0) (Acons (E2 addD (EC fMin2 (Acons (Ev 1) (Acons (E2 subD (Ec (.int 22)) (Ev 4)) Anil))) (Ec (.int 1))) Anil))) Anil)) (.nm 6)
  (Sseq (Sbind (.tp [(.nm 10), (.nm 11), (.nm 12)]) (EC (arN 4 m__law_step) (Acons (Ev 0) (Acons (Ev 8) (Acons (Ev 3) (Acons (Ev 4) Anil))))))
  (Sseq (Sexp (EM "list" mApp (Ev 9) (Acons (Etup (Acons (EC (arN 2 m__law_name) (Acons (Ev 0) (Acons (E2 addD (Ev 4) (Ev 6)) Anil))) (Acons (Ev 10) (Acons (Ev 11) (Acons (Ev 12) Anil))))) Anil)))
  (Sexp (EM "list" mApp (Ev 8) (Acons (EC (arN 4 m__law_step_shape) (Acons (Ev 10) (Acons (Ev 8) (Acons (Ev 11) (Acons (Ev 12) Anil))))) Anil))))))
  (Sseq (Sset 13 (Ecmp (Irng1 (Acons (EC fLen (Acons (Ev 8) Anil)) Anil)) (.nm 6) (Tb (E2 (eqD false) (E2 ixD (Ev 8) (Ev 6)) (Etup (Acons (Ec (.int 1)) (Acons (Ec (.int 1)) Anil))))) (Ev 6) [6]))
  (Sseq (Sif (Tor (Tb (E2 (eqD false) (EC fLen (Acons (Ev 13) Anil)) (Ec (.int 0)))) (Tb (E2 gtD (EC (arN 2 m__law_draw) (Acons (Ev 0) (Acons (Ec (.int 3)) Anil))) (Ec (.int 0)))))
  (Sseq (Sexp (EM "list" mApp (Ev 9) (Acons (Etup (Acons (EC (arN 2 m__law_name) (Acons (Ev 0) (Acons (EC fLen (Acons (Ev 8) Anil)) Anil))) (Acons (Ec (.str "total")) (Acons (Etup (Acons (E2 subD (EC fLen (Acons (Ev 8) Anil)) (Ec (.int 1))) Anil)) (Acons (Etup Anil) Anil))))) Anil)))
  (Sseq (Sexp (EM "list" mApp (Ev 8) (Acons (Etup (Acons (Ec (.int 1)) (Acons (Ec (.int 1)) Anil))) Anil)))
  (Sset 13 (Elst (Acons (E2 subD (EC fLen (Acons (Ev 8) Anil)) (Ec (.int 1))) Anil)))))
  Snil)
  (Sseq (Sset 14 (E2 ixD (Ev 13) (E2 subD (EC fLen (Acons (Ev 13) Anil)) (Ec (.int 1)))))
  (Sseq (Sif (Tb (E2 (eqD false) (EC (arN 2 m__law_draw) (Acons (Ev 0) (Acons (Ec (.int 6)) Anil))) (Ec (.int 0))))
  (Sset 14 (EC (arN 2 m__law_pick) (Acons (Ev 0) (Acons (Ev 13) Anil))))
  Snil)
  (Sret (Etup (Acons (EC fTup (Acons (Esl (Ev 5) Onone (Osome (Ev 3))) Anil)) (Acons (EC fTup (Acons (Esl (Ev 5) (Osome (Ev 3)) Onone) Anil)) (Acons (EC fTup (Acons (Ev 9) Anil)) (Acons (Ev 14) Anil)))))))))))))))))))
@[reducible] noncomputable def t__law_program_1 : FS := (Sseq (Sset 3 (E2 addD (Ec (.int 1)) (EC (arN 2 m__law_draw) (Acons (Ev 0) (Acons (Ec (.int 3)) Anil)))))
  (Sseq (Sif (Tb (E2 (eqD false) (EC (arN 2 m__law_draw) (Acons (Ev 0) (Acons (Ec (.int 8)) Anil))) (Ec (.int 0))))
  (Sset 3 (E2 addD (Ec (.int 1)) (EC (arN 2 m__law_draw) (Acons (Ev 0) (Acons (Ec (.int 6)) Anil)))))
  Snil)
  (Sseq (Sset 4 (E2 addD (Ev 3) (EC (arN 2 m__law_draw) (Acons (Ev 0) (Acons (Ec (.int 5)) Anil)))))
  (Sseq (Sset 5 (Enew Anil))
  (Sseq (Sfor (Irng1 (Acons (Ev 4) Anil)) (.nm 6)
  (Sseq (Sset 7 (EC (arN 2 m__law_pick) (Acons (Ev 0) (Acons (Ev 2) Anil))))
  (Sseq (Sif (Tand (Tb (E2 geD (Ev 6) (Ev 3))) (Tb (E2 (eqD false) (EC (arN 2 m__law_draw) (Acons (Ev 0) (Acons (Ec (.int 2)) Anil))) (Ec (.int 0)))))
  (Sset 7 (Ec (.int 1)))
  Snil)
  (Sexp (EM "list" mApp (Ev 5) (Acons (Etup (Acons (EC (arN 2 m__law_name) (Acons (Ev 0) (Acons (Ev 6) Anil))) (Acons (EC (arN 2 m__law_pick) (Acons (Ev 0) (Acons (Ev 2) Anil))) (Acons (Ev 7) Anil)))) Anil))))))
  (Sseq (Sset 8 (EcmpN (Iseq (Ev 5)) (.nm 15) Tyes (Esl (Ev 15) (Osome (Ec (.int 1))) Onone) [15]))
  (Sseq (Sset 9 (Enew Anil))
  (Sseq (Sfor (Irng1 (Acons (EC (arN 2 m__law_draw) (Acons (Ev 0) (Acons (E2 addD (EC fMin2 (Acons (Ev 1) (Acons (E2 subD (Ec (.int 22)) (Ev 4)) Anil))) (Ec (.int 1))) Anil))) Anil)) (.nm 6)
  (Sseq (Sbind (.tp [(.nm 10), (.nm 11), (.nm 12)]) (EC (arN 4 m__law_step) (Acons (Ev 0) (Acons (Ev 8) (Acons (Ev 3) (Acons (Ev 4) Anil))))))
  (Sseq (Sexp (EM "list" mApp (Ev 9) (Acons (Etup (Acons (EC (arN 2 m__law_name) (Acons (Ev 0) (Acons (E2 addD (Ev 4) (Ev 6)) Anil))) (Acons (Ev 10) (Acons (Ev 11) (Acons (Ev 12) Anil))))) Anil)))
  (Sexp (EM "list" mApp (Ev 8) (Acons (EC (arN 4 m__law_step_shape) (Acons (Ev 10) (Acons (Ev 8) (Acons (Ev 11) (Acons (Ev 12) Anil))))) Anil))))))
  (Sseq (Sset 13 (Ecmp (Irng1 (Acons (EC fLen (Acons (Ev 8) Anil)) Anil)) (.nm 6) (Tb (E2 (eqD false) (E2 ixD (Ev 8) (Ev 6)) (Etup (Acons (Ec (.int 1)) (Acons (Ec (.int 1)) Anil))))) (Ev 6) [6]))
  (Sseq (Sif (Tor (Tb (E2 (eqD false) (EC fLen (Acons (Ev 13) Anil)) (Ec (.int 0)))) (Tb (E2 gtD (EC (arN 2 m__law_draw) (Acons (Ev 0) (Acons (Ec (.int 3)) Anil))) (Ec (.int 0)))))
  (Sseq (Sexp (EM "list" mApp (Ev 9) (Acons (Etup (Acons (EC (arN 2 m__law_name) (Acons (Ev 0) (Acons (EC fLen (Acons (Ev 8) Anil)) Anil))) (Acons (Ec (.str "total")) (Acons (Etup (Acons (E2 subD (EC fLen (Acons (Ev 8) Anil)) (Ec (.int 1))) Anil)) (Acons (Etup Anil) Anil))))) Anil)))
  (Sseq (Sexp (EM "list" mApp (Ev 8) (Acons (Etup (Acons (Ec (.int 1)) (Acons (Ec (.int 1)) Anil))) Anil)))
  (Sset 13 (Elst (Acons (E2 subD (EC fLen (Acons (Ev 8) Anil)) (Ec (.int 1))) Anil)))))
  Snil)
  (Sseq (Sset 14 (E2 ixD (Ev 13) (E2 subD (EC fLen (Acons (Ev 13) Anil)) (Ec (.int 1)))))
  (Sseq (Sif (Tb (E2 (eqD false) (EC (arN 2 m__law_draw) (Acons (Ev 0) (Acons (Ec (.int 6)) Anil))) (Ec (.int 0))))
  (Sset 14 (EC (arN 2 m__law_pick) (Acons (Ev 0) (Acons (Ev 13) Anil))))
  Snil)
  (Sret (Etup (Acons (EC fTup (Acons (Esl (Ev 5) Onone (Osome (Ev 3))) Anil)) (Acons (EC fTup (Acons (Esl (Ev 5) (Osome (Ev 3)) Onone) Anil)) (Acons (EC fTup (Acons (Ev 9) Anil)) (Acons (Ev 14) Anil))))))))))))))))))
@[reducible] noncomputable def t__law_program_2 : FS := (Sseq (Sif (Tb (E2 (eqD false) (EC (arN 2 m__law_draw) (Acons (Ev 0) (Acons (Ec (.int 8)) Anil))) (Ec (.int 0))))
  (Sset 3 (E2 addD (Ec (.int 1)) (EC (arN 2 m__law_draw) (Acons (Ev 0) (Acons (Ec (.int 6)) Anil)))))
  Snil)
  (Sseq (Sset 4 (E2 addD (Ev 3) (EC (arN 2 m__law_draw) (Acons (Ev 0) (Acons (Ec (.int 5)) Anil)))))
  (Sseq (Sset 5 (Enew Anil))
  (Sseq (Sfor (Irng1 (Acons (Ev 4) Anil)) (.nm 6)
  (Sseq (Sset 7 (EC (arN 2 m__law_pick) (Acons (Ev 0) (Acons (Ev 2) Anil))))
  (Sseq (Sif (Tand (Tb (E2 geD (Ev 6) (Ev 3))) (Tb (E2 (eqD false) (EC (arN 2 m__law_draw) (Acons (Ev 0) (Acons (Ec (.int 2)) Anil))) (Ec (.int 0)))))
  (Sset 7 (Ec (.int 1)))
  Snil)
  (Sexp (EM "list" mApp (Ev 5) (Acons (Etup (Acons (EC (arN 2 m__law_name) (Acons (Ev 0) (Acons (Ev 6) Anil))) (Acons (EC (arN 2 m__law_pick) (Acons (Ev 0) (Acons (Ev 2) Anil))) (Acons (Ev 7) Anil)))) Anil))))))
  (Sseq (Sset 8 (EcmpN (Iseq (Ev 5)) (.nm 15) Tyes (Esl (Ev 15) (Osome (Ec (.int 1))) Onone) [15]))
  (Sseq (Sset 9 (Enew Anil))
  (Sseq (Sfor (Irng1 (Acons (EC (arN 2 m__law_draw) (Acons (Ev 0) (Acons (E2 addD (EC fMin2 (Acons (Ev 1) (Acons (E2 subD (Ec (.int 22)) (Ev 4)) Anil))) (Ec (.int 1))) Anil))) Anil)) (.nm 6)
  (Sseq (Sbind (.tp [(.nm 10), (.nm 11), (.nm 12)]) (EC (arN 4 m__law_step) (Acons (Ev 0) (Acons (Ev 8) (Acons (Ev 3) (Acons (Ev 4) Anil))))))
  (Sseq (Sexp (EM "list" mApp (Ev 9) (Acons (Etup (Acons (EC (arN 2 m__law_name) (Acons (Ev 0) (Acons (E2 addD (Ev 4) (Ev 6)) Anil))) (Acons (Ev 10) (Acons (Ev 11) (Acons (Ev 12) Anil))))) Anil)))
  (Sexp (EM "list" mApp (Ev 8) (Acons (EC (arN 4 m__law_step_shape) (Acons (Ev 10) (Acons (Ev 8) (Acons (Ev 11) (Acons (Ev 12) Anil))))) Anil))))))
  (Sseq (Sset 13 (Ecmp (Irng1 (Acons (EC fLen (Acons (Ev 8) Anil)) Anil)) (.nm 6) (Tb (E2 (eqD false) (E2 ixD (Ev 8) (Ev 6)) (Etup (Acons (Ec (.int 1)) (Acons (Ec (.int 1)) Anil))))) (Ev 6) [6]))
  (Sseq (Sif (Tor (Tb (E2 (eqD false) (EC fLen (Acons (Ev 13) Anil)) (Ec (.int 0)))) (Tb (E2 gtD (EC (arN 2 m__law_draw) (Acons (Ev 0) (Acons (Ec (.int 3)) Anil))) (Ec (.int 0)))))
  (Sseq (Sexp (EM "list" mApp (Ev 9) (Acons (Etup (Acons (EC (arN 2 m__law_name) (Acons (Ev 0) (Acons (EC fLen (Acons (Ev 8) Anil)) Anil))) (Acons (Ec (.str "total")) (Acons (Etup (Acons (E2 subD (EC fLen (Acons (Ev 8) Anil)) (Ec (.int 1))) Anil)) (Acons (Etup Anil) Anil))))) Anil)))
  (Sseq (Sexp (EM "list" mApp (Ev 8) (Acons (Etup (Acons (Ec (.int 1)) (Acons (Ec (.int 1)) Anil))) Anil)))
  (Sset 13 (Elst (Acons (E2 subD (EC fLen (Acons (Ev 8) Anil)) (Ec (.int 1))) Anil)))))
  Snil)
  (Sseq (Sset 14 (E2 ixD (Ev 13) (E2 subD (EC fLen (Acons (Ev 13) Anil)) (Ec (.int 1)))))
  (Sseq (Sif (Tb (E2 (eqD false) (EC (arN 2 m__law_draw) (Acons (Ev 0) (Acons (Ec (.int 6)) Anil))) (Ec (.int 0))))
  (Sset 14 (EC (arN 2 m__law_pick) (Acons (Ev 0) (Acons (Ev 13) Anil))))
  Snil)
  (Sret (Etup (Acons (EC fTup (Acons (Esl (Ev 5) Onone (Osome (Ev 3))) Anil)) (Acons (EC fTup (Acons (Esl (Ev 5) (Osome (Ev 3)) Onone) Anil)) (Acons (EC fTup (Acons (Ev 9) Anil)) (Acons (Ev 14) Anil)))))))))))))))))
@[reducible] noncomputable def t__law_program_3 : FS := (Sseq (Sset 4 (E2 addD (Ev 3) (EC (arN 2 m__law_draw) (Acons (Ev 0) (Acons (Ec (.int 5)) Anil)))))
  (Sseq (Sset 5 (Enew Anil))
  (Sseq (Sfor (Irng1 (Acons (Ev 4) Anil)) (.nm 6)
  (Sseq (Sset 7 (EC (arN 2 m__law_pick) (Acons (Ev 0) (Acons (Ev 2) Anil))))
  (Sseq (Sif (Tand (Tb (E2 geD (Ev 6) (Ev 3))) (Tb (E2 (eqD false) (EC (arN 2 m__law_draw) (Acons (Ev 0) (Acons (Ec (.int 2)) Anil))) (Ec (.int 0)))))
  (Sset 7 (Ec (.int 1)))
  Snil)
  (Sexp (EM "list" mApp (Ev 5) (Acons (Etup (Acons (EC (arN 2 m__law_name) (Acons (Ev 0) (Acons (Ev 6) Anil))) (Acons (EC (arN 2 m__law_pick) (Acons (Ev 0) (Acons (Ev 2) Anil))) (Acons (Ev 7) Anil)))) Anil))))))
  (Sseq (Sset 8 (EcmpN (Iseq (Ev 5)) (.nm 15) Tyes (Esl (Ev 15) (Osome (Ec (.int 1))) Onone) [15]))
  (Sseq (Sset 9 (Enew Anil))
  (Sseq (Sfor (Irng1 (Acons (EC (arN 2 m__law_draw) (Acons (Ev 0) (Acons (E2 addD (EC fMin2 (Acons (Ev 1) (Acons (E2 subD (Ec (.int 22)) (Ev 4)) Anil))) (Ec (.int 1))) Anil))) Anil)) (.nm 6)
  (Sseq (Sbind (.tp [(.nm 10), (.nm 11), (.nm 12)]) (EC (arN 4 m__law_step) (Acons (Ev 0) (Acons (Ev 8) (Acons (Ev 3) (Acons (Ev 4) Anil))))))
  (Sseq (Sexp (EM "list" mApp (Ev 9) (Acons (Etup (Acons (EC (arN 2 m__law_name) (Acons (Ev 0) (Acons (E2 addD (Ev 4) (Ev 6)) Anil))) (Acons (Ev 10) (Acons (Ev 11) (Acons (Ev 12) Anil))))) Anil)))
  (Sexp (EM "list" mApp (Ev 8) (Acons (EC (arN 4 m__law_step_shape) (Acons (Ev 10) (Acons (Ev 8) (Acons (Ev 11) (Acons (Ev 12) Anil))))) Anil))))))
  (Sseq (Sset 13 (Ecmp (Irng1 (Acons (EC fLen (Acons (Ev 8) Anil)) Anil)) (.nm 6) (Tb (E2 (eqD false) (E2 ixD (Ev 8) (Ev 6)) (Etup (Acons (Ec (.int 1)) (Acons (Ec (.int 1)) Anil))))) (Ev 6) [6]))
  (Sseq (Sif (Tor (Tb (E2 (eqD false) (EC fLen (Acons (Ev 13) Anil)) (Ec (.int 0)))) (Tb (E2 gtD (EC (arN 2 m__law_draw) (Acons (Ev 0) (Acons (Ec (.int 3)) Anil))) (Ec (.int 0)))))
  (Sseq (Sexp (EM "list" mApp (Ev 9) (Acons (Etup (Acons (EC (arN 2 m__law_name) (Acons (Ev 0) (Acons (EC fLen (Acons (Ev 8) Anil)) Anil))) (Acons (Ec (.str "total")) (Acons (Etup (Acons (E2 subD (EC fLen (Acons (Ev 8) Anil)) (Ec (.int 1))) Anil)) (Acons (Etup Anil) Anil))))) Anil)))
  (Sseq (Sexp (EM "list" mApp (Ev 8) (Acons (Etup (Acons (Ec (.int 1)) (Acons (Ec (.int 1)) Anil))) Anil)))
  (Sset 13 (Elst (Acons (E2 subD (EC fLen (Acons (Ev 8) Anil)) (Ec (.int 1))) Anil)))))
  Snil)
  (Sseq (Sset 14 (E2 ixD (Ev 13) (E2 subD (EC fLen (Acons (Ev 13) Anil)) (Ec (.int 1)))))
  (Sseq (Sif (Tb (E2 (eqD false) (EC (arN 2 m__law_draw) (Acons (Ev 0) (Acons (Ec (.int 6)) Anil))) (Ec (.int 0))))
  (Sset 14 (EC (arN 2 m__law_pick) (Acons (Ev 0) (Acons (Ev 13) Anil))))
  Snil)
  (Sret (Etup (Acons (EC fTup (Acons (Esl (Ev 5) Onone (Osome (Ev 3))) Anil)) (Acons (EC fTup (Acons (Esl (Ev 5) (Osome (Ev 3)) Onone) Anil)) (Acons (EC fTup (Acons (Ev 9) Anil)) (Acons (Ev 14) Anil))))))))))))))))
@[reducible] noncomputable def t__law_program_4 : FS := (Sseq (Sset 5 (Enew Anil))
  (Sseq (Sfor (Irng1 (Acons (Ev 4) Anil)) (.nm 6)
  (Sseq (Sset 7 (EC (arN 2 m__law_pick) (Acons (Ev 0) (Acons (Ev 2) Anil))))
  (Sseq (Sif (Tand (Tb (E2 geD (Ev 6) (Ev 3))) (Tb (E2 (eqD false) (EC (arN 2 m__law_draw) (Acons (Ev 0) (Acons (Ec (.int 2)) Anil))) (Ec (.int 0)))))
  (Sset 7 (Ec (.int 1)))
  Snil)
  (Sexp (EM "list" mApp (Ev 5) (Acons (Etup (Acons (EC (arN 2 m__law_name) (Acons (Ev 0) (Acons (Ev 6) Anil))) (Acons (EC (arN 2 m__law_pick) (Acons (Ev 0) (Acons (Ev 2) Anil))) (Acons (Ev 7) Anil)))) Anil))))))
  (Sseq (Sset 8 (EcmpN (Iseq (Ev 5)) (.nm 15) Tyes (Esl (Ev 15) (Osome (Ec (.int 1))) Onone) [15]))
  (Sseq (Sset 9 (Enew Anil))
  (Sseq (Sfor (Irng1 (Acons (EC (arN 2 m__law_draw) (Acons (Ev 0) (Acons (E2 addD (EC fMin2 (Acons (Ev 1) (Acons (E2 subD (Ec (.int 22)) (Ev 4)) Anil))) (Ec (.int 1))) Anil))) Anil)) (.nm 6)
  (Sseq (Sbind (.tp [(.nm 10), (.nm 11), (.nm 12)]) (EC (arN 4 m__law_step) (Acons (Ev 0) (Acons (Ev 8) (Acons (Ev 3) (Acons (Ev 4) Anil))))))
  (Sseq (Sexp (EM "list" mApp (Ev 9) (Acons (Etup (Acons (EC (arN 2 m__law_name) (Acons (Ev 0) (Acons (E2 addD (Ev 4) (Ev 6)) Anil))) (Acons (Ev 10) (Acons (Ev 11) (Acons (Ev 12) Anil))))) Anil)))
  (Sexp (EM "list" mApp (Ev 8) (Acons (EC (arN 4 m__law_step_shape) (Acons (Ev 10) (Acons (Ev 8) (Acons (Ev 11) (Acons (Ev 12) Anil))))) Anil))))))
  (Sseq (Sset 13 (Ecmp (Irng1 (Acons (EC fLen (Acons (Ev 8) Anil)) Anil)) (.nm 6) (Tb (E2 (eqD false) (E2 ixD (Ev 8) (Ev 6)) (Etup (Acons (Ec (.int 1)) (Acons (Ec (.int 1)) Anil))))) (Ev 6) [6]))
  (Sseq (Sif (Tor (Tb (E2 (eqD false) (EC fLen (Acons (Ev 13) Anil)) (Ec (.int 0)))) (Tb (E2 gtD (EC (arN 2 m__law_draw) (Acons (Ev 0) (Acons (Ec (.int 3)) Anil))) (Ec (.int 0)))))
  (Sseq (Sexp (EM "list" mApp (Ev 9) (Acons (Etup (Acons (EC (arN 2 m__law_name) (Acons (Ev 0) (Acons (EC fLen (Acons (Ev 8) Anil)) Anil))) (Acons (Ec (.str "total")) (Acons (Etup (Acons (E2 subD (EC fLen (Acons (Ev 8) Anil)) (Ec (.int 1))) Anil)) (Acons (Etup Anil) Anil))))) Anil)))
  (Sseq (Sexp (EM "list" mApp (Ev 8) (Acons (Etup (Acons (Ec (.int 1)) (Acons (Ec (.int 1)) Anil))) Anil)))
  (Sset 13 (Elst (Acons (E2 subD (EC fLen (Acons (Ev 8) Anil)) (Ec (.int 1))) Anil)))))
  Snil)
  (Sseq (Sset 14 (E2 ixD (Ev 13) (E2 subD (EC fLen (Acons (Ev 13) Anil)) (Ec (.int 1)))))
  (Sseq (Sif (Tb (E2 (eqD false) (EC (arN 2 m__law_draw) (Acons (Ev 0) (Acons (Ec (.int 6)) Anil))) (Ec (.int 0))))
  (Sset 14 (EC (arN 2 m__law_pick) (Acons (Ev 0) (Acons (Ev 13) Anil))))
  Snil)
  (Sret (Etup (Acons (EC fTup (Acons (Esl (Ev 5) Onone (Osome (Ev 3))) Anil)) (Acons (EC fTup (Acons (Esl (Ev 5) (Osome (Ev 3)) Onone) Anil)) (Acons (EC fTup (Acons (Ev 9) Anil)) (Acons (Ev 14) Anil)))))))))))))))
@[reducible] noncomputable def t__law_program_5 : FS := (Sseq (Sfor (Irng1 (Acons (Ev 4) Anil)) (.nm 6)
  (Sseq (Sset 7 (EC (arN 2 m__law_pick) (Acons (Ev 0) (Acons (Ev 2) Anil))))
  (Sseq (Sif (Tand (Tb (E2 geD (Ev 6) (Ev 3))) (Tb (E2 (eqD false) (EC (arN 2 m__law_draw) (Acons (Ev 0) (Acons (Ec (.int 2)) Anil))) (Ec (.int 0)))))
  (Sset 7 (Ec (.int 1)))
  Snil)
  (Sexp (EM "list" mApp (Ev 5) (Acons (Etup (Acons (EC (arN 2 m__law_name) (Acons (Ev 0) (Acons (Ev 6) Anil))) (Acons (EC (arN 2 m__law_pick) (Acons (Ev 0) (Acons (Ev 2) Anil))) (Acons (Ev 7) Anil)))) Anil))))))
  (Sseq (Sset 8 (EcmpN (Iseq (Ev 5)) (.nm 15) Tyes (Esl (Ev 15) (Osome (Ec (.int 1))) Onone) [15]))
  (Sseq (Sset 9 (Enew Anil))
  (Sseq (Sfor (Irng1 (Acons (EC (arN 2 m__law_draw) (Acons (Ev 0) (Acons (E2 addD (EC fMin2 (Acons (Ev 1) (Acons (E2 subD (Ec (.int 22)) (Ev 4)) Anil))) (Ec (.int 1))) Anil))) Anil)) (.nm 6)
  (Sseq (Sbind (.tp [(.nm 10), (.nm 11), (.nm 12)]) (EC (arN 4 m__law_step) (Acons (Ev 0) (Acons (Ev 8) (Acons (Ev 3) (Acons (Ev 4) Anil))))))
  (Sseq (Sexp (EM "list" mApp (Ev 9) (Acons (Etup (Acons (EC (arN 2 m__law_name) (Acons (Ev 0) (Acons (E2 addD (Ev 4) (Ev 6)) Anil))) (Acons (Ev 10) (Acons (Ev 11) (Acons (Ev 12) Anil))))) Anil)))
  (Sexp (EM "list" mApp (Ev 8) (Acons (EC (arN 4 m__law_step_shape) (Acons (Ev 10) (Acons (Ev 8) (Acons (Ev 11) (Acons (Ev 12) Anil))))) Anil))))))
  (Sseq (Sset 13 (Ecmp (Irng1 (Acons (EC fLen (Acons (Ev 8) Anil)) Anil)) (.nm 6) (Tb (E2 (eqD false) (E2 ixD (Ev 8) (Ev 6)) (Etup (Acons (Ec (.int 1)) (Acons (Ec (.int 1)) Anil))))) (Ev 6) [6]))
  (Sseq (Sif (Tor (Tb (E2 (eqD false) (EC fLen (Acons (Ev 13) Anil)) (Ec (.int 0)))) (Tb (E2 gtD (EC (arN 2 m__law_draw) (Acons (Ev 0) (Acons (Ec (.int 3)) Anil))) (Ec (.int 0)))))
  (Sseq (Sexp (EM "list" mApp (Ev 9) (Acons (Etup (Acons (EC (arN 2 m__law_name) (Acons (Ev 0) (Acons (EC fLen (Acons (Ev 8) Anil)) Anil))) (Acons (Ec (.str "total")) (Acons (Etup (Acons (E2 subD (EC fLen (Acons (Ev 8) Anil)) (Ec (.int 1))) Anil)) (Acons (Etup Anil) Anil))))) Anil)))
  (Sseq (Sexp (EM "list" mApp (Ev 8) (Acons (Etup (Acons (Ec (.int 1)) (Acons (Ec (.int 1)) Anil))) Anil)))
  (Sset 13 (Elst (Acons (E2 subD (EC fLen (Acons (Ev 8) Anil)) (Ec (.int 1))) Anil)))))
  Snil)
  (Sseq (Sset 14 (E2 ixD (Ev 13) (E2 subD (EC fLen (Acons (Ev 13) Anil)) (Ec (.int 1)))))
  (Sseq (Sif (Tb (E2 (eqD false) (EC (arN 2 m__law_draw) (Acons (Ev 0) (Acons (Ec (.int 6)) Anil))) (Ec (.int 0))))
  (Sset 14 (EC (arN 2 m__law_pick) (Acons (Ev 0) (Acons (Ev 13) Anil))))
  Snil)
  (Sret (Etup (Acons (EC fTup (Acons (Esl (Ev 5) Onone (Osome (Ev 3))) Anil)) (Acons (EC fTup (Acons (Esl (Ev 5) (Osome (Ev 3)) Onone) Anil)) (Acons (EC fTup (Acons (Ev 9) Anil)) (Acons (Ev 14) Anil))))))))))))))
@[reducible] noncomputable def t__law_program_6 : FS := (Sseq (Sset 8 (EcmpN (Iseq (Ev 5)) (.nm 15) Tyes (Esl (Ev 15) (Osome (Ec (.int 1))) Onone) [15]))
  (Sseq (Sset 9 (Enew Anil))
  (Sseq (Sfor (Irng1 (Acons (EC (arN 2 m__law_draw) (Acons (Ev 0) (Acons (E2 addD (EC fMin2 (Acons (Ev 1) (Acons (E2 subD (Ec (.int 22)) (Ev 4)) Anil))) (Ec (.int 1))) Anil))) Anil)) (.nm 6)
  (Sseq (Sbind (.tp [(.nm 10), (.nm 11), (.nm 12)]) (EC (arN 4 m__law_step) (Acons (Ev 0) (Acons (Ev 8) (Acons (Ev 3) (Acons (Ev 4) Anil))))))
  (Sseq (Sexp (EM "list" mApp (Ev 9) (Acons (Etup (Acons (EC (arN 2 m__law_name) (Acons (Ev 0) (Acons (E2 addD (Ev 4) (Ev 6)) Anil))) (Acons (Ev 10) (Acons (Ev 11) (Acons (Ev 12) Anil))))) Anil)))
  (Sexp (EM "list" mApp (Ev 8) (Acons (EC (arN 4 m__law_step_shape) (Acons (Ev 10) (Acons (Ev 8) (Acons (Ev 11) (Acons (Ev 12) Anil))))) Anil))))))
  (Sseq (Sset 13 (Ecmp (Irng1 (Acons (EC fLen (Acons (Ev 8) Anil)) Anil)) (.nm 6) (Tb (E2 (eqD false) (E2 ixD (Ev 8) (Ev 6)) (Etup (Acons (Ec (.int 1)) (Acons (Ec (.int 1)) Anil))))) (Ev 6) [6]))
  (Sseq (Sif (Tor (Tb (E2 (eqD false) (EC fLen (Acons (Ev 13) Anil)) (Ec (.int 0)))) (Tb (E2 gtD (EC (arN 2 m__law_draw) (Acons (Ev 0) (Acons (Ec (.int 3)) Anil))) (Ec (.int 0)))))
  (Sseq (Sexp (EM "list" mApp (Ev 9) (Acons (Etup (Acons (EC (arN 2 m__law_name) (Acons (Ev 0) (Acons (EC fLen (Acons (Ev 8) Anil)) Anil))) (Acons (Ec (.str "total")) (Acons (Etup (Acons (E2 subD (EC fLen (Acons (Ev 8) Anil)) (Ec (.int 1))) Anil)) (Acons (Etup Anil) Anil))))) Anil)))
  (Sseq (Sexp (EM "list" mApp (Ev 8) (Acons (Etup (Acons (Ec (.int 1)) (Acons (Ec (.int 1)) Anil))) Anil)))
  (Sset 13 (Elst (Acons (E2 subD (EC fLen (Acons (Ev 8) Anil)) (Ec (.int 1))) Anil)))))
  Snil)
  (Sseq (Sset 14 (E2 ixD (Ev 13) (E2 subD (EC fLen (Acons (Ev 13) Anil)) (Ec (.int 1)))))
  (Sseq (Sif (Tb (E2 (eqD false) (EC (arN 2 m__law_draw) (Acons (Ev 0) (Acons (Ec (.int 6)) Anil))) (Ec (.int 0))))
  (Sset 14 (EC (arN 2 m__law_pick) (Acons (Ev 0) (Acons (Ev 13) Anil))))
  Snil)
  (Sret (Etup (Acons (EC fTup (Acons (Esl (Ev 5) Onone (Osome (Ev 3))) Anil)) (Acons (EC fTup (Acons (Esl (Ev 5) (Osome (Ev 3)) Onone) Anil)) (Acons (EC fTup (Acons (Ev 9) Anil)) (Acons (Ev 14) Anil)))))))))))))
@[reducible] noncomputable def t__law_program_7 : FS := (Sseq (Sset 9 (Enew Anil))
  (Sseq (Sfor (Irng1 (Acons (EC (arN 2 m__law_draw) (Acons (Ev 0) (Acons (E2 addD (EC fMin2 (Acons (Ev 1) (Acons (E2 subD (Ec (.int 22)) (Ev 4)) Anil))) (Ec (.int 1))) Anil))) Anil)) (.nm 6)
  (Sseq (Sbind (.tp [(.nm 10), (.nm 11), (.nm 12)]) (EC (arN 4 m__law_step) (Acons (Ev 0) (Acons (Ev 8) (Acons (Ev 3) (Acons (Ev 4) Anil))))))
  (Sseq (Sexp (EM "list" mApp (Ev 9) (Acons (Etup (Acons (EC (arN 2 m__law_name) (Acons (Ev 0) (Acons (E2 addD (Ev 4) (Ev 6)) Anil))) (Acons (Ev 10) (Acons (Ev 11) (Acons (Ev 12) Anil))))) Anil)))
  (Sexp (EM "list" mApp (Ev 8) (Acons (EC (arN 4 m__law_step_shape) (Acons (Ev 10) (Acons (Ev 8) (Acons (Ev 11) (Acons (Ev 12) Anil))))) Anil))))))
  (Sseq (Sset 13 (Ecmp (Irng1 (Acons (EC fLen (Acons (Ev 8) Anil)) Anil)) (.nm 6) (Tb (E2 (eqD false) (E2 ixD (Ev 8) (Ev 6)) (Etup (Acons (Ec (.int 1)) (Acons (Ec (.int 1)) Anil))))) (Ev 6) [6]))
  (Sseq (Sif (Tor (Tb (E2 (eqD false) (EC fLen (Acons (Ev 13) Anil)) (Ec (.int 0)))) (Tb (E2 gtD (EC (arN 2 m__law_draw) (Acons (Ev 0) (Acons (Ec (.int 3)) Anil))) (Ec (.int 0)))))
  (Sseq (Sexp (EM "list" mApp (Ev 9) (Acons (Etup (Acons (EC (arN 2 m__law_name) (Acons (Ev 0) (Acons (EC fLen (Acons (Ev 8) Anil)) Anil))) (Acons (Ec (.str "total")) (Acons (Etup (Acons (E2 subD (EC fLen (Acons (Ev 8) Anil)) (Ec (.int 1))) Anil)) (Acons (Etup Anil) Anil))))) Anil)))
  (Sseq (Sexp (EM "list" mApp (Ev 8) (Acons (Etup (Acons (Ec (.int 1)) (Acons (Ec (.int 1)) Anil))) Anil)))
  (Sset 13 (Elst (Acons (E2 subD (EC fLen (Acons (Ev 8) Anil)) (Ec (.int 1))) Anil)))))
  Snil)
  (Sseq (Sset 14 (E2 ixD (Ev 13) (E2 subD (EC fLen (Acons (Ev 13) Anil)) (Ec (.int 1)))))
  (Sseq (Sif (Tb (E2 (eqD false) (EC (arN 2 m__law_draw) (Acons (Ev 0) (Acons (Ec (.int 6)) Anil))) (Ec (.int 0))))
  (Sset 14 (EC (arN 2 m__law_pick) (Acons (Ev 0) (Acons (Ev 13) Anil))))
  Snil)
  (Sret (Etup (Acons (EC fTup (Acons (Esl (Ev 5) Onone (Osome (Ev 3))) Anil)) (Acons (EC fTup (Acons (Esl (Ev 5) (Osome (Ev 3)) Onone) Anil)) (Acons (EC fTup (Acons (Ev 9) Anil)) (Acons (Ev 14) Anil))))))))))))
@[reducible] noncomputable def t__law_program_8 : FS := (Sseq (Sfor (Irng1 (Acons (EC (arN 2 m__law_draw) (Acons (Ev 0) (Acons (E2 addD (EC fMin2 (Acons (Ev 1) (Acons (E2 subD (Ec (.int 22)) (Ev 4)) Anil))) (Ec (.int 1))) Anil))) Anil)) (.nm 6)
  (Sseq (Sbind (.tp [(.nm 10), (.nm 11), (.nm 12)]) (EC (arN 4 m__law_step) (Acons (Ev 0) (Acons (Ev 8) (Acons (Ev 3) (Acons (Ev 4) Anil))))))
  (Sseq (Sexp (EM "list" mApp (Ev 9) (Acons (Etup (Acons (EC (arN 2 m__law_name) (Acons (Ev 0) (Acons (E2 addD (Ev 4) (Ev 6)) Anil))) (Acons (Ev 10) (Acons (Ev 11) (Acons (Ev 12) Anil))))) Anil)))
  (Sexp (EM "list" mApp (Ev 8) (Acons (EC (arN 4 m__law_step_shape) (Acons (Ev 10) (Acons (Ev 8) (Acons (Ev 11) (Acons (Ev 12) Anil))))) Anil))))))
  (Sseq (Sset 13 (Ecmp (Irng1 (Acons (EC fLen (Acons (Ev 8) Anil)) Anil)) (.nm 6) (Tb (E2 (eqD false) (E2 ixD (Ev 8) (Ev 6)) (Etup (Acons (Ec (.int 1)) (Acons (Ec (.int 1)) Anil))))) (Ev 6) [6]))
  (Sseq (Sif (Tor (Tb (E2 (eqD false) (EC fLen (Acons (Ev 13) Anil)) (Ec (.int 0)))) (Tb (E2 gtD (EC (arN 2 m__law_draw) (Acons (Ev 0) (Acons (Ec (.int 3)) Anil))) (Ec (.int 0)))))
  (Sseq (Sexp (EM "list" mApp (Ev 9) (Acons (Etup (Acons (EC (arN 2 m__law_name) (Acons (Ev 0) (Acons (EC fLen (Acons (Ev 8) Anil)) Anil))) (Acons (Ec (.str "total")) (Acons (Etup (Acons (E2 subD (EC fLen (Acons (Ev 8) Anil)) (Ec (.int 1))) Anil)) (Acons (Etup Anil) Anil))))) Anil)))
  (Sseq (Sexp (EM "list" mApp (Ev 8) (Acons (Etup (Acons (Ec (.int 1)) (Acons (Ec (.int 1)) Anil))) Anil)))
  (Sset 13 (Elst (Acons (E2 subD (EC fLen (Acons (Ev 8) Anil)) (Ec (.int 1))) Anil)))))
  Snil)
  (Sseq (Sset 14 (E2 ixD (Ev 13) (E2 subD (EC fLen (Acons (Ev 13) Anil)) (Ec (.int 1)))))
  (Sseq (Sif (Tb (E2 (eqD false) (EC (arN 2 m__law_draw) (Acons (Ev 0) (Acons (Ec (.int 6)) Anil))) (Ec (.int 0))))
  (Sset 14 (EC (arN 2 m__law_pick) (Acons (Ev 0) (Acons (Ev 13) Anil))))
  Snil)
  (Sret (Etup (Acons (EC fTup (Acons (Esl (Ev 5) Onone (Osome (Ev 3))) Anil)) (Acons (EC fTup (Acons (Esl (Ev 5) (Osome (Ev 3)) Onone) Anil)) (Acons (EC fTup (Acons (Ev 9) Anil)) (Acons (Ev 14) Anil)))))))))))
@[reducible] noncomputable def t__law_program_9 : FS := (Sseq (Sset 13 (Ecmp (Irng1 (Acons (EC fLen (Acons (Ev 8) Anil)) Anil)) (.nm 6) (Tb (E2 (eqD false) (E2 ixD (Ev 8) (Ev 6)) (Etup (Acons (Ec (.int 1)) (Acons (Ec (.int 1)) Anil))))) (Ev 6) [6]))
  (Sseq (Sif (Tor (Tb (E2 (eqD false) (EC fLen (Acons (Ev 13) Anil)) (Ec (.int 0)))) (Tb (E2 gtD (EC (arN 2 m__law_draw) (Acons (Ev 0) (Acons (Ec (.int 3)) Anil))) (Ec (.int 0)))))
  (Sseq (Sexp (EM "list" mApp (Ev 9) (Acons (Etup (Acons (EC (arN 2 m__law_name) (Acons (Ev 0) (Acons (EC fLen (Acons (Ev 8) Anil)) Anil))) (Acons (Ec (.str "total")) (Acons (Etup (Acons (E2 subD (EC fLen (Acons (Ev 8) Anil)) (Ec (.int 1))) Anil)) (Acons (Etup Anil) Anil))))) Anil)))
  (Sseq (Sexp (EM "list" mApp (Ev 8) (Acons (Etup (Acons (Ec (.int 1)) (Acons (Ec (.int 1)) Anil))) Anil)))
  (Sset 13 (Elst (Acons (E2 subD (EC fLen (Acons (Ev 8) Anil)) (Ec (.int 1))) Anil)))))
  Snil)
  (Sseq (Sset 14 (E2 ixD (Ev 13) (E2 subD (EC fLen (Acons (Ev 13) Anil)) (Ec (.int 1)))))
  (Sseq (Sif (Tb (E2 (eqD false) (EC (arN 2 m__law_draw) (Acons (Ev 0) (Acons (Ec (.int 6)) Anil))) (Ec (.int 0))))
  (Sset 14 (EC (arN 2 m__law_pick) (Acons (Ev 0) (Acons (Ev 13) Anil))))
  Snil)
  (Sret (Etup (Acons (EC fTup (Acons (Esl (Ev 5) Onone (Osome (Ev 3))) Anil)) (Acons (EC fTup (Acons (Esl (Ev 5) (Osome (Ev 3)) Onone) Anil)) (Acons (EC fTup (Acons (Ev 9) Anil)) (Acons (Ev 14) Anil))))))))))
@[reducible] noncomputable def t__law_program_10 : FS := (Sseq (Sif (Tor (Tb (E2 (eqD false) (EC fLen (Acons (Ev 13) Anil)) (Ec (.int 0)))) (Tb (E2 gtD (EC (arN 2 m__law_draw) (Acons (Ev 0) (Acons (Ec (.int 3)) Anil))) (Ec (.int 0)))))
  (Sseq (Sexp (EM "list" mApp (Ev 9) (Acons (Etup (Acons (EC (arN 2 m__law_name) (Acons (Ev 0) (Acons (EC fLen (Acons (Ev 8) Anil)) Anil))) (Acons (Ec (.str "total")) (Acons (Etup (Acons (E2 subD (EC fLen (Acons (Ev 8) Anil)) (Ec (.int 1))) Anil)) (Acons (Etup Anil) Anil))))) Anil)))
  (Sseq (Sexp (EM "list" mApp (Ev 8) (Acons (Etup (Acons (Ec (.int 1)) (Acons (Ec (.int 1)) Anil))) Anil)))
  (Sset 13 (Elst (Acons (E2 subD (EC fLen (Acons (Ev 8) Anil)) (Ec (.int 1))) Anil)))))
  Snil)
  (Sseq (Sset 14 (E2 ixD (Ev 13) (E2 subD (EC fLen (Acons (Ev 13) Anil)) (Ec (.int 1)))))
  (Sseq (Sif (Tb (E2 (eqD false) (EC (arN 2 m__law_draw) (Acons (Ev 0) (Acons (Ec (.int 6)) Anil))) (Ec (.int 0))))
  (Sset 14 (EC (arN 2 m__law_pick) (Acons (Ev 0) (Acons (Ev 13) Anil))))
  Snil)
  (Sret (Etup (Acons (EC fTup (Acons (Esl (Ev 5) Onone (Osome (Ev 3))) Anil)) (Acons (EC fTup (Acons (Esl (Ev 5) (Osome (Ev 3)) Onone) Anil)) (Acons (EC fTup (Acons (Ev 9) Anil)) (Acons (Ev 14) Anil)))))))))
@[reducible] noncomputable def t__law_program_11 : FS := (Sseq (Sset 14 (E2 ixD (Ev 13) (E2 subD (EC fLen (Acons (Ev 13) Anil)) (Ec (.int 1)))))
  (Sseq (Sif (Tb (E2 (eqD false) (EC (arN 2 m__law_draw) (Acons (Ev 0) (Acons (Ec (.int 6)) Anil))) (Ec (.int 0))))
  (Sset 14 (EC (arN 2 m__law_pick) (Acons (Ev 0) (Acons (Ev 13) Anil))))
  Snil)
  (Sret (Etup (Acons (EC fTup (Acons (Esl (Ev 5) Onone (Osome (Ev 3))) Anil)) (Acons (EC fTup (Acons (Esl (Ev 5) (Osome (Ev 3)) Onone) Anil)) (Acons (EC fTup (Acons (Ev 9) Anil)) (Acons (Ev 14) Anil))))))))
@[reducible] noncomputable def t__law_program_12 : FS := (Sseq (Sif (Tb (E2 (eqD false) (EC (arN 2 m__law_draw) (Acons (Ev 0) (Acons (Ec (.int 6)) Anil))) (Ec (.int 0))))
  (Sset 14 (EC (arN 2 m__law_pick) (Acons (Ev 0) (Acons (Ev 13) Anil))))
  Snil)
  (Sret (Etup (Acons (EC fTup (Acons (Esl (Ev 5) Onone (Osome (Ev 3))) Anil)) (Acons (EC fTup (Acons (Esl (Ev 5) (Osome (Ev 3)) Onone) Anil)) (Acons (EC fTup (Acons (Ev 9) Anil)) (Acons (Ev 14) Anil)))))))
@[reducible] noncomputable def t__law_program_13 : FS := (Sret (Etup (Acons (EC fTup (Acons (Esl (Ev 5) Onone (Osome (Ev 3))) Anil)) (Acons (EC fTup (Acons (Esl (Ev 5) (Osome (Ev 3)) Onone) Anil)) (Acons (EC fTup (Acons (Ev 9) Anil)) (Acons (Ev 14) Anil))))))
@[reducible] noncomputable def i2__law_program : FS := (Sset 3 (E2 addD (Ec (.int 1)) (EC (arN 2 m__law_draw) (Acons (Ev 0) (Acons (Ec (.int 6)) Anil)))))
@[reducible] noncomputable def i10__law_program : FS := (Sseq (Sexp (EM "list" mApp (Ev 9) (Acons (Etup (Acons (EC (arN 2 m__law_name) (Acons (Ev 0) (Acons (EC fLen (Acons (Ev 8) Anil)) Anil))) (Acons (Ec (.str "total")) (Acons (Etup (Acons (E2 subD (EC fLen (Acons (Ev 8) Anil)) (Ec (.int 1))) Anil)) (Acons (Etup Anil) Anil))))) Anil)))
  (Sseq (Sexp (EM "list" mApp (Ev 8) (Acons (Etup (Acons (Ec (.int 1)) (Acons (Ec (.int 1)) Anil))) Anil)))
  (Sset 13 (Elst (Acons (E2 subD (EC fLen (Acons (Ev 8) Anil)) (Ec (.int 1))) Anil)))))
@[reducible] noncomputable def i12__law_program : FS := (Sset 14 (EC (arN 2 m__law_pick) (Acons (Ev 0) (Acons (Ev 13) Anil))))
@[reducible] noncomputable def u0__law_program_0 : FS := (Sseq (Sset 7 (EC (arN 2 m__law_pick) (Acons (Ev 0) (Acons (Ev 2) Anil))))
  (Sseq (Sif (Tand (Tb (E2 geD (Ev 6) (Ev 3))) (Tb (E2 (eqD false) (EC (arN 2 m__law_draw) (Acons (Ev 0) (Acons (Ec (.int 2)) Anil))) (Ec (.int 0)))))
  (Sset 7 (Ec (.int 1)))
  Snil)
  (Sexp (EM "list" mApp (Ev 5) (Acons (Etup (Acons (EC (arN 2 m__law_name) (Acons (Ev 0) (Acons (Ev 6) Anil))) (Acons (EC (arN 2 m__law_pick) (Acons (Ev 0) (Acons (Ev 2) Anil))) (Acons (Ev 7) Anil)))) Anil)))))
@[reducible] noncomputable def u0__law_program_1 : FS := (Sseq (Sif (Tand (Tb (E2 geD (Ev 6) (Ev 3))) (Tb (E2 (eqD false) (EC (arN 2 m__law_draw) (Acons (Ev 0) (Acons (Ec (.int 2)) Anil))) (Ec (.int 0)))))
  (Sset 7 (Ec (.int 1)))
  Snil)
  (Sexp (EM "list" mApp (Ev 5) (Acons (Etup (Acons (EC (arN 2 m__law_name) (Acons (Ev 0) (Acons (Ev 6) Anil))) (Acons (EC (arN 2 m__law_pick) (Acons (Ev 0) (Acons (Ev 2) Anil))) (Acons (Ev 7) Anil)))) Anil))))
@[reducible] noncomputable def u0__law_program_2 : FS := (Sexp (EM "list" mApp (Ev 5) (Acons (Etup (Acons (EC (arN 2 m__law_name) (Acons (Ev 0) (Acons (Ev 6) Anil))) (Acons (EC (arN 2 m__law_pick) (Acons (Ev 0) (Acons (Ev 2) Anil))) (Acons (Ev 7) Anil)))) Anil)))
@[reducible] noncomputable def u1__law_program_0 : FS := (Sseq (Sbind (.tp [(.nm 10), (.nm 11), (.nm 12)]) (EC (arN 4 m__law_step) (Acons (Ev 0) (Acons (Ev 8) (Acons (Ev 3) (Acons (Ev 4) Anil))))))
  (Sseq (Sexp (EM "list" mApp (Ev 9) (Acons (Etup (Acons (EC (arN 2 m__law_name) (Acons (Ev 0) (Acons (E2 addD (Ev 4) (Ev 6)) Anil))) (Acons (Ev 10) (Acons (Ev 11) (Acons (Ev 12) Anil))))) Anil)))
  (Sexp (EM "list" mApp (Ev 8) (Acons (EC (arN 4 m__law_step_shape) (Acons (Ev 10) (Acons (Ev 8) (Acons (Ev 11) (Acons (Ev 12) Anil))))) Anil)))))
@[reducible] noncomputable def u1__law_program_1 : FS := (Sseq (Sexp (EM "list" mApp (Ev 9) (Acons (Etup (Acons (EC (arN 2 m__law_name) (Acons (Ev 0) (Acons (E2 addD (Ev 4) (Ev 6)) Anil))) (Acons (Ev 10) (Acons (Ev 11) (Acons (Ev 12) Anil))))) Anil)))
  (Sexp (EM "list" mApp (Ev 8) (Acons (EC (arN 4 m__law_step_shape) (Acons (Ev 10) (Acons (Ev 8) (Acons (Ev 11) (Acons (Ev 12) Anil))))) Anil))))
@[reducible] noncomputable def u1__law_program_2 : FS := (Sexp (EM "list" mApp (Ev 8) (Acons (EC (arN 4 m__law_step_shape) (Acons (Ev 10) (Acons (Ev 8) (Acons (Ev 11) (Acons (Ev 12) Anil))))) Anil)))
noncomputable def m__law_program : FC := (runF 16 b__law_program)
/-! ### _law_shapes -/
abbrev s__law_shapes : Stmt := topS 17
abbrev N__law_shapes : List PySem.Str := ["_law_program_here", "_law_found", "_law_step_here", "_law_value"]
theorem sc__law_shapes : FnScope N__law_shapes ["_law_program_here"] (defScope s__law_shapes) := ⟨rfl, rfl, rfl, by decide +kernel, rfl, by decide +kernel, by decide +kernel⟩
@[reducible] noncomputable def b__law_shapes : FS :=
  (Sseq (Sset 1 (EcmpN (Iseq (E2 addD (E2 ixD (Ev 0) (Ec (.int 0))) (E2 ixD (Ev 0) (Ec (.int 1))))) (.nm 3) Tyes (Esl (Ev 3) (Osome (Ec (.int 1))) Onone) [3]))
  (Sseq (Sfor (Iseq (E2 ixD (Ev 0) (Ec (.int 2)))) (.nm 2)
  (Sexp (EM "list" mApp (Ev 1) (Acons (EC (arN 4 m__law_step_shape) (Acons (E2 ixD (Ev 2) (Ec (.int 1))) (Acons (Ev 1) (Acons (E2 ixD (Ev 2) (Ec (.int 2))) (Acons (E2 ixD (Ev 2) (Ec (.int 3))) Anil))))) Anil))))
  (Sret (Ev 1))))
noncomputable def m__law_shapes : FC := (runF 4 b__law_shapes)
/-! ### _law_gets -/
abbrev s__law_gets : Stmt := topS 18
abbrev N__law_gets : List PySem.Str := ["_law_kind", "_law_numbers", "_law_values", "_law_found", "_law_g", "_law_base", "_law_a", "_law_b", "_law_first"]
theorem sc__law_gets : FnScope N__law_gets ["_law_kind", "_law_numbers", "_law_values", "_law_found", "_law_g", "_law_base"] (defScope s__law_gets) := ⟨rfl, rfl, rfl, by decide +kernel, rfl, by decide +kernel, by decide +kernel⟩
@[reducible] noncomputable def b__law_gets : FS :=
  (Sseq (Sset 6 (E2 ixD (Ev 2) (Ec (.int 0))))
  (Sseq (Sset 7 (E2 ixD (Ev 2) (E2 subD (EC fLen (Acons (Ev 2) Anil)) (Ec (.int 1)))))
  (Sseq (Sif (Tb (E2 (eqD false) (Ev 0) (Ec (.str "add"))))
  (Sret (Elst (Acons (Etup (Acons (Elst Anil) (Acons (Ev 4) Anil))) (Acons (Etup (Acons (Elst Anil) (Acons (Ev 4) Anil))) Anil))))
  Snil)
  (Sseq (Sif (Tb (E2 (eqD false) (Ev 0) (Ec (.str "sub"))))
  (Sret (Elst (Acons (Etup (Acons (Elst Anil) (Acons (Ev 4) Anil))) (Acons (Etup (Acons (Elst (Acons (Etup (Acons (Ec (.str "stretch")) (Acons (Etup (Acons (E1 negD (Ec (.int 1))) Anil)) (Acons (Etup (Acons (Ev 4) Anil)) Anil)))) Anil)) (Acons (Ev 5) Anil))) Anil))))
  Snil)
  (Sseq (Sif (Tb (E2 (eqD false) (Ev 0) (Ec (.str "times"))))
  (Sret (Elst (Acons (Etup (Acons (Elst (Acons (Etup (Acons (Ec (.str "times")) (Acons (Etup Anil) (Acons (Etup (Acons (Ev 4) (Acons (Ev 7) Anil))) Anil)))) Anil)) (Acons (Ev 5) Anil))) (Acons (Etup (Acons (Elst (Acons (Etup (Acons (Ec (.str "times")) (Acons (Etup Anil) (Acons (Etup (Acons (Ev 4) (Acons (Ev 6) Anil))) Anil)))) Anil)) (Acons (Ev 5) Anil))) Anil))))
  Snil)
  (Sseq (Sif (Tb (E2 (eqD false) (Ev 0) (Ec (.str "product"))))
  (Sseq (Sset 8 (Etup (Acons (Elst (Acons (Etup (Acons (Ec (.str "turn")) (Acons (Etup Anil) (Acons (Etup (Acons (Ev 7) Anil)) Anil)))) (Acons (Etup (Acons (Ec (.str "product")) (Acons (Etup Anil) (Acons (Etup (Acons (Ev 4) (Acons (Ev 5) Anil))) Anil)))) Anil))) (Acons (E2 addD (Ev 5) (Ec (.int 1))) Anil))))
  (Sret (Elst (Acons (Ev 8) (Acons (Etup (Acons (Elst (Acons (Etup (Acons (Ec (.str "turn")) (Acons (Etup Anil) (Acons (Etup (Acons (Ev 6) Anil)) Anil)))) (Acons (Etup (Acons (Ec (.str "product")) (Acons (Etup Anil) (Acons (Etup (Acons (Ev 5) (Acons (Ev 4) Anil))) Anil)))) Anil))) (Acons (E2 addD (Ev 5) (Ec (.int 1))) Anil))) Anil)))))
  Snil)
  (Sseq (Sif (Tb (E2 (eqD false) (Ev 0) (Ec (.str "turn"))))
  (Sret (Elst (Acons (Etup (Acons (Elst (Acons (Etup (Acons (Ec (.str "turn")) (Acons (Etup Anil) (Acons (Etup (Acons (Ev 4) Anil)) Anil)))) Anil)) (Acons (Ev 5) Anil))) Anil)))
  Snil)
  (Sseq (Sif (Tb (E2 (eqD false) (Ev 0) (Ec (.str "positive"))))
  (Sret (Elst (Acons (Etup (Acons (Elst (Acons (Etup (Acons (Ec (.str "gate")) (Acons (Etup Anil) (Acons (Etup (Acons (Ev 6) (Acons (Ev 4) Anil))) Anil)))) Anil)) (Acons (Ev 5) Anil))) Anil)))
  Snil)
  (Sseq (Sif (Tb (E2 (eqD false) (Ev 0) (Ec (.str "total"))))
  (Sret (Elst (Acons (Etup (Acons (Elst (Acons (Etup (Acons (Ec (.str "spread")) (Acons (E2 ixD (Ev 3) (Ev 6)) (Acons (Etup (Acons (Ev 4) Anil)) Anil)))) Anil)) (Acons (Ev 5) Anil))) Anil)))
  Snil)
  (Sseq (Sif (Tb (E2 (eqD false) (Ev 0) (Ec (.str "spread"))))
  (Sret (Elst (Acons (Etup (Acons (Elst (Acons (Etup (Acons (Ec (.str "total")) (Acons (Etup Anil) (Acons (Etup (Acons (Ev 4) Anil)) Anil)))) Anil)) (Acons (Ev 5) Anil))) Anil)))
  Snil)
  (Sseq (Sif (Tb (E2 (eqD false) (Ev 0) (Ec (.str "stretch"))))
  (Sret (Elst (Acons (Etup (Acons (Elst (Acons (Etup (Acons (Ec (.str "stretch")) (Acons (Ev 1) (Acons (Etup (Acons (Ev 4) Anil)) Anil)))) Anil)) (Acons (Ev 5) Anil))) Anil)))
  Snil)
  (Sret (Elst (Acons (Etup (Acons (Elst (Acons (Etup (Acons (Ec (.str "place")) (Acons (Etup (Acons (E2 ixD (E2 ixD (Ev 3) (Ev 6)) (Ec (.int 0))) Anil)) (Acons (Etup (Acons (Ev 7) (Acons (Ev 4) Anil))) Anil)))) Anil)) (Acons (Ev 5) Anil))) Anil))))))))))))))
noncomputable def m__law_gets : FC := (runF 9 b__law_gets)
/-! ### _law_plan -/
abbrev s__law_plan : Stmt := topS 19
abbrev N__law_plan : List PySem.Str := ["_law_program_here", "_law_found", "_law_leaves", "_law_lines", "_law_got", "_law_k", "_law_at", "_law_step_here", "_law_g", "_law_part", "_law_more", "_law_given", "_law_value"]
theorem sc__law_plan : FnScope N__law_plan ["_law_program_here"] (defScope s__law_plan) := ⟨rfl, rfl, rfl, by decide +kernel, rfl, by decide +kernel, by decide +kernel⟩
@[reducible] noncomputable def b__law_plan : FS :=
  (Sseq (Sset 1 (EC (arN 1 m__law_shapes) (Acons (Ev 0) Anil)))
  (Sseq (Sset 2 (E2 addD (EC fLen (Acons (E2 ixD (Ev 0) (Ec (.int 0))) Anil)) (EC fLen (Acons (E2 ixD (Ev 0) (Ec (.int 1))) Anil))))
  (Sseq (Sset 3 (EcmpN (Iseq (E2 ixD (Ev 0) (Ec (.int 2)))) (.nm 7) Tyes (Etup (Acons (E2 ixD (Ev 7) (Ec (.int 1))) (Acons (E2 ixD (Ev 7) (Ec (.int 3))) (Acons (E2 ixD (Ev 7) (Ec (.int 2))) Anil)))) [7]))
  (Sseq (Sset 4 EnewD)
  (Sseq (Sexp (EM "list" mApp (Ev 3) (Acons (Etup (Acons (Ec (.str "fill")) (Acons (Etup (Acons (Ec (.int 1)) (Acons (Ec (.int 1)) (Acons (Ec (.int 1)) Anil)))) (Acons (Etup Anil) Anil)))) Anil)))
  (Sseq (SsetD (Ev 4) (E2 ixD (Ev 0) (Ec (.int 3))) (E2 subD (E2 addD (Ev 2) (EC fLen (Acons (Ev 3) Anil))) (Ec (.int 1))))
  (Sseq (Sfor (Irng1 (Acons (EC fLen (Acons (E2 ixD (Ev 0) (Ec (.int 2))) Anil)) Anil)) (.nm 5)
  (Sseq (Sset 6 (E2 subD (E2 subD (EC fLen (Acons (E2 ixD (Ev 0) (Ec (.int 2))) Anil)) (Ec (.int 1))) (Ev 5)))
  (Sseq (Sset 7 (E2 ixD (E2 ixD (Ev 0) (Ec (.int 2))) (Ev 6)))
  (Sif (Tb (E2 (dinD false) (E2 addD (Ev 2) (Ev 6)) (Ev 4)))
  (Sseq (Sset 8 (E2 dgetD (Ev 4) (E2 addD (Ev 2) (Ev 6))))
  (Sfor (Irng1 (Acons (EC fLen (Acons (EC (arN 6 m__law_gets) (Acons (E2 ixD (Ev 7) (Ec (.int 1))) (Acons (E2 ixD (Ev 7) (Ec (.int 3))) (Acons (E2 ixD (Ev 7) (Ec (.int 2))) (Acons (Ev 1) (Acons (Ev 8) (Acons (Ec (.int 0)) Anil))))))) Anil)) Anil)) (.nm 9)
  (Sseq (Sbind (.tp [(.nm 10), (.nm 11)]) (E2 ixD (EC (arN 6 m__law_gets) (Acons (E2 ixD (Ev 7) (Ec (.int 1))) (Acons (E2 ixD (Ev 7) (Ec (.int 3))) (Acons (E2 ixD (Ev 7) (Ec (.int 2))) (Acons (Ev 1) (Acons (Ev 8) (Acons (E2 addD (Ev 2) (EC fLen (Acons (Ev 3) Anil))) Anil))))))) (Ev 9)))
  (Sseq (Sset 3 (E2 addN (Ev 3) (Ev 10)))
  (Sseq (Sset 12 (E2 ixD (E2 ixD (Ev 7) (Ec (.int 2))) (Ev 9)))
  (Sseq (Sif (Tb (E2 (dinD false) (Ev 12) (Ev 4)))
  (Sseq (Sexp (EM "list" mApp (Ev 3) (Acons (Etup (Acons (Ec (.str "add")) (Acons (Etup Anil) (Acons (Etup (Acons (E2 dgetD (Ev 4) (Ev 12)) (Acons (Ev 11) Anil))) Anil)))) Anil)))
  (Sset 11 (E2 subD (E2 addD (Ev 2) (EC fLen (Acons (Ev 3) Anil))) (Ec (.int 1)))))
  Snil)
  (SsetD (Ev 4) (Ev 12) (Ev 11))))))))
  Snil))))
  (Sseq (Sfor (Irng1 (Acons (EC fLen (Acons (E2 ixD (Ev 0) (Ec (.int 0))) Anil)) Anil)) (.nm 5)
  (Sif (Tb (E2 (dinD true) (Ev 5) (Ev 4)))
  (Sseq (Sexp (EM "list" mApp (Ev 3) (Acons (Etup (Acons (Ec (.str "fill")) (Acons (Etup (Acons (E2 ixD (E2 ixD (E2 ixD (Ev 0) (Ec (.int 0))) (Ev 5)) (Ec (.int 1))) (Acons (E2 ixD (E2 ixD (E2 ixD (Ev 0) (Ec (.int 0))) (Ev 5)) (Ec (.int 2))) (Acons (Ec (.int 0)) Anil)))) (Acons (Etup Anil) Anil)))) Anil)))
  (SsetD (Ev 4) (Ev 5) (E2 subD (E2 addD (Ev 2) (EC fLen (Acons (Ev 3) Anil))) (Ec (.int 1)))))
  Snil))
  (Sret (Etup (Acons (Ev 2) (Acons (EC fTup (Acons (Ev 3) Anil)) (Acons (E2 ixD (Ev 0) (Ec (.int 3))) (Acons (EC fTup (Acons (Ecmp (Irng1 (Acons (EC fLen (Acons (E2 ixD (Ev 0) (Ec (.int 0))) Anil)) Anil)) (.nm 5) Tyes (E2 dgetD (Ev 4) (Ev 5)) [5]) Anil)) Anil))))))))))))))
noncomputable def m__law_plan : FC := gcF (runF 13 b__law_plan)
/-! ### law -/
abbrev s_law : Stmt := topS 20
abbrev N_law : List PySem.Str := ["_law_script", "_law_pool_here", "_law_program_here"]
theorem sc_law : FnScope N_law ["_law_script"] (defScope s_law) := ⟨rfl, rfl, rfl, by decide +kernel, rfl, by decide +kernel, by decide +kernel⟩
@[reducible] noncomputable def b_law : FS :=
  (Sseq (Sset 1 (EC (arN 1 m__law_pool) (Acons (Ev 0) Anil)))
  (Sseq (Sset 2 (EC (arN 2 m__law_program) (Acons (Ev 1) (Acons (EC (arN 2 m__law_pick) (Acons (Ev 1) (Acons (Elst (Acons (Ec (.int 4)) (Acons (Ec (.int 12)) (Acons (Ec (.int 22)) Anil)))) Anil))) Anil))))
  (Sret (EC (arN 2 (m__law_same 8)) (Acons (EC (arN 1 m_plan) (Acons (Ev 2) Anil)) (Acons (EC (arN 1 m__law_plan) (Acons (Ev 2) Anil)) Anil))))))
noncomputable def m_law : FC := (runF 3 b_law)
local macro_rules | `(tactic| walk_at "ml1") => `(tactic| (with_reducible refine ⟨_, _, (rfl : [D.int _, D.int _, D.int _] = [D.int _, D.int _, D.int _]), ?_⟩))
local macro_rules | `(tactic| walk_at "ml1") => `(tactic| (with_reducible refine ⟨_, _, (rfl : [D.int _, D.int _] = [D.int _, D.int _]), ?_⟩))
local macro_rules | `(tactic| walk_at "ml1") => `(tactic| (with_reducible refine' ⟨_, rfl, ?_⟩))
local macro_rules | `(tactic| walk_at "ml1") => `(tactic| ((with_reducible refine' z_isi ?e ?f ?_); (case e => (first | exact rfl | (simp only [tyN]; done))); (case f => (first | exact kit_ii | exact kit_ib | exact kit_tt | exact kit_it | exact kit_st | exact kit_si | exact kit_ss | exact kit_lt | exact kit_ls))))
local macro_rules | `(tactic| walk_at "ml1") => `(tactic| ((with_reducible refine' z_max ?e ?f ?_); (case e => (first | exact ints_tup | exact ints_lst | exact ints_ref (by assumption))); (case f => assumption)))
local macro_rules | `(tactic| walk_at "ml1") => `(tactic| ((with_reducible refine' z_sum ?e ?_); (case e => (first | exact ints_tup | exact ints_lst | exact ints_ref (by assumption)))))
local macro_rules | `(tactic| walk_at "ml1") => `(tactic| ((with_reducible refine' z_lsn ?e ?_); (case e => (first | exact rfl | exact li_ref (by assumption)))))
local macro_rules | `(tactic| walk_at "ml1") => `(tactic| ((with_reducible refine' z_lst ?e ?_); (case e => (first | exact rfl | exact li_ref (by assumption)))))
local macro_rules | `(tactic| walk_at "ml1") => `(tactic| ((with_reducible refine' z_tupR ?e ?_); (case e => (first | assumption | exact set_at (by assumption)))))
local macro_rules | `(tactic| walk_at "ml1") => `(tactic| ((with_reducible refine' y_zip ?e ?f ?_); (case e => (first | exact rfl | exact any_ref (by assumption))); (case f => (first | exact rfl | exact any_ref (by assumption)))))
local macro_rules | `(tactic| walk_at "ml1") => `(tactic| ((with_reducible refine' y_nny ?e ?_); (case e => exact rfl)))
local macro_rules | `(tactic| walk_at "ml1") => `(tactic| ((with_reducible refine' y_nnn ?e ?_); (case e => exact rfl)))
local macro_rules | `(tactic| walk_at "ml1") => `(tactic| ((with_reducible refine' y_ny ?e ?_); (case e => exact rfl)))
local macro_rules | `(tactic| walk_at "ml1") => `(tactic| ((with_reducible refine' y_nn ?e ?_); (case e => exact rfl)))
local macro_rules | `(tactic| walk_at "ml1") => `(tactic| ((with_reducible refine' z_addL ?e ?_); (case e => (first | assumption | omega | (simp; omega)))))
local macro_rules | `(tactic| walk_at "ml1") => `(tactic| ((with_reducible refine' z_revR ?e ?_); (case e => assumption)))
local macro_rules | `(tactic| walk_at "ml1") => `(tactic| ((with_reducible refine' y_fbk ?p ?_); (case p => decide +kernel)))
local macro_rules | `(tactic| walk_at "ml1") => `(tactic| ((with_reducible refine' y_tbk ?p ?_); (case p => decide +kernel)))
local macro_rules | `(tactic| walk_at "ml1") => `(tactic| ((with_reducible refine' y_eqt ?p ?_); (case p => (simp; done))))
local macro_rules | `(tactic| walk_at "ml1") => `(tactic| ((with_reducible refine' z_inG ?e ?h ?z ?_); (case e => exact rfl); (case h => (first | assumption | decide +kernel)); (case z => decide +kernel)))
local macro_rules | `(tactic| walk_at "ml1") => `(tactic| ((with_reducible refine' y_eqf ?p ?_); (case p => (first | assumption | omega | decide))))
local macro_rules | `(tactic| walk_at "ml1") => `(tactic| ((with_reducible refine' y_eqt ?p ?_); (case p => (first | assumption | omega | decide))))
local macro_rules | `(tactic| walk_at "ml1") => `(tactic| ((with_reducible refine' y_df ?p ?_); (case p => (first | assumption | omega | decide))))
local macro_rules | `(tactic| walk_at "ml1") => `(tactic| ((with_reducible refine' y_dt ?p ?_); (case p => (first | assumption | omega | decide))))
local macro_rules | `(tactic| walk_at "ml1") => `(tactic| ((with_reducible refine' z_isiI ?p ?_); (case p => (first | exact kit_ii | exact kit_ib))))
local macro_rules | `(tactic| walk_at "ml1") => `(tactic| ((with_reducible refine' z_addS ?p ?_); (case p => (first | assumption | omega | decide))))
local macro_rules | `(tactic| walk_at "ml1") => `(tactic| ((with_reducible refine' x_aug ?e ?_); (case e => exact rfl)))
local macro_rules | `(tactic| walk_at "ml1") => `(tactic| ((with_reducible refine' z_app ?e ?f ?h ?_); (case e => (first | assumption | exact set_at (by assumption) | exact rfl)); (case f => (first | omega | (simp; done))); (case h => (first | (simp only [List.set_set]; exact rfl) | exact rfl))))
local macro_rules | `(tactic| walk_at "ml1") => `(tactic| ((with_reducible refine' z_set ?e ?f ?g ?h ?_); (case e => (first | assumption | exact set_at (by assumption) | exact rfl)); (case f => exact rfl); (case g => (first | (simp only [Int.reduceToNat, Int.toNat_zero, Int.toNat_one, List.set_cons_zero, List.set_cons_succ]; exact rfl) | exact rfl)); (case h => (first | (simp only [List.set_set]; exact rfl) | exact rfl))))
local macro_rules | `(tactic| walk_at "ml1") => `(tactic| ((with_reducible refine' x_itR ?e ?_); (case e => (first | assumption | exact set_at (by assumption) | exact rfl))))
local macro_rules | `(tactic| walk_at "ml1") => `(tactic| ((with_reducible refine' z_lenR ?e ?_); (case e => (first | assumption | exact set_at (by assumption) | exact rfl))))
local macro_rules | `(tactic| walk_at "ml1") => `(tactic| ((with_reducible refine' z_ixQ ?f ?_); (case f => (first | exact rfl | assumption))))
local macro_rules | `(tactic| walk_at "ml1") => `(tactic| ((with_reducible refine' z_ixL ?f ?_); (case f => (first | exact rfl | assumption))))
local macro_rules | `(tactic| walk_at "ml1") => `(tactic| ((with_reducible refine' z_ixT ?f ?_); (case f => (first | exact rfl | assumption))))
local macro_rules | `(tactic| walk_at "ml1") => `(tactic| ((with_reducible refine' z_ixR ?e ?f ?_); (case e => (first | assumption | exact set_at (by assumption) | exact rfl)); (case f => (first | exact rfl | assumption))))
local macro_rules | `(tactic| walk_at "ml1") => `(tactic| ((with_reducible refine' z_mul ?p ?_); (case p => (first | (refine mulOk_r ?_; constructor <;> omega) | (refine mulOk_l ?_; constructor <;> omega)))))
local macro_rules | `(tactic| walk_at "ml1") => `(tactic| ((with_reducible refine' z_pow ?p ?_); (case p => (first | assumption | omega | decide))))
local macro_rules | `(tactic| walk_at "ml1") => `(tactic| ((with_reducible refine' z_fdiv ?p ?_); (case p => (first | assumption | omega | decide))))
local macro_rules | `(tactic| walk_at "ml1") => `(tactic| ((with_reducible refine' z_mod ?p ?_); (case p => (first | assumption | omega | decide))))
local macro_rules | `(tactic| walk_at "ml1") => `(tactic| ((with_reducible refine' x_loopn ?e ?_); (case e => (first | (simp only [Int.reduceToNat, Int.toNat_zero, Int.toNat_one, List.set_cons_zero, List.set_cons_succ]; exact rfl) | exact rfl))))
local macro_rules | `(tactic| walk_at "ml1") => `(tactic| ((with_reducible refine' x_seqnx ?e ?_); (case e => (first | (simp only [Int.reduceToNat, Int.toNat_zero, Int.toNat_one, List.set_cons_zero, List.set_cons_succ]; exact rfl) | exact rfl))))
local macro_rules | `(tactic| walk_at "ml1") => `(tactic| ((with_reducible refine' x_ar ?e ?_); (case e => exact rfl)))
local macro_rules | `(tactic| walk_at "ml1") => `(tactic| ((with_reducible refine' y_tg ?e ?_); (case e => (simp only [bindT, bindTs, Option.bind_some, List.set_cons_zero, List.set_cons_succ]; exact rfl))))
local macro_rules | `(tactic| walk_at "ml1") => `(tactic| ((with_reducible refine' ⟨_, _, rfl, ?e, ?_⟩); (case e => (first | assumption | exact set_at (by assumption) | exact rfl))))
local macro_rules | `(tactic| walk_at "ml1") => `(tactic| with_reducible refine x_emS rfl ?_)
local macro_rules | `(tactic| walk_at "ml1") => `(tactic| with_reducible refine x_emL rfl ?_)
local macro_rules | `(tactic| walk_at "ml1") => `(tactic| (refine ⟨_, (rfl : truD _ _ = some _), ?_⟩))
local macro_rules | `(tactic| walk_at "ml1") => `(tactic| ((with_reducible refine' y_sd ?e ?_); (case e => (first | assumption | omega | decide | (simp; done) | (simp; omega) | (simp [rangeL]; omega)))))
local macro_rules | `(tactic| walk_at "ml1") => `(tactic| ((with_reducible refine' z_mulL1 ?e ?_); (case e => (first | assumption | (constructor <;> omega)))))
local macro_rules | `(tactic| walk_at "ml1") => `(tactic| ((with_reducible refine' z_mulT1 ?e ?_); (case e => (first | assumption | (constructor <;> omega)))))
local macro_rules | `(tactic| walk_at "ml1") => `(tactic| ((with_reducible refine' x_cmpE ?w ?_); (case w => (first | exact noWatch | exact watch_one (by assumption)))))
local macro_rules | `(tactic| walk_at "ml1") => `(tactic| ((with_reducible refine' x_cmpC ?w ?_); (case w => (first | exact noWatch | exact watch_one (by assumption)))))
local macro_rules | `(tactic| walk_at "ml1") => `(tactic| ((with_reducible refine' x_mapR1 ?w ?b ?_); (case w => (first | exact noWatch | exact watch_one (by assumption))); (case b => (intro i hi; (repeat walk_at "ml1"); exact ⟨rfl, rfl⟩))))
local macro_rules | `(tactic| walk_at "ml1") => `(tactic| ((with_reducible refine' x_mapR0 ?w ?b ?_); (case w => (first | exact noWatch | exact watch_one (by assumption))); (case b => (intro i hi; (repeat walk_at "ml1"); exact ⟨rfl, rfl⟩))))
local macro_rules | `(tactic| walk_at "ml1") => `(tactic| ((with_reducible refine' x_mapR ?w ?b ?_); (case w => (first | exact noWatch | exact watch_one (by assumption))); (case b => (intro i hi; (repeat walk_at "ml1"); exact ⟨rfl, rfl⟩))))
local macro_rules | `(tactic| walk_at "ml1") => `(tactic| ((with_reducible refine' y_zipR ?e ?f ?_); (case e => exact rfl); (case f => exact rfl)))
local macro_rules | `(tactic| walk_at "ml1") => `(tactic| ((with_reducible refine' z_ixLR ?e ?_); (case e => (first | assumption | (constructor <;> omega)))))
local macro_rules | `(tactic| walk_at "ml1") => `(tactic| ((with_reducible refine' z_ixL0 ?e ?_); (case e => (first | assumption | omega))))
local macro_rules | `(tactic| walk_at "ml1") => `(tactic| ((with_reducible refine' z_ixLN ?e ?_); (case e => (first | assumption | omega))))
local macro_rules | `(tactic| walk_at "ml1") => `(tactic| ((with_reducible refine' z_ixTR ?e ?_); (case e => (first | assumption | (constructor <;> omega)))))
local macro_rules | `(tactic| walk_at "ml1") => `(tactic| ((with_reducible refine' z_ixT0 ?e ?_); (case e => (first | assumption | omega))))
local macro_rules | `(tactic| walk_at "ml1") => `(tactic| ((with_reducible refine' z_ixTN ?e ?_); (case e => (first | assumption | omega))))
local macro_rules | `(tactic| walk_at "ml1") => `(tactic| ((with_reducible refine' xv_loopnx ?e ?_); (case e => (first | (simp only [Int.reduceToNat, Int.toNat_zero, Int.toNat_one, List.set_cons_zero, List.set_cons_succ]; exact rfl) | exact rfl))))
local macro_rules | `(tactic| walk_at "ml1") => `(tactic| ((with_reducible refine' xv_seqnx ?e ?_); (case e => (first | (simp only [Int.reduceToNat, Int.toNat_zero, Int.toNat_one, List.set_cons_zero, List.set_cons_succ]; exact rfl) | exact rfl))))
local macro_rules | `(tactic| walk_at "ml1") => `(tactic| ((with_reducible refine' xv_ar ?e ?_); (case e => exact rfl)))
local macro_rules | `(tactic| walk_at "ml1") => `(tactic| ((with_reducible refine' z_inLS ?e ?h ?z ?_); (case e => exact rfl); (case h => (first | assumption | decide +kernel)); (case z => decide +kernel)))
local macro_rules | `(tactic| walk_at "ml1") => `(tactic| with_reducible refine Stp.go ?_)
local macro_rules | `(tactic| walk_at "ml") => `(tactic| repeat (first | with_reducible refine Stp1.go ?_ | walk_at "ml1"))
local macro_rules | `(tactic| walk_at "run") => `(tactic| (refine' x_run ?e ?_; case e => (simp only [List.map_cons, List.map_nil, List.length_cons, List.length_nil, Nat.reduceAdd, Nat.reduceSub, List.replicate_succ, List.replicate_zero, List.cons_append, List.nil_append]; exact rfl)))
local macro_rules | `(tactic| walk_at "pureI") => `(tactic| ((refine' y_pureI ?p ?q ?_); (case p => ((repeat walk_at "ml1"); exact ⟨rfl, rfl⟩)); (case q => ((repeat walk_at "ml1"); exact ⟨rfl, rfl⟩))))
local macro_rules | `(tactic| walk_at "runX") => `(tactic| (refine' xv_run ?e ?_; case e => (simp only [List.map_cons, List.map_nil, List.length_cons, List.length_nil, Nat.reduceAdd, Nat.reduceSub, List.replicate_succ, List.replicate_zero, List.cons_append, List.nil_append]; exact rfl)))

/-! ### stores -/
def Pre (st s : Sto) : Prop := ∃ g, s = st ++ g
theorem Pre.refl {st : Sto} : Pre st st := ⟨[], by simp⟩
theorem Pre.app {st s l : Sto} (h : Pre st s) : Pre st (s ++ l) := by
  obtain ⟨g, rfl⟩ := h
  exact ⟨g ++ l, by simp⟩
theorem Pre.set {st s : Sto} {a : Nat} {x : O} (h : Pre st s) (ha : st.length ≤ a) : Pre st (s.set a x) := by
  obtain ⟨g, rfl⟩ := h
  exact ⟨g.set (a - st.length) x, by rw [List.set_append_right _ _ ha]⟩
theorem Pre.le {st s : Sto} (h : Pre st s) : st.length ≤ s.length := by
  obtain ⟨g, rfl⟩ := h
  simp
theorem at_app {s l : Sto} {a : Nat} {o : O} (h : s[a]? = some o) : (s ++ l)[a]? = some o := by
  have e := (List.getElem?_eq_some_iff.mp h).1
  rw [List.getElem?_append_left e]
  exact h
theorem at_new {s : Sto} {o : O} : (s ++ [o])[s.length]? = some o := by rw [List.getElem?_append_right (Nat.le_refl _), Nat.sub_self]; rfl
theorem at_ne {s : Sto} {a b : Nat} {o x : O} (h : s[a]? = some o) (n : b ≠ a) : (s.set b x)[a]? = some o := by rw [List.getElem?_set_ne n]; exact h
theorem at_lt {s : Sto} {a : Nat} {o : O} (h : s[a]? = some o) : a < s.length := (List.getElem?_eq_some_iff.mp h).1
theorem blw_ints {n : Nat} (ns : List Int) : D.blw n (.tup (ns.map D.int)) := by
  show belows n (ns.map D.int)
  induction ns with
  | nil => trivial
  | cons x ns ih => exact ⟨trivial, ih⟩
theorem wp_gc {m : FC} {ds : List D} {st : Sto} {Q : D → Sto → Prop} (h : wp (m ds st) fun d s => Pre st s ∧ d.blw st.length ∧ Q d st) : wp (gcF m ds st) Q := by
  obtain ⟨d, s, e, ⟨g, rfl⟩, b, q⟩ := h
  exact ⟨d, st, gcF.of e b, q⟩
def Kp (n : Nat) (st st' : Sto) : Prop := st.length ≤ st'.length ∧ ∀ m o, m ≠ n → st[m]? = some o → st'[m]? = some o
theorem Kp.refl {n : Nat} {st : Sto} : Kp n st st := ⟨Nat.le_refl _, fun _ _ _ h => h⟩
theorem Kp.oth {n : Nat} {a b c : Sto} (x : Kp n a b) (y : Oth n b c) : Kp n a c := ⟨by have := x.1; have := y.1; omega, fun m o h e => (y.2 m h).trans (x.2 m o h e)⟩
theorem Kp.trans {n : Nat} {a b c : Sto} (x : Kp n a b) (y : Kp n b c) : Kp n a c := ⟨Nat.le_trans x.1 y.1, fun m o h e => y.2 m o h (x.2 m o h e)⟩
theorem Kp.app {n : Nat} {a b l : Sto} (x : Kp n a b) : Kp n a (b ++ l) := ⟨by rw [List.length_append]; have := x.1; omega, fun m o h e => at_app (x.2 m o h e)⟩
theorem Kp.set {n m : Nat} {a b : Sto} {o : O} (x : Kp n a b) (h : a.length ≤ m) : Kp n a (b.set m o) := ⟨by rw [List.length_set]; exact x.1, fun m2 o2 h2 e => at_ne (x.2 m2 o2 h2 e) (by have := at_lt e; omega)⟩

/-! ### the pool -/
def poolE (ns : List Int) (p q r z : Int) : O := .lst [.lst (ns.map D.int), .int p, .int q, .int r, .int z]
def PoolE (ns : List Int) (st : Sto) (n : Nat) : Prop := ∃ p q r z, 0 ≤ p ∧ 0 ≤ q ∧ 0 ≤ r ∧ 0 ≤ z ∧ st[n]? = some (poolE ns p q r z)
theorem draw {st : Sto} {n : Nat} {ns : List Int} {many : Int} {Q : D → Sto → Prop} (P : PoolE ns st n) (hm : 0 < many) (hm2 : many < 4294967296)
    (k : ∀ v st', 0 ≤ v → v < many → PoolE ns st' n → Oth n st st' → Q (.int v) st') : wp (m__law_draw [.ref n, .int many] st) Q := by
  obtain ⟨p, q, r, z, hp, hq, hr, hz, hst⟩ := P
  unfold poolE at hst
  have tail : ∀ (o2 o3 : Option D) (p' r' : Int) (s : Sto), 0 ≤ p' → 0 ≤ r' → Oth n st s → s[n]? = some (.lst [.lst (ns.map D.int), .int p', .int q, .int r', .int z]) →
    wp ((Sseq (SsetIx (Ev 0) (Ec (.int 4)) (E2 addD (E2 ixD (Ev 0) (Ec (.int 4))) (Ec (.int 1))))
  (Sseq (Sset 4 (E2 modD (EC fInt (Acons (E2 addD (E2 addD (E2 mulD (E2 ixD (Ev 0) (Ec (.int 3))) (Ec (.int 48271))) (E2 mulD (E2 ixD (Ev 0) (Ec (.int 4))) (Ec (.int 69621)))) (Ec (.int 7919))) Anil)) (Ec (.int 2147483647))))
  (Sseq (Sset 4 (E2 modD (EC fInt (Acons (E2 addD (E2 mulD (Ev 4) (Ev 4)) (E2 mulD (E2 ixD (Ev 0) (Ec (.int 4))) (Ec (.int 40692)))) Anil)) (Ec (.int 2147483399))))
  (Sret (E2 modD (EC fInt (Acons (Ev 4) Anil)) (Ev 1)))))) [some (.ref n), some (.int many), o2, o3, none] s) (runK Q) := by
    intro o2 o3 p' r' s hp' hr' os hs
    walk_at "ml"
    have e1 := emod_ok (r' * 48271 + (z + 1) * 69621 + 7919) (b := 2147483647) (by decide)
    walk_at "ml"
    have e2 := emod_ok ((r' * 48271 + (z + 1) * 69621 + 7919) % 2147483647 * ((r' * 48271 + (z + 1) * 69621 + 7919) % 2147483647) + (z + 1) * 40692) (b := 2147483399) (by decide)
    have e := emod_ok (((r' * 48271 + (z + 1) * 69621 + 7919) % 2147483647 * ((r' * 48271 + (z + 1) * 69621 + 7919) % 2147483647) + (z + 1) * 40692) % 2147483399) hm
    exact k _ _ e.1 e.2 ⟨p', q, r', z + 1, hp', hq, hr', by omega, set_at hs⟩ (os.trans .set)
  walk_at "run"
  walk_at "ml"
  refine y_d (fun h1 => ?_) (fun h1 => ?_)
  · walk_at "ml"
    have e := emod_ok q hm
    exact k _ _ e.1 e.2 ⟨p, q / many, r, z, hp, Int.ediv_nonneg hq (by omega), hr, hz, set_at hst⟩ .set
  · walk_at "ml"
    refine y_eq (fun h8 => ?_) (fun h8 => ?_)
    · walk_at "ml"
      refine y_d (fun h2 => ?_) (fun h2 => ?_)
      · obtain ⟨c, hc⟩ := script_at ns hp h2
        walk_at "ml"
        generalize hd : (if c < 0 then -c else c) = d
        have hd0 : 0 ≤ d := by
          rw [← hd]
          split <;> omega
        refine y_d (fun h3 => ?_) (fun h3 => ?_)
        · walk_at "ml"
          have e := emod_ok d hm
          exact k _ _ e.1 e.2 ⟨p + 1, d / many, r, z, by omega, Int.ediv_nonneg hd0 (by omega), hr, hz, set_at hst⟩ .set
        · repeat (first | with_reducible refine tail _ _ (p + 1) d _ ?_ ?_ ?_ ?_ | walk_at "ml1")
          · omega
          · exact hd0
          · exact Oth.set
          · exact set_at hst
      · repeat (first | with_reducible refine tail _ _ p r _ ?_ ?_ ?_ ?_ | walk_at "ml1")
        · exact hp
        · exact hr
        · exact Oth.refl
        · exact hst
    · repeat (first | with_reducible refine tail _ _ p r _ ?_ ?_ ?_ ?_ | walk_at "ml1")
      · exact hp
      · exact hr
      · exact Oth.refl
      · exact hst
theorem pick {st : Sto} {n : Nat} {ns : List Int} {rows : List D} {Q : D → Sto → Prop} (P : PoolE ns st n) (h0 : 0 < rows.length) (h1 : rows.length < 4294967296)
    (k : ∀ x st', x ∈ rows → PoolE ns st' n → Oth n st st' → Q x st') : wp (m__law_pick [.ref n, .lst rows] st) Q := by
  walk_at "run"
  walk_at "ml"
  refine draw P (by omega) (by omega) fun v st' v0 v1 P1 o1 => ?_
  refine z_ixL (atI_ok v0 (by omega)) ?_
  walk_at "ml"
  exact k _ _ (List.getElem_mem _) P1 o1
theorem PoolE.app {ns : List Int} {st l : Sto} {n : Nat} (P : PoolE ns st n) : PoolE ns (st ++ l) n := by
  obtain ⟨p, q, r, z, h1, h2, h3, h4, h5⟩ := P
  exact ⟨p, q, r, z, h1, h2, h3, h4, by
    rw [List.getElem?_append_left (List.getElem?_eq_some_iff.mp h5).1]; exact h5⟩
theorem PoolE.set {ns : List Int} {st : Sto} {n m : Nat} {o : O} (P : PoolE ns st n) (h : m ≠ n) : PoolE ns (st.set m o) n := by
  obtain ⟨p, q, r, z, h1, h2, h3, h4, h5⟩ := P
  exact ⟨p, q, r, z, h1, h2, h3, h4, by rw [List.getElem?_set_ne h]; exact h5⟩
theorem PoolE.lt {ns : List Int} {st : Sto} {n : Nat} (P : PoolE ns st n) : n < st.length := by
  obtain ⟨p, q, r, z, h1, h2, h3, h4, h5⟩ := P
  exact (List.getElem?_eq_some_iff.mp h5).1
theorem pool_ok {st : Sto} {ns : List Int} {Q : D → Sto → Prop} (k : PoolE ns (st ++ [poolE ns 0 0 0 0]) st.length → Q (.ref st.length) (st ++ [poolE ns 0 0 0 0])) : wp (m__law_pool [.sq (ns.map D.int)] st) Q := by
  walk_at "run"
  walk_at "ml"
  exact k ⟨0, 0, 0, 0, by decide, by decide, by decide, by decide, by rw [List.getElem?_append_right (Nat.le_refl _), Nat.sub_self]; rfl⟩
/-! ### sameness -/
theorem same_int {st : Sto} {n : Nat} {i : Int} {Q : D → Sto → Prop} (k : Q (.bl true) st) : wp (m__law_same (n + 1) [.int i, .int i] st) Q := by
  walk_at "run"
  walk_at "ml"
  rw [beq_self_eq_true]
  exact k
theorem same_none {st : Sto} {n : Nat} {Q : D → Sto → Prop} (k : Q (.bl true) st) : wp (m__law_same (n + 1) [.non, .non] st) Q := by
  walk_at "run"
  walk_at "ml"
  exact k
theorem same_str {st : Sto} {n : Nat} {i : PySem.Str} {Q : D → Sto → Prop} (k : Q (.bl true) st) : wp (m__law_same (n + 1) [.str i, .str i] st) Q := by
  walk_at "run"
  walk_at "ml"
  rw [beq_self_eq_true]
  exact k
/-- alike, if the parts are -/
theorem same_tup {st : Sto} {n : Nat} {ds : List D} {Q : D → Sto → Prop} (hl : ds.length ≤ 1000) (hd : ∀ d, d ∈ ds → ∀ Q' : D → Sto → Prop, Q' (.bl true) st → wp (m__law_same n [d, d] st) Q') (k : Q (.bl true) st) : wp (m__law_same (n + 1) [.tup ds, .tup ds] st) Q := by
  walk_at "run"
  walk_at "ml"
  refine x_comp (fun i a s => a = [] ∧ s = st) ⟨rfl, rfl⟩ (fun _ _ _ _ => noWatch) ?_ ?_
  · rintro i x a s hx ⟨rfl, rfl⟩
    obtain ⟨hi, rfl⟩ := range_at hx
    rw [Int.toNat_natCast] at hi
    have hat : atI ds (0 + (i : Int)) = some ds[i] := by
      rw [Int.zero_add]
      exact atI_get (by omega) (by simp [hi])
    walk_at "ml"
    refine hd _ (List.getElem_mem _) _ ?_
    walk_at "ml"
    exact ⟨rfl, rfl⟩
  · rintro a s ⟨rfl, rfl⟩
    walk_at "ml"
    exact k
theorem same_ints {st : Sto} {n : Nat} {is : List Int} {Q : D → Sto → Prop} (hl : is.length ≤ 1000) (k : Q (.bl true) st) : wp (m__law_same (n + 2) [.tup (is.map D.int), .tup (is.map D.int)] st) Q :=
  same_tup (by rw [List.length_map]; exact hl) (fun d hd Q' h => by
    obtain ⟨i, _, rfl⟩ := List.mem_map.mp hd
    exact same_int h) k

/-! ### shapes and steps -/
abbrev Sh := Int × Int
abbrev sD (s : Sh) : D := .tup [.int s.1, .int s.2]
def sh (F : List Sh) (a : Int) : Sh := F.getD a.toNat (0, 0)
def okI (F : List Sh) (a : Int) : Prop := 0 ≤ a ∧ a < (F.length : Nat)
theorem sh_at {F : List Sh} {a : Int} (h : okI F a) : atI (F.map sD) a = some (sD (sh F a)) := by
  have h2 : a.toNat < F.length := by have := h.1; have := h.2; omega
  refine atI_get h.1 ?_
  simp [sh, h2]
inductive Step (F : List Sh) : PySem.Str → List Int → List Int → Sh → Prop where
  | same (k : PySem.Str) (a b : Int) : (k = "add" ∨ k = "sub" ∨ k = "times") → okI F a → okI F b → sh F a = sh F b → Step F k [a, b] [] (sh F a)
  | prod (a b : Int) : okI F a → okI F b → (sh F a).2 = (sh F b).1 → Step F "product" [a, b] [] ((sh F a).1, (sh F b).2)
  | pick (a b : Int) : okI F a → okI F b → (sh F b).2 = 1 → Step F "pick" [a, b] [] ((sh F b).1, (sh F a).2)
  | turn (a : Int) : okI F a → Step F "turn" [a] [] ((sh F a).2, (sh F a).1)
  | total (a : Int) : okI F a → Step F "total" [a] [] (1, 1)
  | spread (a x y : Int) : okI F a → sh F a = (1, 1) → (1 ≤ x ∧ x ≤ 6) → (1 ≤ y ∧ y ≤ 6) → Step F "spread" [a] [x, y] (x, y)
  | keep (k : PySem.Str) (a : Int) (ns : List Int) : (k = "positive" ∨ k = "stretch") → ((k = "positive" ∧ ns = []) ∨ ∃ x, k = "stretch" ∧ ns = [x] ∧ -1000 ≤ x ∧ x ≤ 1000) → okI F a → Step F k [a] ns (sh F a)
theorem Step.ok {F : List Sh} {k : PySem.Str} {ops nums : List Int} {r : Sh} (h : Step F k ops nums r) : ∀ a, a ∈ ops → okI F a := by
  intro c hc
  cases h <;> simp at hc <;> (first | (rcases hc with rfl | rfl <;> assumption) | (subst hc; assumption))
theorem Step.few {F : List Sh} {k : PySem.Str} {ops nums : List Int} {r : Sh} (h : Step F k ops nums r) : ops.length ≤ 2 := by
  cases h <;> simp
theorem stepshape_ok {F : List Sh} {k : PySem.Str} {ops nums : List Int} {r : Sh} {st : Sto} {Q : D → Sto → Prop} (h : Step F k ops nums r) (kk : Q (sD r) st) :
    wp (m_step_shape [.str k, .lst (ops.map fun a => sD (sh F a)), .tup (nums.map D.int)] st) Q := by
  cases h with
  | same k a b hk ha hb e =>
    show wp (m_step_shape [.str k, .lst [sD (sh F a), sD (sh F b)], .tup []] st) Q
    have e' : [(sh F a).1, (sh F a).2] = [(sh F b).1, (sh F b).2] := by rw [e]
    rcases hk with rfl | rfl | rfl
    all_goals
      walk_at "run"
      walk_at "ml"
      exact kk
  | prod a b ha hb e =>
    show wp (m_step_shape [.str "product", .lst [sD (sh F a), sD (sh F b)], .tup []] st) Q
    walk_at "run"
    walk_at "ml"
    exact kk
  | pick a b ha hb e =>
    show wp (m_step_shape [.str "pick", .lst [sD (sh F a), sD (sh F b)], .tup []] st) Q
    walk_at "run"
    walk_at "ml"
    exact kk
  | turn a ha =>
    show wp (m_step_shape [.str "turn", .lst [sD (sh F a)], .tup []] st) Q
    walk_at "run"
    walk_at "ml"
    exact kk
  | total a ha =>
    show wp (m_step_shape [.str "total", .lst [sD (sh F a)], .tup []] st) Q
    walk_at "run"
    walk_at "ml"
    exact kk
  | spread a x y ha e _ _ =>
    show wp (m_step_shape [.str "spread", .lst [sD (sh F a)], .tup [.int x, .int y]] st) Q
    have e' : [(sh F a).1, (sh F a).2] = [1, 1] := by rw [e]
    walk_at "run"
    walk_at "ml"
    exact kk
  | keep k a ns hk _ ha =>
    show wp (m_step_shape [.str k, .lst [sD (sh F a)], .tup (nums.map D.int)] st) Q
    rcases hk with rfl | rfl
    all_goals
      walk_at "run"
      walk_at "ml"
      exact kk
theorem lstep_ok {F : List Sh} {k : PySem.Str} {ops nums : List Int} {r : Sh} {st : Sto} {f : Nat} {Q : D → Sto → Prop} (h : Step F k ops nums r) (hf : st[f]? = some (.lst (F.map sD))) (kk : Q (sD r) st) :
    wp (m__law_step_shape [.str k, .ref f, .tup (ops.map D.int), .tup (nums.map D.int)] st) Q := by
  cases h with
  | same k a b hk ha hb e =>
    show wp (m__law_step_shape [.str k, .ref f, .tup [.int a, .int b], .tup []] st) Q
    have ha' := sh_at ha
    have hb' := sh_at hb
    rcases hk with rfl | rfl | rfl
    all_goals
      walk_at "run"
      walk_at "ml"
      exact kk
  | prod a b ha hb e =>
    show wp (m__law_step_shape [.str "product", .ref f, .tup [.int a, .int b], .tup []] st) Q
    have ha' := sh_at ha
    have hb' := sh_at hb
    walk_at "run"
    walk_at "ml"
    exact kk
  | pick a b ha hb e =>
    show wp (m__law_step_shape [.str "pick", .ref f, .tup [.int a, .int b], .tup []] st) Q
    have ha' := sh_at ha
    have hb' := sh_at hb
    walk_at "run"
    walk_at "ml"
    exact kk
  | turn a ha =>
    show wp (m__law_step_shape [.str "turn", .ref f, .tup [.int a], .tup []] st) Q
    have ha' := sh_at ha
    walk_at "run"
    walk_at "ml"
    exact kk
  | total a ha =>
    show wp (m__law_step_shape [.str "total", .ref f, .tup [.int a], .tup []] st) Q
    have ha' := sh_at ha
    walk_at "run"
    walk_at "ml"
    exact kk
  | spread a x y ha e _ _ =>
    show wp (m__law_step_shape [.str "spread", .ref f, .tup [.int a], .tup [.int x, .int y]] st) Q
    have ha' := sh_at ha
    walk_at "run"
    walk_at "ml"
    exact kk
  | keep k a ns hk _ ha =>
    show wp (m__law_step_shape [.str k, .ref f, .tup [.int a], .tup (nums.map D.int)] st) Q
    have ha' := sh_at ha
    rcases hk with rfl | rfl
    all_goals
      walk_at "run"
      walk_at "ml"
      exact kk
/-! ### leaves, steps, programs -/
abbrev Lf := PySem.Str × Sh
abbrev leafD (x : Lf) : D := .tup [.str x.1, .int x.2.1, .int x.2.2]
abbrev St := PySem.Str × PySem.Str × List Int × List Int
abbrev stD (s : St) : D := .tup [.str s.1, .str s.2.1, .tup (s.2.2.1.map D.int), .tup (s.2.2.2.map D.int)]
def Good (Ls : List Lf) (F : List Sh) (S : List St) : Prop := F.length = Ls.length + S.length ∧ F.take Ls.length = Ls.map (·.2) ∧
  ∀ i s, S[i]? = some s → ∃ r, F[Ls.length + i]? = some r ∧ Step (F.take (Ls.length + i)) s.2.1 s.2.2.1 s.2.2.2 r
theorem Good.new (Ls : List Lf) : Good Ls (Ls.map (·.2)) [] := ⟨by simp, by rw [← List.length_map (f := fun x : Lf => x.2), List.take_length], fun i s h => by simp at h⟩
theorem Good.snoc {Ls : List Lf} {F : List Sh} {S : List St} {s : St} {r : Sh} (G : Good Ls F S) (h : Step F s.2.1 s.2.2.1 s.2.2.2 r) : Good Ls (F ++ [r]) (S ++ [s]) := by
  obtain ⟨h1, h2, h3⟩ := G
  refine ⟨by simp [h1]; omega, by rw [List.take_append_of_le_length (by omega)]; exact h2, fun i x hx => ?_⟩
  by_cases hi : i < S.length
  · rw [List.getElem?_append_left hi] at hx
    obtain ⟨r2, h4, h5⟩ := h3 i x hx
    refine ⟨r2, by rw [List.getElem?_append_left (by omega)]; exact h4, ?_⟩
    rw [List.take_append_of_le_length (by omega)]
    exact h5
  · have hl := (List.getElem?_eq_some_iff.mp hx).1
    rw [List.length_append, List.length_singleton] at hl
    have e : i = S.length := by omega
    subst e
    rw [List.getElem?_append_right (Nat.le_refl _), Nat.sub_self] at hx
    cases hx
    refine ⟨r, by rw [← h1, List.getElem?_append_right (Nat.le_refl _), Nat.sub_self]; rfl, ?_⟩
    rw [← h1, List.take_append_of_le_length (Nat.le_refl _), List.take_length]
    exact h
theorem shapes_ok {P1 P2 : List Lf} {F : List Sh} {S : List St} {loss : D} {st : Sto} {Q : D → Sto → Prop} (G : Good (P1 ++ P2) F S) (hl : (P1 ++ P2).length ≤ 20) (hF : F.length ≤ 60) (k : Q (.tup (F.map sD)) st) :
    wp (m_shapes [.tup [.tup (P1.map leafD), .tup (P2.map leafD), .tup (S.map stD), loss]] st) Q := by
  obtain ⟨g1, g2, g3⟩ := G
  rw [List.length_append] at hl
  refine wp_gc ?_
  walk_at "run"
  walk_at "ml"
  refine z_addT (by simp; omega) ?_
  rw [← List.map_append]
  generalize hL : P1 ++ P2 = Ls at g1 g2 g3
  have hLl : Ls.length ≤ 20 := by rw [← hL, List.length_append]; exact hl
  walk_at "ml"
  try refine y_sd (by rw [List.length_map]; omega) ?_
  refine x_map (fun d => match d with | .tup [_, x, y] => .tup [x, y] | _ => .non) noWatch (fun x hx => ?_) ?_
  · obtain ⟨z, _, rfl⟩ := List.mem_map.mp hx
    walk_at "ml"
    exact ⟨rfl, rfl⟩
  have e0 : ((Ls.map leafD).map fun d => match d with | .tup [_, x, y] => D.tup [x, y] | _ => D.non) = (F.take (Ls.length + 0)).map sD := by
    rw [Nat.add_zero, g2, List.map_map, List.map_map]
    rfl
  rw [e0]
  walk_at "ml"
  refine x_loop (fun i e s => i ≤ S.length ∧ ∃ o6 o7 o8 o9, e = [some (.tup [.tup (P1.map leafD), .tup (P2.map leafD), .tup (S.map stD), loss]), some (.tup (P1.map leafD)), some (.tup (P2.map leafD)), some (.tup (S.map stD)), some loss, some (.ref st.length), o6, o7, o8, o9, none, none, none] ∧
    Pre st s ∧ s[st.length]? = some (.lst ((F.take (Ls.length + i)).map sD))) ?_ (fun _ _ _ _ => noWatch) ?_ ?_
  · exact ⟨Nat.zero_le _, _, _, _, _, rfl, Pre.refl.app, at_new⟩
  · rintro i x e s hx ⟨hi, o6, o7, o8, o9, rfl, pr, hs⟩
    rw [List.getElem?_map] at hx
    obtain ⟨q, hq, rfl⟩ := Option.map_eq_some_iff.mp hx
    obtain ⟨r, hr, hst⟩ := g3 i q hq
    have hil := (List.getElem?_eq_some_iff.mp hq).1
    have hfew := hst.few
    walk_at "ml"
    try refine y_sd (by rw [List.length_map]; omega) ?_
    refine x_map (fun d => match d with | .int a => sD (sh (F.take (Ls.length + i)) a) | _ => .non) noWatch (fun x hx => ?_) ?_
    · obtain ⟨a, ha, rfl⟩ := List.mem_map.mp hx
      have ha' := sh_at (hst.ok a ha)
      walk_at "ml"
      exact ⟨rfl, rfl⟩
    have e1 : ((q.2.2.1.map D.int).map fun d => match d with | .int a => sD (sh (F.take (Ls.length + i)) a) | _ => .non) = q.2.2.1.map fun a => sD (sh (F.take (Ls.length + i)) a) := by
      rw [List.map_map]
      rfl
    rw [e1]
    walk_at "ml"
    refine stepshape_ok hst ?_
    walk_at "ml"
    refine z_app hs (by rw [List.length_map, List.length_take]; omega) rfl ?_
    walk_at "ml"
    refine ⟨by omega, _, _, _, _, rfl, pr.set (Nat.le_refl _), ?_⟩
    rw [set_at hs, ← Nat.add_assoc, take_last hr, List.map_append]
    rfl
  · rintro e s ⟨hi, o6, o7, o8, o9, rfl, pr, hs⟩
    rw [List.length_map, ← g1, List.take_length] at hs
    walk_at "ml"
    refine ⟨pr, ?_, k⟩
    show belows _ _
    generalize F = xs
    induction xs with
    | nil => trivial
    | cons x xs ih => exact ⟨⟨trivial, trivial, trivial⟩, ih⟩
theorem lshapes_ok {P1 P2 : List Lf} {F : List Sh} {S : List St} {loss : D} {st : Sto} {Q : D → Sto → Prop} (G : Good (P1 ++ P2) F S) (hl : (P1 ++ P2).length ≤ 20) (hF : F.length ≤ 60) (k : Q (.ref st.length) (st ++ [.lst (F.map sD)])) :
    wp (m__law_shapes [.tup [.tup (P1.map leafD), .tup (P2.map leafD), .tup (S.map stD), loss]] st) Q := by
  obtain ⟨g1, g2, g3⟩ := G
  rw [List.length_append] at hl
  walk_at "run"
  walk_at "ml"
  refine z_addT (by simp; omega) ?_
  rw [← List.map_append]
  generalize hL : P1 ++ P2 = Ls at g1 g2 g3
  have hLl : Ls.length ≤ 20 := by rw [← hL, List.length_append]; exact hl
  walk_at "ml"
  try refine y_sd (by rw [List.length_map]; omega) ?_
  refine x_map (fun d => match d with | .tup [_, x, y] => .tup [x, y] | _ => .non) noWatch (fun x hx => ?_) ?_
  · obtain ⟨z, _, rfl⟩ := List.mem_map.mp hx
    walk_at "ml"
    exact ⟨rfl, rfl⟩
  have e0 : ((Ls.map leafD).map fun d => match d with | .tup [_, x, y] => D.tup [x, y] | _ => D.non) = (F.take (Ls.length + 0)).map sD := by
    rw [Nat.add_zero, g2, List.map_map, List.map_map]
    rfl
  rw [e0]
  walk_at "ml"
  refine x_loop (fun i e s => i ≤ S.length ∧ ∃ o2, e = [some (.tup [.tup (P1.map leafD), .tup (P2.map leafD), .tup (S.map stD), loss]), some (.ref st.length), o2, none] ∧
    s = st ++ [.lst ((F.take (Ls.length + i)).map sD)]) ?_ (fun _ _ _ _ => noWatch) ?_ ?_
  · exact ⟨Nat.zero_le _, _, rfl, rfl⟩
  · rintro i x e s hx ⟨hi, o2, rfl, rfl⟩
    have hs := one_0 (st := st) (x := .lst ((F.take (Ls.length + i)).map sD))
    rw [List.getElem?_map] at hx
    obtain ⟨q, hq, rfl⟩ := Option.map_eq_some_iff.mp hx
    obtain ⟨r, hr, hst⟩ := g3 i q hq
    have hil := (List.getElem?_eq_some_iff.mp hq).1
    walk_at "ml"
    refine lstep_ok hst hs ?_
    walk_at "ml"
    refine z_app hs (by rw [List.length_map, List.length_take]; omega) rfl ?_
    walk_at "ml"
    refine ⟨by omega, _, rfl, ?_⟩
    rw [one_s, ← Nat.add_assoc, take_last hr, List.map_append]
    rfl
  · rintro e s ⟨hi, o2, rfl, rfl⟩
    rw [List.length_map, ← g1, List.take_length]
    walk_at "ml"
    exact k
/-! ### the store around the pool -/
def Fit (z : PySem.Str) (F : List Sh) (a b : Int) : Prop := okI F a ∧ okI F b ∧ (((z = "add" ∨ z = "sub" ∨ z = "times") ∧ sh F a = sh F b) ∨ (z = "product" ∧ (sh F a).2 = (sh F b).1) ∨ (z = "pick" ∧ (sh F b).2 = 1))
theorem Fit.step {z : PySem.Str} {F : List Sh} {a b : Int} (h : Fit z F a b) : ∃ r, Step F z [a, b] [] r := by
  obtain ⟨ha, hb, ⟨hk, e⟩ | ⟨rfl, e⟩ | ⟨rfl, e⟩⟩ := h
  · exact ⟨_, .same z a b hk ha hb e⟩
  · exact ⟨_, .prod a b ha hb e⟩
  · exact ⟨_, .pick a b ha hb e⟩
theorem fits_ok {z : PySem.Str} {F : List Sh} {a b : Int} {st : Sto} {f : Nat} {Q : D → Sto → Prop} (hz : z = "add" ∨ z = "sub" ∨ z = "times" ∨ z = "product" ∨ z = "pick") (ha : okI F a) (hb : okI F b) (hf : st[f]? = some (.lst (F.map sD)))
    (k : ∀ v : Bool, (v = true → Fit z F a b) → Q (.bl v) st) : wp (m__law_fits [.str z, .ref f, .int a, .int b] st) Q := by
  have ha' := sh_at ha
  have hb' := sh_at hb
  rcases hz with rfl | rfl | rfl | rfl | rfl
  · walk_at "run"
    walk_at "ml"
    exact k _ fun h => ⟨ha, hb, .inl ⟨.inl rfl, by have h := of_decide_eq_true h; simp at h; exact Prod.ext h.1 h.2⟩⟩
  · walk_at "run"
    walk_at "ml"
    exact k _ fun h => ⟨ha, hb, .inl ⟨.inr (.inl rfl), by have h := of_decide_eq_true h; simp at h; exact Prod.ext h.1 h.2⟩⟩
  · walk_at "run"
    walk_at "ml"
    exact k _ fun h => ⟨ha, hb, .inl ⟨.inr (.inr rfl), by have h := of_decide_eq_true h; simp at h; exact Prod.ext h.1 h.2⟩⟩
  · walk_at "run"
    walk_at "ml"
    exact k _ fun h => ⟨ha, hb, .inr (.inl ⟨rfl, by simpa using h⟩)⟩
  · walk_at "run"
    walk_at "ml"
    exact k _ fun h => ⟨ha, hb, .inr (.inr ⟨rfl, by simpa using h⟩)⟩

theorem step_ok {st : Sto} {n f : Nat} {ns : List Int} {F : List Sh} {own lv : Int} {Q : D → Sto → Prop} (P : PoolE ns st n) (hf : st[f]? = some (.lst (F.map sD))) (hnf : f ≠ n) (hF : 1 ≤ F.length ∧ F.length ≤ 40) (ho : 0 ≤ own ∧ own ≤ lv ∧ lv ≤ (F.length : Nat))
    (k : ∀ kd ops nums r st', Step F kd ops nums r → PoolE ns st' n → Kp n st st' → Q (.tup [.str kd, .tup (ops.map D.int), .tup (nums.map D.int)]) st') : wp (m__law_step [.ref n, .ref f, .int own, .int lv] st) Q := by
  have hlen : (F.map sD).length = F.length := List.length_map _
  have tail2 : ∀ (kd : PySem.Str) (K o7 o8 o9 o10 o11 : Option D) (s : Sto), (kd = "turn" ∨ kd = "positive" ∨ kd = "total" ∨ kd = "stretch") → PoolE ns s n → Kp n st s →
      wp (t__law_step_5 [some (.ref n), some (.ref f), some (.int own), some (.int lv), K, some (.str kd), some (.int ((F.map sD).length : Nat)), o7, o8, o9, o10, o11, none, none] s) (runK Q) := by
    intro kd K o7 o8 o9 o10 o11 s hk P1 q1
    walk_at "ml"
    refine draw P1 (by split <;> omega) (by split <;> omega) fun v s2 v0 v1 P2 o2 => ?_
    have hv : okI F ((F.map sD).length - 1 - v) := by
      revert v1
      split <;> (intro v1; constructor <;> omega)
    have q2 := q1.oth o2
    rcases hk with rfl | rfl | rfl | rfl
    · walk_at "ml"
      exact k _ [_] [] _ _ (.turn _ hv) P2 q2
    · walk_at "ml"
      exact k _ [_] [] _ _ (.keep _ _ [] (.inl rfl) (.inl ⟨rfl, rfl⟩) hv) P2 q2
    · walk_at "ml"
      exact k _ [_] [] _ _ (.total _ hv) P2 q2
    · walk_at "ml"
      refine draw P2 (by decide) (by decide) fun v2 s3 v20 v21 P3 o3 => ?_
      walk_at "ml"
      refine pick P3 (by simp) (by simp) fun x s4 hx P4 o4 => ?_
      obtain ⟨c, rfl, hcr⟩ : ∃ c, x = .int c ∧ -1000 ≤ c ∧ c ≤ 1000 := by
        simp only [List.mem_cons, List.not_mem_nil, or_false] at hx
        rcases hx with rfl | rfl | rfl | rfl | rfl | rfl <;> exact ⟨_, rfl, by omega, by omega⟩
      walk_at "ml"
      exact k _ [_] [c] _ _ (.keep _ _ [c] (.inr rfl) (.inr ⟨c, rfl, rfl, hcr⟩) hv) P4 ((q2.oth o3).oth o4)
  have tail1 : ∀ (kd : PySem.Str) (K o7 o8 o9 o10 : Option D) (s : Sto), (kd = "turn" ∨ kd = "positive" ∨ kd = "total" ∨ kd = "stretch" ∨ kd = "spread") → PoolE ns s n → Kp n st s →
      wp (t__law_step_4 [some (.ref n), some (.ref f), some (.int own), some (.int lv), K, some (.str kd), some (.int ((F.map sD).length : Nat)), o7, o8, o9, o10, none, none, none] s) (runK Q) := by
    intro kd K o7 o8 o9 o10 s hk P1 q1
    have hfs := q1.2 f _ hnf hf
    rcases hk with rfl | rfl | rfl | rfl | rfl
    · repeat (first | with_reducible refine tail2 _ _ _ _ _ _ _ _ (.inl rfl) P1 q1 | walk_at "ml1")
    · repeat (first | with_reducible refine tail2 _ _ _ _ _ _ _ _ (.inr (.inl rfl)) P1 q1 | walk_at "ml1")
    · repeat (first | with_reducible refine tail2 _ _ _ _ _ _ _ _ (.inr (.inr (.inl rfl))) P1 q1 | walk_at "ml1")
    · repeat (first | with_reducible refine tail2 _ _ _ _ _ _ _ _ (.inr (.inr (.inr rfl))) P1 q1 | walk_at "ml1")
    · walk_at "ml"
      try refine y_sd (by rw [range_len]; omega) ?_
      refine x_comp (fun i a s2 => s2 = s ∧ ∃ us : List Int, a = us.map D.int ∧ us.length ≤ i ∧ ∀ u, u ∈ us → okI F u ∧ sh F u = (1, 1)) ⟨rfl, [], rfl, Nat.le_refl _, fun u h => (by cases h)⟩ (fun _ _ _ _ => noWatch) ?_ ?_
      · rintro i x a s2 hx ⟨rfl, us, rfl, hul, huv⟩
        obtain ⟨hi, rfl⟩ := range_at hx
        have hk : okI F (0 + (i : Int)) := by constructor <;> omega
        have hat := sh_at hk
        walk_at "ml"
        refine y_d (fun h => ?_) (fun h => ?_)
        · walk_at "ml"
          refine ⟨rfl, us ++ [0 + (i : Int)], by simp, by simp; omega, fun u hu => ?_⟩
          rcases List.mem_append.mp hu with hu | hu
          · exact huv u hu
          · rw [List.mem_singleton.mp hu]
            simp at h
            exact ⟨hk, Prod.ext (by simpa using h.1) (by simpa using h.2)⟩
        · exact ⟨rfl, us, rfl, by omega, huv⟩
      · rintro a s2 ⟨rfl, us, rfl, hul, huv⟩
        rw [range_len] at hul
        walk_at "ml"
        refine y_d (fun h => ?_) (fun h => ?_)
        · walk_at "ml"
          refine pick P1 (by omega) (by rw [List.length_map]; rw [hlen] at hul; omega) fun x s4 hx P4 o4 => ?_
          obtain ⟨u, hu, rfl⟩ := List.mem_map.mp hx
          obtain ⟨hu1, hu2⟩ := huv u hu
          walk_at "ml"
          refine draw P4 (by decide) (by decide) fun v2 s5 v20 v21 P5 o5 => ?_
          walk_at "ml"
          refine draw P5 (by decide) (by decide) fun v3 s6 v30 v31 P6 o6 => ?_
          walk_at "ml"
          exact k _ [u] [1 + v2, 1 + v3] _ _ (.spread u _ _ hu1 hu2 ⟨by omega, by omega⟩ ⟨by omega, by omega⟩) P6 (((q1.oth o4).oth o5).oth o6)
        · repeat (first | with_reducible refine tail2 _ _ _ _ _ _ _ _ (.inr (.inr (.inl rfl))) P1 q1 | walk_at "ml1")
  walk_at "run"
  walk_at "ml"
  refine pick P (by decide) (by decide) fun kd s1 hk P1 o1 => ?_
  have q1 : Kp n st s1 := Kp.refl.oth o1
  have hfs1 := q1.2 f _ hnf hf
  obtain ⟨z, rfl, hz⟩ : ∃ z, kd = .str z ∧ ((z = "add" ∨ z = "sub" ∨ z = "times" ∨ z = "product" ∨ z = "pick") ∨ (z = "turn" ∨ z = "positive" ∨ z = "total" ∨ z = "stretch" ∨ z = "spread")) := by
    simp only [List.mem_cons, List.not_mem_nil, or_false] at hk
    rcases hk with rfl | rfl | rfl | rfl | rfl | rfl | rfl | rfl | rfl | rfl | rfl <;> exact ⟨_, rfl, by simp⟩
  rcases hz with hz | hz
  · have hok : PyData.strOk z = true := by rcases hz with rfl | rfl | rfl | rfl | rfl <;> decide +kernel
    have hmem : z ∈ (["add", "sub", "times", "product", "pick"] : List PySem.Str) := by rcases hz with rfl | rfl | rfl | rfl | rfl <;> simp
    walk_at "ml"
    have hp1 := q1.1
    have hfl := at_lt hfs1
    have hnl := P1.lt
    have hpn : s1.length ≠ n := by omega
    have body : ∀ (low high : Int) (i : Nat) (o8 o9 o10 : Option D) (s : Sto) (ps : List Sh) (QS : Fl → Sto → Prop), 0 ≤ low → low ≤ 40 → 0 ≤ high → high ≤ (F.length : Nat) → i < F.length → ps.length ≤ i * 40 → (∀ x, x ∈ ps → Fit z F x.1 x.2) → PoolE ns s n → Kp n st s → s[s1.length]? = some (.lst (ps.map sD)) →
        (∀ (ps' : List Sh) (s' : Sto), ps'.length ≤ (i + 1) * 40 → (∀ x, x ∈ ps' → Fit z F x.1 x.2) → PoolE ns s' n → Kp n st s' → s'[s1.length]? = some (.lst (ps'.map sD)) → QS (.nx [some (.ref n), some (.ref f), some (.int own), some (.int lv), o8, some (.str z), some (.int ((F.map sD).length : Nat)), some (.ref s1.length), some (.int (0 + (i : Int))), some (.int low), some (.int high), none, none, none]) s') →
        wp (u0__law_step_2 [some (.ref n), some (.ref f), some (.int own), some (.int lv), o8, some (.str z), some (.int ((F.map sD).length : Nat)), some (.ref s1.length), some (.int (0 + (i : Int))), some (.int low), some (.int high), none, none, none] s) QS := by
      intro low high i o8 o9 o10 s ps QS l0 l1 h0 h1 hi hpl hpf P2 q2 hs kk
      have hfs2 := q2.2 f _ hnf hf
      have hka : okI F (0 + (i : Int)) := by constructor <;> omega
      walk_at "ml"
      try refine y_sd (by rw [range_len]; omega) ?_
      refine x_comp (fun j a s2 => s2 = s ∧ ∃ us : List Sh, a = us.map sD ∧ us.length ≤ j ∧ ∀ x, x ∈ us → Fit z F x.1 x.2) ⟨rfl, [], rfl, Nat.le_refl _, fun u h => (by cases h)⟩ (fun _ _ _ _ => noWatch) ?_ ?_
      · rintro j x a s2 hx ⟨rfl, us, rfl, hul, huv⟩
        obtain ⟨hj, rfl⟩ := range_at hx
        have hkb : okI F (low + (j : Int)) := by constructor <;> omega
        walk_at "ml"
        refine fits_ok hz hka hkb hfs2 fun v hv => ?_
        walk_at "ml"
        cases v with
        | true =>
          walk_at "ml"
          refine ⟨rfl, us ++ [(0 + (i : Int), low + (j : Int))], by simp, by simp; omega, fun u hu => ?_⟩
          rcases List.mem_append.mp hu with hu | hu
          · exact huv u hu
          · rw [List.mem_singleton.mp hu]
            exact hv rfl
        | false =>
          walk_at "ml"
          exact ⟨rfl, us, rfl, by omega, huv⟩
      · rintro a s2 ⟨rfl, us, rfl, hul, huv⟩
        rw [range_len] at hul
        walk_at "ml"
        refine z_ext hs rfl (by rw [List.length_map, List.length_map]; omega) rfl ?_
        walk_at "ml"
        refine kk (ps ++ us) _ (by rw [List.length_append]; omega) (fun x hx => ?_) (P2.set hpn) (q2.set hp1) (by rw [set_at hs, List.map_append])
        rcases List.mem_append.mp hx with hx | hx
        · exact hpf x hx
        · exact huv x hx
    refine x_loop (fun i e s => i ≤ F.length ∧ ∃ (ps : List Sh) (o8 o9 o10 K : Option D), e = [some (.ref n), some (.ref f), some (.int own), some (.int lv), K, some (.str z), some (.int ((F.map sD).length : Nat)), some (.ref s1.length), o8, o9, o10, none, none, none] ∧
      ps.length ≤ i * 40 ∧ (∀ x, x ∈ ps → Fit z F x.1 x.2) ∧ PoolE ns s n ∧ Kp n st s ∧ s[s1.length]? = some (.lst (ps.map sD))) ?_ (fun _ _ _ _ => noWatch) ?_ ?_
    · exact ⟨Nat.zero_le _, [], _, _, _, _, rfl, Nat.le_refl _, fun x h => (by cases h), P1.app, q1.app, at_new⟩
    · rintro i x e s hx ⟨hi, ps, o8, o9, o10, K, rfl, hpl, hpf, P2, q2, hs⟩
      obtain ⟨hi2, rfl⟩ := range_at hx
      rw [hlen, Int.toNat_natCast] at hi2
      by_cases hzp : z = "pick"
      · have hb : (z == ("pick" : PySem.Str)) = true := by simpa using hzp
        walk_at "ml"
        refine y_tb hb ?_
        walk_at "ml"
        refine y_tb hb ?_
        repeat (first | with_reducible refine body _ _ i _ none none s ps _ ?_ ?_ ?_ ?_ hi2 hpl hpf P2 q2 hs ?_ | walk_at "ml1")
        · omega
        · omega
        · omega
        · omega
        · intro ps' s' h1 h2 h3 h4 h5
          walk_at "ml"
          exact ⟨by omega, ps', _, _, _, _, rfl, h1, h2, h3, h4, h5⟩
      · have hb : (z == ("pick" : PySem.Str)) = false := by simpa using hzp
        walk_at "ml"
        refine y_fb hb ?_
        walk_at "ml"
        refine y_fb hb ?_
        repeat (first | with_reducible refine body _ _ i _ none none s ps _ ?_ ?_ ?_ ?_ hi2 hpl hpf P2 q2 hs ?_ | walk_at "ml1")
        · omega
        · omega
        · omega
        · omega
        · intro ps' s' h1 h2 h3 h4 h5
          walk_at "ml"
          exact ⟨by omega, ps', _, _, _, _, rfl, h1, h2, h3, h4, h5⟩
    · rintro e s ⟨hi, ps, o8, o9, o10, K, rfl, hpl, hpf, P2, q2, hs⟩
      rw [range_len, hlen, Int.toNat_natCast] at hpl
      walk_at "ml"
      refine y_d (fun h => ?_) (fun h => ?_)
      · rw [List.length_map] at h
        walk_at "ml"
        refine z_slR hs ?_
        rw [List.length_map, cut_lo (by omega), ← List.map_drop]
        walk_at "ml"
        refine pick P2 (by simp only [List.length_map, List.length_drop]; omega) (by simp only [List.length_map, List.length_drop]; omega) fun x s4 hx P4 o4 => ?_
        obtain ⟨u, hu, rfl⟩ := List.mem_map.mp hx
        obtain ⟨r, hr⟩ := (hpf u (List.mem_of_mem_drop hu)).step
        walk_at "ml"
        exact k _ [u.1, u.2] [] _ _ hr P4 (q2.oth o4)
      · repeat (first | with_reducible refine tail1 _ _ _ _ _ _ _ (.inr (.inl rfl)) P2 q2 | walk_at "ml1")
  · rcases hz with rfl | rfl | rfl | rfl | rfl
    · repeat (first | with_reducible refine tail1 _ _ _ _ _ _ _ (.inl rfl) P1 q1 | walk_at "ml1")
    · repeat (first | with_reducible refine tail1 _ _ _ _ _ _ _ (.inr (.inl rfl)) P1 q1 | walk_at "ml1")
    · repeat (first | with_reducible refine tail1 _ _ _ _ _ _ _ (.inr (.inr (.inl rfl))) P1 q1 | walk_at "ml1")
    · repeat (first | with_reducible refine tail1 _ _ _ _ _ _ _ (.inr (.inr (.inr (.inl rfl)))) P1 q1 | walk_at "ml1")
    · repeat (first | with_reducible refine tail1 _ _ _ _ _ _ _ (.inr (.inr (.inr (.inr rfl)))) P1 q1 | walk_at "ml1")

abbrev LETS : PySem.Str := "abcdefghijklmnopqrstuvwxyz"
theorem lets_len : LETS.cps.toList.length = 26 := by decide +kernel
theorem lets_sz : LETS.length ≤ 16777216 := by decide +kernel
def NameAt (i : Int) (z : PySem.Str) : Prop := ∃ c y, c ∈ LETS.cps.toList ∧ (y = ("" : PySem.Str) ∨ y = "z" ∨ y = "q1" ∨ y = "loss" ∨ y = "a0b") ∧ z = (⟨#[c]⟩ : PySem.Str) ++ Str.ofString (toString i) ++ y
theorem z_strE {st : Sto} {QE : D → Sto → Prop} {i : Int} (h0 : 0 ≤ i) (h1 : i < 64) (h : (Str.ofString (toString i)).length ≤ 3 → QE (.str (Str.ofString (toString i))) st) : wp (fStr [.int i] st) QE := by
  obtain ⟨j, rfl⟩ : ∃ j : Nat, i = (j : Int) := ⟨i.toNat, by omega⟩
  have e := small_str j (by omega)
  refine ⟨.str (Str.ofString (toString (j : Int))), st, ?_, h e.2⟩
  show (if ((j : Int)).natAbs.log2 < 1920 then _ else none) = _
  rw [Int.natAbs_natCast, if_pos e.1]
theorem name_ok {st : Sto} {n : Nat} {ns : List Int} {i : Int} {Q : D → Sto → Prop} (P : PoolE ns st n) (h0 : 0 ≤ i) (h1 : i < 64) (k : ∀ z st', NameAt i z → PoolE ns st' n → Oth n st st' → Q (.str z) st') : wp (m__law_name [.ref n, .int i] st) Q := by
  walk_at "run"
  walk_at "ml"
  refine draw P (by decide) (by decide) fun v st1 v0 v1 P1 o1 => ?_
  have hv : v = 0 ∨ v = 1 ∨ v = 2 ∨ v = 3 ∨ v = 4 := by omega
  have hs : ∀ z : PySem.Str, z = "" ∨ z = "z" ∨ z = "q1" ∨ z = "loss" ∨ z = "a0b" → z.length ≤ 8 := by
    rintro z (rfl | rfl | rfl | rfl | rfl) <;> decide +kernel
  have fin : ∀ (z : PySem.Str) (QQ : D → Sto → Prop), z.length ≤ 8 → (z = "" ∨ z = "z" ∨ z = "q1" ∨ z = "loss" ∨ z = "a0b") → (∀ z st', NameAt i z → PoolE ns st' n → Oth n st st' → QQ (.str z) st') → wp ((E2 addD (E2 addD (E2 ixD (Ec (.str "abcdefghijklmnopqrstuvwxyz")) (EC (arN 2 m__law_draw) (Acons (Ev 0) (Acons (Ec (.int 26)) Anil)))) (EC fStr (Acons (Ev 1) Anil))) (Ev 2)) [some (.ref n), some (.int i), some (.str z)] st1) QQ := by
    intro z QQ hz hz5 kk
    walk_at "ml"
    refine draw P1 (by decide) (by decide) fun v2 st2 v20 v21 P2 o2 => ?_
    obtain ⟨c, hc, hcl⟩ := str_at (z := LETS) v20 (by rw [lets_len]; omega)
    refine z_ixS lets_sz hc ?_
    walk_at "ml"
    refine z_strE h0 h1 fun hy => ?_
    refine z_addS (by have : (⟨#[c]⟩ : PySem.Str).length = 1 := rfl; omega) ?_
    walk_at "ml"
    refine z_addS (by rw [PySem.Str.length_append]; have : (⟨#[c]⟩ : PySem.Str).length = 1 := rfl; omega) ?_
    exact kk _ _ ⟨c, z, hcl, hz5, rfl⟩ P2 (o1.trans o2)
  rcases hv with rfl | rfl | rfl | rfl | rfl
  all_goals
    repeat (first | with_reducible refine fin _ _ (hs _ (by simp)) (by simp) ?_ | walk_at "ml1")
    intro z2 s2 hz2 P2 q2
    walk_at "ml"
    exact k z2 s2 hz2 P2 q2
def Sz (y : Lf) : Prop := (1 ≤ y.2.1 ∧ y.2.1 ≤ 6) ∧ 1 ≤ y.2.2 ∧ y.2.2 ≤ 6
def LfOk (i : Nat) (Ls : List Lf) : Prop := ∀ (j : Nat) (y : Lf), Ls[j]? = some y → Sz y ∧ NameAt ((i + j : Nat) : Int) y.1
def StOk (i : Nat) (S : List St) : Prop := ∀ (j : Nat) (s : St), S[j]? = some s → NameAt ((i + j : Nat) : Int) s.1
theorem LfOk.snoc {i : Nat} {Ls : List Lf} {y : Lf} (h : LfOk i Ls) (h1 : Sz y) (h2 : NameAt ((i + Ls.length : Nat) : Int) y.1) : LfOk i (Ls ++ [y]) := fun j x hx => by
  by_cases hj : j < Ls.length
  · rw [List.getElem?_append_left hj] at hx; exact h j x hx
  · rw [List.getElem?_append_right (by omega)] at hx
    have : j = Ls.length := by
      have := (List.getElem?_eq_some_iff.mp hx).1
      simp at this; omega
    subst this
    rw [Nat.sub_self] at hx
    cases hx
    exact ⟨h1, h2⟩
theorem StOk.snoc {i : Nat} {S : List St} {s : St} (h : StOk i S) (h2 : NameAt ((i + S.length : Nat) : Int) s.1) : StOk i (S ++ [s]) := fun j x hx => by
  by_cases hj : j < S.length
  · rw [List.getElem?_append_left hj] at hx; exact h j x hx
  · rw [List.getElem?_append_right (by omega)] at hx
    have : j = S.length := by
      have := (List.getElem?_eq_some_iff.mp hx).1
      simp at this; omega
    subst this
    rw [Nat.sub_self] at hx
    cases hx
    exact h2
structure ProgOk (P1 P2 : List Lf) (F : List Sh) (S : List St) (loss : Int) : Prop where
  good : Good (P1 ++ P2) F S
  p1 : 1 ≤ P1.length ∧ P1.length ≤ 6
  p2 : P2.length ≤ 4
  leaf : LfOk 0 (P1 ++ P2)
  step : StOk (P1 ++ P2).length S
  all : F.length ≤ 23
  li : okI F loss
  ls : sh F loss = (1, 1)
theorem program_ok {st : Sto} {n : Nat} {ns : List Int} {most : Int} {Q : D → Sto → Prop} (P : PoolE ns st n) (hm : 1 ≤ most ∧ most ≤ 22)
    (k : ∀ (P1 P2 : List Lf) (F : List Sh) (S : List St) (loss : Int) st', ProgOk P1 P2 F S loss → PoolE ns st' n → Q (.tup [.tup (P1.map leafD), .tup (P2.map leafD), .tup (S.map stD), .int loss]) st') :
    wp (m__law_program [.ref n, .int most] st) Q := by
  walk_at "run"
  walk_at "ml"
  refine draw P (by decide) (by decide) fun x1 st1 x10 x11 P1 o1 => ?_
  walk_at "ml"
  refine draw P1 (by decide) (by decide) fun x2 st2 x20 x21 P2 o2 => ?_
  walk_at "ml"
  have sz : ∀ x, x ∈ [D.int 1, D.int (1 + x1), D.int (1 + x2)] → ∃ c, x = .int c ∧ 1 ≤ c ∧ c ≤ 6 := by
    intro x hx
    simp only [List.mem_cons, List.not_mem_nil, or_false] at hx
    rcases hx with rfl | rfl | rfl <;> exact ⟨_, rfl, by omega, by omega⟩
  have main : ∀ (own : Int) (s : Sto), 1 ≤ own → own ≤ 6 → PoolE ns s n → wp (t__law_program_3 [some (.ref n), some (.int most), some (.lst [.int 1, .int (1 + x1), .int (1 + x2)]), some (.int own), none, none, none, none, none, none, none, none, none, none, none, none] s) (runK Q) := by
    intro own s w0 w1 P3
    walk_at "ml"
    refine draw P3 (by decide) (by decide) fun v s1 v0 v1 P4 o4 => ?_
    have hn1 := P4.lt
    generalize hlv : own + v = lv
    walk_at "ml"
    rw [hlv]
    have hV : s1.length ≠ n := by omega
    refine x_loop (fun i e s => i ≤ lv.toNat ∧ ∃ (Ls : List Lf) (o6 o7 : Option D), e = [some (.ref n), some (.int most), some (.lst [.int 1, .int (1 + x1), .int (1 + x2)]), some (.int own), some (.int lv), some (.ref s1.length), o6, o7, none, none, none, none, none, none, none, none] ∧ Ls.length = i ∧ LfOk 0 Ls ∧ PoolE ns s n ∧ s[s1.length]? = some (.lst (Ls.map leafD))) ?_ (fun _ _ _ _ => noWatch) ?_ ?_
    · exact ⟨Nat.zero_le _, [], _, _, rfl, rfl, (fun j y h => by cases h), P4.app, at_new⟩
    · rintro i x e s hx ⟨hi, Ls, o6, o7, rfl, hL, hLO, P5, hs⟩
      obtain ⟨hi2, rfl⟩ := range_at hx
      have h16 : (1 : Int) ≤ 1 ∧ (1 : Int) ≤ 6 := by decide
      have fin : ∀ (c : Int) (s : Sto) (QS : Fl → Sto → Prop), (1 ≤ c ∧ c ≤ 6) → PoolE ns s n → s[s1.length]? = some (.lst (Ls.map leafD)) → (∀ (y : Lf) s', Sz y → NameAt ((0 + Ls.length : Nat) : Int) y.1 → PoolE ns s' n → s'[s1.length]? = some (.lst ((Ls ++ [y]).map leafD)) → QS (.nx [some (.ref n), some (.int most), some (.lst [.int 1, .int (1 + x1), .int (1 + x2)]), some (.int own), some (.int lv), some (.ref s1.length), some (.int (0 + (i : Int))), some (.int c), none, none, none, none, none, none, none, none]) s') →
          wp (u0__law_program_2 [some (.ref n), some (.int most), some (.lst [.int 1, .int (1 + x1), .int (1 + x2)]), some (.int own), some (.int lv), some (.ref s1.length), some (.int (0 + (i : Int))), some (.int c), none, none, none, none, none, none, none, none] s) QS := by
        intro c s QS hcc P6 hs6 kk
        walk_at "ml"
        refine name_ok P6 (by omega) (by omega) fun z s7 hz7 P7 o7 => ?_
        have hs7 := (o7.2 _ hV).trans hs6
        walk_at "ml"
        refine pick P7 (by simp) (by simp) fun x s8 hx P8 o8 => ?_
        obtain ⟨c2, rfl, hc2⟩ := sz x hx
        have hs8 := (o8.2 _ hV).trans hs7
        walk_at "ml"
        refine z_app hs8 (by rw [List.length_map]; omega) rfl ?_
        walk_at "ml"
        exact kk (z, c2, c) _ ⟨hc2, hcc⟩ (by rw [show ((0 + Ls.length : Nat) : Int) = 0 + (i : Int) by omega]; exact hz7) (P8.set hV) (by rw [set_at hs8, List.map_append]; rfl)
      walk_at "ml"
      refine pick P5 (by simp) (by simp) fun x s2 hx P6 o6 => ?_
      obtain ⟨c, rfl, hcc⟩ := sz x hx
      have hs2 := (o6.2 _ hV).trans hs
      walk_at "ml"
      refine y_d (fun h => ?_) (fun h => ?_)
      · walk_at "ml"
        refine draw P6 (by decide) (by decide) fun v3 s3 v30 v31 P7 o7 => ?_
        have hs3 := (o7.2 _ hV).trans hs2
        walk_at "ml"
        refine y_eq (fun h => ?_) (fun h => ?_)
        · repeat (first | with_reducible refine fin _ _ _ h16 P7 hs3 ?_ | walk_at "ml1")
          intro y s' hy1 hy2 P8 h8
          walk_at "ml"
          exact ⟨by omega, _, _, _, rfl, by simp [hL], hLO.snoc hy1 hy2, P8, h8⟩
        · repeat (first | with_reducible refine fin _ _ _ hcc P7 hs3 ?_ | walk_at "ml1")
          intro y s' hy1 hy2 P8 h8
          walk_at "ml"
          exact ⟨by omega, _, _, _, rfl, by simp [hL], hLO.snoc hy1 hy2, P8, h8⟩
      · repeat (first | with_reducible refine fin _ _ _ hcc P6 hs2 ?_ | walk_at "ml1")
        intro y s' hy1 hy2 P8 h8
        walk_at "ml"
        exact ⟨by omega, _, _, _, rfl, by simp [hL], hLO.snoc hy1 hy2, P8, h8⟩
    · rintro e s2 ⟨hi, Ls, o6, o7, rfl, hL, hLO, P5, hs⟩
      rw [range_len] at hL
      walk_at "ml"
      try refine y_sd (by rw [List.length_map]; omega) ?_
      have hwat : watchOk [(s1.length, Ls.map leafD)] s2 := by
        intro p hp
        have e : p = (s1.length, Ls.map leafD) := by simpa using hp
        subst e
        exact hs
      refine x_map (fun d => match d with | .tup [_, x, y] => .tup [x, y] | _ => .non) hwat (fun x hx => ?_) ?_
      · obtain ⟨z, _, rfl⟩ := List.mem_map.mp hx
        walk_at "ml"
        exact ⟨rfl, rfl⟩
      have e0 : ((Ls.map leafD).map fun d => match d with | .tup [_, x, y] => D.tup [x, y] | _ => D.non) = (Ls.map (·.2)).map sD := by
        rw [List.map_map, List.map_map]
        rfl
      rw [e0]
      have hsl := at_lt hs
      have hnl := P5.lt
      have g1 : (s2 ++ [O.lst ((Ls.map (·.2)).map sD)])[s1.length]? = some (.lst (Ls.map leafD)) := at_app hs
      have g2 : (s2 ++ [O.lst ((Ls.map (·.2)).map sD)])[s2.length]? = some (.lst ((Ls.map (·.2)).map sD)) := at_new
      have P6 : PoolE ns (s2 ++ [O.lst ((Ls.map (·.2)).map sD)]) n := P5.app
      have hlen : (s2 ++ [O.lst ((Ls.map (·.2)).map sD)]).length = s2.length + 1 := by simp
      generalize s2 ++ [O.lst ((Ls.map (·.2)).map sD)] = s3 at g1 g2 P6 hlen
      generalize s2.length = Fd at g2 hlen hsl hnl
      walk_at "ml"
      have g3 : (s3 ++ [O.lst []])[s1.length]? = some (.lst (Ls.map leafD)) := at_app g1
      have g4 : (s3 ++ [O.lst []])[Fd]? = some (.lst ((Ls.map (·.2)).map sD)) := at_app g2
      have g5 : (s3 ++ [O.lst []])[s3.length]? = some (.lst (([] : List St).map stD)) := at_new
      have P7 : PoolE ns (s3 ++ [O.lst []]) n := P6.app
      generalize s3 ++ [O.lst []] = s4 at g3 g4 g5 P7
      generalize s3.length = T at hlen g5
      generalize s1.length = V at *
      have nFn : Fd ≠ n := by omega
      have nTn : T ≠ n := by omega
      have nFT : Fd ≠ T := by omega
      have nVF : V ≠ Fd := by omega
      have nVT : V ≠ T := by omega
      refine draw P7 (by split <;> omega) (by split <;> omega) fun c s5 c0 c1 P8 o8 => ?_
      have hc : c ≤ 22 - lv := by
        revert c1
        split <;> (intro c1; omega)
      have g6 := (o8.2 _ hV).trans g3
      have g7 := (o8.2 _ nFn).trans g4
      have g8 := (o8.2 _ nTn).trans g5
      have final : ∀ (S : List St) (F : List Sh) (loss : Int) (o6 o7 o10 o11 o12 o13 : Option D) (s : Sto), Good Ls F S → F.length ≤ 23 → StOk Ls.length S → okI F loss → sh F loss = (1, 1) → PoolE ns s n → s[V]? = some (.lst (Ls.map leafD)) → s[T]? = some (.lst (S.map stD)) →
          wp (t__law_program_13 [some (.ref n), some (.int most), some (.lst [.int 1, .int (1 + x1), .int (1 + x2)]), some (.int own), some (.int lv), some (.ref V), o6, o7, some (.ref Fd), some (.ref T), o10, o11, o12, o13, some (.int loss), none] s) (runK Q) := by
        intro S F loss o6 o7 o10 o11 o12 o13 s G hF hSO hl1 hl2 PP a1 a2
        walk_at "ml"
        refine z_slR a1 ?_
        rw [cut_hi (by omega), ← List.map_take]
        walk_at "ml"
        refine z_slR a1 ?_
        rw [cut_lo (by omega), ← List.map_drop]
        walk_at "ml"
        exact k _ _ F S loss s ⟨by rw [List.take_append_drop]; exact G, by rw [List.length_take]; omega, by rw [List.length_drop]; omega, by rw [List.take_append_drop]; exact hLO, by rw [List.take_append_drop]; exact hSO, hF, hl1, hl2⟩ PP
      have last : ∀ (S : List St) (F : List Sh) (us : List Int) (o6 o7 o10 o11 o12 o14 : Option D) (s : Sto), Good Ls F S → F.length ≤ 23 → StOk Ls.length S → (∀ u, u ∈ us → okI F u ∧ sh F u = (1, 1)) → 0 < us.length → us.length ≤ 60 → PoolE ns s n → s[V]? = some (.lst (Ls.map leafD)) → s[T]? = some (.lst (S.map stD)) →
          wp (t__law_program_11 [some (.ref n), some (.int most), some (.lst [.int 1, .int (1 + x1), .int (1 + x2)]), some (.int own), some (.int lv), some (.ref V), o6, o7, some (.ref Fd), some (.ref T), o10, o11, o12, some (.lst (us.map D.int)), o14, none] s) (runK Q) := by
        intro S F us o6 o7 o10 o11 o12 o14 s G hF hSO hus u0 u1 PP a1 a2
        walk_at "ml"
        obtain ⟨u, hu, hum⟩ : ∃ u, us[us.length - 1]? = some u ∧ u ∈ us := ⟨_, List.getElem?_eq_getElem (by omega), List.getElem_mem _⟩
        refine z_ixL (d := .int u) (atI_get (by rw [List.length_map]; omega) (by rw [List.length_map, show ((us.length : Int) - 1).toNat = us.length - 1 by omega, List.getElem?_map, hu]; rfl)) ?_
        walk_at "ml"
        refine draw PP (by decide) (by decide) fun v3 s3 v30 v31 P9 o9 => ?_
        have b1 := (o9.2 _ hV).trans a1
        have b2 := (o9.2 _ nTn).trans a2
        walk_at "ml"
        refine y_eq (fun h => ?_) (fun h => ?_)
        · walk_at "ml"
          refine pick P9 (by rw [List.length_map]; omega) (by rw [List.length_map]; omega) fun x s4 hx P10 o10 => ?_
          have b3 := (o10.2 _ hV).trans b1
          have b4 := (o10.2 _ nTn).trans b2
          obtain ⟨u2, hu2, rfl⟩ := List.mem_map.mp hx
          have hu3 := (hus u2 hu2).1
          have hu4 := (hus u2 hu2).2
          repeat (first | with_reducible refine final S F _ _ _ _ _ _ _ _ G hF hSO hu3 hu4 P10 b3 b4 | walk_at "ml1")
        · have hu3 := (hus u hum).1
          have hu4 := (hus u hum).2
          repeat (first | with_reducible refine final S F _ _ _ _ _ _ _ _ G hF hSO hu3 hu4 P9 b1 b2 | walk_at "ml1")
      walk_at "ml"
      refine x_loop (fun i e s => i ≤ c.toNat ∧ ∃ (S : List St) (F : List Sh) (o6 o10 o11 o12 : Option D), e = [some (.ref n), some (.int most), some (.lst [.int 1, .int (1 + x1), .int (1 + x2)]), some (.int own), some (.int lv), some (.ref V), o6, o7, some (.ref Fd), some (.ref T), o10, o11, o12, none, none, none] ∧ S.length = i ∧ Good Ls F S ∧ StOk Ls.length S ∧ PoolE ns s n ∧
        s[V]? = some (.lst (Ls.map leafD)) ∧ s[Fd]? = some (.lst (F.map sD)) ∧ s[T]? = some (.lst (S.map stD))) ?_ (fun _ _ _ _ => noWatch) ?_ ?_
      · exact ⟨Nat.zero_le _, [], Ls.map (·.2), _, _, _, _, rfl, rfl, .new Ls, (fun j y h => by cases h), P8, g6, g7, g8⟩
      · rintro i x e s hx ⟨hi, S, F, o6, o10, o11, o12, rfl, hS, G, hSO, PP, a1, a2, a3⟩
        obtain ⟨hi2, rfl⟩ := range_at hx
        have hFl := G.1
        walk_at "ml"
        refine step_ok PP a2 nFn (by omega) (by omega) fun kd ops nums r s6 hst P9 q9 => ?_
        have b1 := q9.2 _ _ hV a1
        have b2 := q9.2 _ _ nFn a2
        have b3 := q9.2 _ _ nTn a3
        walk_at "ml"
        refine name_ok P9 (by omega) (by omega) fun z s7 hz7 P10 o10 => ?_
        have c1 := (o10.2 _ hV).trans b1
        have c2 := (o10.2 _ nFn).trans b2
        have c3 := (o10.2 _ nTn).trans b3
        walk_at "ml"
        refine z_app c3 (by rw [List.length_map]; omega) rfl ?_
        have d1 := at_ne (b := T) (x := O.lst (S.map stD ++ [D.tup [.str z, .str kd, .tup (ops.map D.int), .tup (nums.map D.int)]])) c1 (Ne.symm nVT)
        have d2 := at_ne (b := T) (x := O.lst (S.map stD ++ [D.tup [.str z, .str kd, .tup (ops.map D.int), .tup (nums.map D.int)]])) c2 (Ne.symm nFT)
        have d3 := set_at (x := O.lst (S.map stD ++ [D.tup [.str z, .str kd, .tup (ops.map D.int), .tup (nums.map D.int)]])) c3
        have P11 := P10.set (o := O.lst (S.map stD ++ [D.tup [.str z, .str kd, .tup (ops.map D.int), .tup (nums.map D.int)]])) nTn
        walk_at "ml"
        refine lstep_ok hst d2 ?_
        walk_at "ml"
        refine z_app d2 (by rw [List.length_map]; omega) rfl ?_
        walk_at "ml"
        refine ⟨by omega, S ++ [(z, kd, ops, nums)], F ++ [r], _, _, _, _, rfl, by simp [hS], G.snoc hst, hSO.snoc (by rw [show ((Ls.length + S.length : Nat) : Int) = lv + (0 + (i : Int)) by omega]; exact hz7), P11.set nFn, at_ne d1 (Ne.symm nVF), by rw [set_at d2, List.map_append]; rfl, ?_⟩
        rw [List.getElem?_set_ne nFT, d3, List.map_append]
        rfl
      · rintro e s ⟨hi, S, F, o6, o10, o11, o12, rfl, hS, G, hSO, PP, a1, a2, a3⟩
        rw [range_len] at hS
        have hFl := G.1
        have hFm : (F.map sD).length = F.length := List.length_map _
        walk_at "ml"
        try refine y_sd (by rw [range_len]; omega) ?_
        refine x_comp (fun i a s2 => s2 = s ∧ ∃ us : List Int, a = us.map D.int ∧ us.length ≤ i ∧ ∀ u, u ∈ us → okI F u ∧ sh F u = (1, 1)) ⟨rfl, [], rfl, Nat.le_refl _, fun _ h => nomatch h⟩ (fun _ _ _ _ => noWatch) ?_ ?_
        · rintro i x a s2 hx ⟨rfl, us, rfl, hul, hus⟩
          obtain ⟨hi, rfl⟩ := range_at hx
          have hk : okI F (0 + (i : Int)) := by constructor <;> omega
          have hat := sh_at hk
          walk_at "ml"
          refine y_d (fun h => ?_) (fun h => ?_)
          · walk_at "ml"
            refine ⟨rfl, us ++ [0 + (i : Int)], by simp, by simp; omega, fun u hu => ?_⟩
            rcases List.mem_append.mp hu with hu | hu
            · exact hus u hu
            · rw [List.mem_singleton.mp hu]
              refine ⟨hk, ?_⟩
              simp only [List.cons.injEq, and_true] at h
              exact Prod.ext h.1 h.2
          · exact ⟨rfl, us, rfl, by omega, hus⟩
        · rintro a s2 ⟨rfl, us, rfl, hul, hus⟩
          rw [range_len] at hul
          have add : ∀ (o6 o10 o11 o12 o13 : Option D) (s : Sto) (QS : Fl → Sto → Prop), PoolE ns s n → s[V]? = some (.lst (Ls.map leafD)) → s[Fd]? = some (.lst (F.map sD)) → s[T]? = some (.lst (S.map stD)) →
              (∀ (S : List St) (F : List Sh) (us : List Int) s, Good Ls F S → F.length ≤ 23 → StOk Ls.length S → (∀ u, u ∈ us → okI F u ∧ sh F u = (1, 1)) → 0 < us.length → us.length ≤ 60 → PoolE ns s n → s[V]? = some (.lst (Ls.map leafD)) → s[T]? = some (.lst (S.map stD)) → QS (.nx [some (.ref n), some (.int most), some (.lst [.int 1, .int (1 + x1), .int (1 + x2)]), some (.int own), some (.int lv), some (.ref V), o6, o7, some (.ref Fd), some (.ref T), o10, o11, o12, some (.lst (us.map D.int)), none, none]) s) →
              wp (i10__law_program [some (.ref n), some (.int most), some (.lst [.int 1, .int (1 + x1), .int (1 + x2)]), some (.int own), some (.int lv), some (.ref V), o6, o7, some (.ref Fd), some (.ref T), o10, o11, o12, o13, none, none] s) QS := by
            intro o6 o10 o11 o12 o13 s QS PP a1 a2 a3 kk
            walk_at "ml"
            refine name_ok PP (by omega) (by omega) fun z s7 hz7 P10 o10 => ?_
            have c1 := (o10.2 _ hV).trans a1
            have c2 := (o10.2 _ nFn).trans a2
            have c3 := (o10.2 _ nTn).trans a3
            walk_at "ml"
            refine z_app c3 (by rw [List.length_map]; omega) rfl ?_
            have d1 := at_ne (b := T) (x := O.lst (S.map stD ++ [D.tup [.str z, .str "total", .tup [.int (((F.map sD).length : Nat) - 1)], .tup []]])) c1 (Ne.symm nVT)
            have d2 := at_ne (b := T) (x := O.lst (S.map stD ++ [D.tup [.str z, .str "total", .tup [.int (((F.map sD).length : Nat) - 1)], .tup []]])) c2 (Ne.symm nFT)
            have d3 := set_at (x := O.lst (S.map stD ++ [D.tup [.str z, .str "total", .tup [.int (((F.map sD).length : Nat) - 1)], .tup []]])) c3
            have P11 := P10.set (o := O.lst (S.map stD ++ [D.tup [.str z, .str "total", .tup [.int (((F.map sD).length : Nat) - 1)], .tup []]])) nTn
            walk_at "ml"
            refine kk (S ++ [((z, "total", [(((F.map sD).length : Nat) : Int) - 1], []) : St)]) (F ++ [(1, 1)]) [(((F.map sD ++ [D.tup [.int 1, .int 1]]).length : Nat) : Int) - 1] _ (G.snoc (.total _ ⟨by omega, by omega⟩)) (by rw [List.length_append, List.length_singleton]; omega) (hSO.snoc (by rw [show ((Ls.length + S.length : Nat) : Int) = ((F.map sD).length : Nat) by omega]; exact hz7)) (fun u hu => by
              rw [List.mem_singleton.mp hu, List.length_append, List.length_map, List.length_singleton]
              refine ⟨⟨by omega, by rw [List.length_append, List.length_singleton]; omega⟩, ?_⟩
              unfold sh
              rw [show (((F.length + 1 : Nat) : Int) - 1).toNat = F.length by omega, List.getD_eq_getElem?_getD, List.getElem?_append_right (Nat.le_refl _), Nat.sub_self]
              rfl) (by simp) (by simp) (P11.set nFn) (at_ne d1 (Ne.symm nVF)) ?_
            rw [List.getElem?_set_ne nFT, d3, List.map_append]
            rfl
          walk_at "ml"
          refine y_eq (fun h => ?_) (fun h => ?_)
          · repeat (first | with_reducible refine add _ _ _ _ _ _ _ PP a1 a2 a3 ?_ | walk_at "ml1")
            intro S2 F2 us2 s3 k1 k2 k3 k4 k5 k6 k7 k8 k9
            repeat (first | with_reducible refine last S2 F2 us2 _ _ _ _ _ _ _ k1 k2 k3 k4 k5 k6 k7 k8 k9 | walk_at "ml1")
          · rw [List.length_map] at h
            walk_at "ml"
            refine draw PP (by decide) (by decide) fun v3 s3 v30 v31 P9 o9 => ?_
            have b1 := (o9.2 _ hV).trans a1
            have b2 := (o9.2 _ nFn).trans a2
            have b3 := (o9.2 _ nTn).trans a3
            walk_at "ml"
            refine y_d (fun h => ?_) (fun h => ?_)
            · repeat (first | with_reducible refine add _ _ _ _ _ _ _ P9 b1 b2 b3 ?_ | walk_at "ml1")
              intro S2 F2 us2 s3 k1 k2 k3 k4 k5 k6 k7 k8 k9
              repeat (first | with_reducible refine last S2 F2 us2 _ _ _ _ _ _ _ k1 k2 k3 k4 k5 k6 k7 k8 k9 | walk_at "ml1")
            · repeat (first | with_reducible refine last S F us _ _ _ _ _ _ _ G (by omega) hSO hus (by omega) (by omega) P9 b1 b3 | walk_at "ml1")
  refine draw P2 (by decide) (by decide) fun x3 st3 x30 x31 P3 o3 => ?_
  walk_at "ml"
  refine draw P3 (by decide) (by decide) fun x4 st4 x40 x41 P4 o4 => ?_
  walk_at "ml"
  refine y_eq (fun h => ?_) (fun h => ?_)
  · walk_at "ml"
    refine draw P4 (by decide) (by decide) fun x5 st5 x50 x51 P5 o5 => ?_
    repeat (first | with_reducible refine main _ _ ?_ ?_ P5 | walk_at "ml1")
    all_goals omega
  · repeat (first | with_reducible refine main _ _ ?_ ?_ P4 | walk_at "ml1")
    all_goals omega

/-! ### matrices and what is done with them -/
structure Mt where
  r : Nat
  c : Nat
  f : Nat → Nat → Int
abbrev Mt.d (m : Mt) : D := mx m.r m.c m.f
def inB (x : Int) : Prop := -10000000 < x ∧ x < 10000000
instance (x : Int) : Decidable (inB x) := by unfold inB; infer_instance
structure Mt.ok (m : Mt) : Prop where
  r0 : 0 < m.r
  r1 : m.r ≤ 6
  c0 : 0 < m.c
  c1 : m.c ≤ 6
  b : ∀ i j, i < m.r → j < m.c → -10000000 < m.f i j ∧ m.f i j < 10000000
inductive Kd | add | sub | times | product | turn | positive | gate | total | spread | stretch | scale | pick | place | fill
  deriving DecidableEq
abbrev Kd.s : Kd → PySem.Str
  | .add => "add" | .sub => "sub" | .times => "times" | .product => "product" | .turn => "turn" | .positive => "positive" | .gate => "gate"
  | .total => "total" | .spread => "spread" | .stretch => "stretch" | .scale => "scale" | .pick => "pick" | .place => "place" | .fill => "fill"
def Kd.n : Kd → Nat
  | .add => 2 | .sub => 2 | .times => 2 | .product => 2 | .turn => 1 | .positive => 1 | .gate => 2
  | .total => 1 | .spread => 1 | .stretch => 1 | .scale => 1 | .pick => 2 | .place => 2 | .fill => 0
def rowsOk (m : Mt) (n : Int) : Bool := (List.range m.r).all fun k => decide (0 ≤ m.f k 0 ∧ m.f k 0 < n)
def okB (r c : Nat) (f : Nat → Nat → Int) : Bool := (List.range r).all fun i => (List.range c).all fun j => decide (inB (f i j))
def raw : Kd → List Int → List Mt → Option Mt
  | .add, _, [a, b] => if a.r = b.r ∧ a.c = b.c then some ⟨a.r, a.c, fun i j => a.f i j + b.f i j⟩ else none
  | .sub, _, [a, b] => if a.r = b.r ∧ a.c = b.c then some ⟨a.r, a.c, fun i j => a.f i j - b.f i j⟩ else none
  | .times, _, [a, b] => if a.r = b.r ∧ a.c = b.c then some ⟨a.r, a.c, fun i j => a.f i j * b.f i j⟩ else none
  | .gate, _, [a, b] => if a.r = b.r ∧ a.c = b.c then some ⟨a.r, a.c, fun i j => if 0 < a.f i j then b.f i j else 0⟩ else none
  | .product, _, [a, b] => if a.c = b.r then some ⟨a.r, b.c, fun i j => sm a.c fun k => a.f i k * b.f k j⟩ else none
  | .turn, _, [a] => some ⟨a.c, a.r, fun i j => a.f j i⟩
  | .positive, _, [a] => some ⟨a.r, a.c, fun i j => if 0 > a.f i j then 0 else a.f i j⟩
  | .total, _, [a] => some ⟨1, 1, fun _ _ => sm a.r fun i => sm a.c fun j => a.f i j⟩
  | .spread, [x, y], [a] => if a.r = 1 ∧ a.c = 1 then some ⟨x.toNat, y.toNat, fun _ _ => a.f 0 0⟩ else none
  | .stretch, [x], [a] => some ⟨a.r, a.c, fun i j => a.f i j * x⟩
  | .scale, [x], [a] => some ⟨a.r, a.c, fun i j => (a.f i j + 2 ^ x.toNat / 2) / 2 ^ x.toNat⟩
  | .pick, _, [a, b] => if b.c = 1 ∧ rowsOk b a.r = true then some ⟨b.r, a.c, fun i j => a.f (b.f i 0).toNat j⟩ else none
  | .place, [x], [a, b] => if (a.r = b.r ∧ a.c = 1) ∧ rowsOk a x = true then some ⟨x.toNat, b.c, fun i j => smf a.r (fun k => decide (a.f k 0 = (i : Int))) (fun k => b.f k j)⟩ else none
  | .fill, [x, y, z], [] => some ⟨x.toNat, y.toNat, fun _ _ => z⟩
  | _, _, _ => none
def bnded : Option Mt → Option Mt
  | none => none
  | some m => if okB m.r m.c m.f = true then some m else none
def opr (k : Kd) (ns : List Int) (ms : List Mt) : Option Mt := bnded (raw k ns ms)
abbrev optD : Option Mt → D
  | none => .non
  | some m => m.d
def numOk : Kd → List Int → Prop
  | .spread, ns => ∃ x y, ns = [x, y] ∧ (1 ≤ x ∧ x ≤ 6) ∧ 1 ≤ y ∧ y ≤ 6
  | .fill, ns => ∃ x y z, ns = [x, y, z] ∧ (1 ≤ x ∧ x ≤ 6) ∧ (1 ≤ y ∧ y ≤ 6) ∧ -10000000 < z ∧ z < 10000000
  | .stretch, ns => ∃ x, ns = [x] ∧ -10000000 < x ∧ x < 10000000
  | .scale, ns => ∃ x, ns = [x] ∧ 1 ≤ x ∧ x ≤ 20
  | .place, ns => ∃ x, ns = [x] ∧ 1 ≤ x ∧ x ≤ 6
  | _, ns => ns = []
theorem rowsOk_t {m : Mt} {n : Int} (h : ∀ k, k < m.r → 0 ≤ m.f k 0 ∧ m.f k 0 < n) : rowsOk m n = true := by
  unfold rowsOk
  simp only [List.all_eq_true, List.mem_range, decide_eq_true_eq]
  exact h
theorem rowsOk_at {m : Mt} {n : Int} (h : rowsOk m n = true) : ∀ k, k < m.r → 0 ≤ m.f k 0 ∧ m.f k 0 < n := by
  unfold rowsOk at h
  simp only [List.all_eq_true, List.mem_range, decide_eq_true_eq] at h
  exact h
theorem rowsOk_f {m : Mt} {n : Int} {k : Nat} (hk : k < m.r) (h : ¬ (0 ≤ m.f k 0 ∧ m.f k 0 < n)) : rowsOk m n = false := by
  cases e : rowsOk m n with
  | false => rfl
  | true => exact absurd (rowsOk_at e k hk) h
theorem okB_t {r c : Nat} {f : Nat → Nat → Int} (h : ∀ i, i < r → ∀ j, j < c → inB (f i j)) : okB r c f = true := by
  unfold okB
  simp only [List.all_eq_true, List.mem_range, decide_eq_true_eq]
  exact h
theorem okB_at {r c : Nat} {f : Nat → Nat → Int} (h : okB r c f = true) : ∀ i, i < r → ∀ j, j < c → inB (f i j) := by
  unfold okB at h
  simp only [List.all_eq_true, List.mem_range, decide_eq_true_eq] at h
  exact h
theorem okB_f {r c i j : Nat} {f : Nat → Nat → Int} (hi : i < r) (hj : j < c) (h : ¬ inB (f i j)) : okB r c f = false := by
  cases e : okB r c f with
  | false => rfl
  | true => exact absurd (okB_at e i hi j hj) h
/-- the two loops that look at all entries -/
theorem bound_loop {st : Sto} {r c : Nat} {f : Nat → Nat → Int} {d : D} {pre : ML.Env} {n : Nat} {QS : Fl → Sto → Prop} (hn : pre.length = n) (o1 o2 : Option D)
    (k1 : ∀ o1 o2, okB r c f = true → QS (.nx (pre ++ [o1, o2])) st) (k2 : okB r c f = false → QS (.rt d) st) :
    wp (forL [] (.nm n) (Sfor (Iseq (Ev n)) (.nm (n + 1)) (Sif (Tnot (Tb (E3 ltD ltD (E1 negD (Ec (.int 10000000))) (Ev (n + 1)) (Ec (.int 10000000))))) (Sret (Ec d)) Snil)) ((List.range r).map fun i => D.tup (ix c (f i))) (pre ++ [o1, o2]) st) QS := by
  subst hn
  have e0 : ∀ (x : Option D) (o1 o2 : Option D), (pre ++ [o1, o2]).set pre.length x = pre ++ [x, o2] := fun x o1 o2 => by rw [List.set_append_right _ _ (Nat.le_refl _), Nat.sub_self]; rfl
  have e1 : ∀ (x : Option D) (o1 o2 : Option D), (pre ++ [o1, o2]).set (pre.length + 1) x = pre ++ [o1, x] := fun x o1 o2 => by rw [List.set_append_right _ _ (by omega), Nat.add_sub_cancel_left]; rfl
  have g0 : ∀ (o1 o2 : Option D), (pre ++ [o1, o2])[pre.length]? = some o1 := fun o1 o2 => by rw [List.getElem?_append_right (Nat.le_refl _), Nat.sub_self]; rfl
  have g1 : ∀ (o1 o2 : Option D), (pre ++ [o1, o2])[pre.length + 1]? = some o2 := fun o1 o2 => by rw [List.getElem?_append_right (by omega), Nat.add_sub_cancel_left]; rfl
  refine x_loop (fun i e s => s = st ∧ i ≤ r ∧ (∃ o1 o2, e = pre ++ [o1, o2]) ∧ ∀ i', i' < i → ∀ j, j < c → inB (f i' j)) ⟨rfl, Nat.zero_le _, ⟨_, _, rfl⟩, fun i' h => absurd h (Nat.not_lt_zero _)⟩ (fun _ _ _ _ => noWatch) ?_ ?_
  · rintro i x e s hx ⟨rfl, hi, ⟨o1, o2, rfl⟩, hall⟩
    have hl := (List.getElem?_eq_some_iff.mp hx).1
    simp at hl
    have ex : x = .tup (ix c (f i)) := by simpa [hl] using hx.symm
    subst ex
    refine ⟨_, rfl, ?_⟩
    rw [e0]
    refine x_for (x_iseq (x_v (g0 _ _) (x_itT ?_)))
    refine x_loop (fun j e s2 => s2 = s ∧ j ≤ c ∧ (∃ o2, e = pre ++ [some (.tup (ix c (f i))), o2]) ∧ ∀ j', j' < j → inB (f i j')) ⟨rfl, Nat.zero_le _, ⟨_, rfl⟩, fun i' h => absurd h (Nat.not_lt_zero _)⟩ (fun _ _ _ _ => noWatch) ?_ ?_
    · rintro j x e s2 hx ⟨rfl, hj, ⟨o2, rfl⟩, hrow⟩
      have hl2 := (List.getElem?_eq_some_iff.mp hx).1
      simp at hl2
      have ex : x = .int (f i j) := by simpa [hl2] using hx.symm
      subst ex
      refine ⟨_, rfl, ?_⟩
      rw [e1]
      have h3 := g1 (some (.tup (ix c (f i)))) (some (.int (f i j)))
      walk_at "ml"
      refine x_v h3 ?_
      walk_at "ml"
      refine y_d (fun h1 => ?_) (fun h1 => ?_)
      · walk_at "ml"
        refine y_d (fun h2 => ?_) (fun h2 => ?_)
        · walk_at "ml"
          refine ⟨rfl, by omega, ⟨_, rfl⟩, fun j' hj' => ?_⟩
          by_cases e : j' = j
          · subst e; exact ⟨h1, h2⟩
          · exact hrow j' (by omega)
        · walk_at "ml"
          exact k2 (okB_f hl hl2 (fun q => h2 q.2))
      · walk_at "ml"
        exact k2 (okB_f hl hl2 (fun q => h1 q.1))
    · rintro e s2 ⟨rfl, hj, ⟨o2, rfl⟩, hrow⟩
      rw [len_R] at hrow
      refine ⟨rfl, by omega, ⟨_, _, rfl⟩, fun i' hi' j2 hj2 => ?_⟩
      by_cases e : i' = i
      · subst e; exact hrow j2 hj2
      · exact hall i' (by omega) j2 hj2
  · rintro e s ⟨rfl, hi, ⟨o1, o2, rfl⟩, hall⟩
    rw [len_R] at hall
    exact k1 _ _ (okB_t hall)
section
variable {n : D} {st : Sto} {QE : D → Sto → Prop} {a b : Mt}
theorem pow_ok : ∀ {n : Nat}, 1 ≤ n → n ≤ 20 → 2 ≤ (2 : Int) ^ n ∧ (2 : Int) ^ n ≤ 1048576 ∧ (2 : Int) ^ n = 2 * ((2 : Int) ^ n / 2) := by
  have : ∀ n : Fin 21, 1 ≤ n.val → 2 ≤ (2 : Int) ^ n.val ∧ (2 : Int) ^ n.val ≤ 1048576 ∧ (2 : Int) ^ n.val = 2 * ((2 : Int) ^ n.val / 2) := by decide +kernel
  exact fun {n} h1 h2 => this ⟨n, by omega⟩ h1
theorem z_shl {i j : Int} (hm : 0 ≤ j ∧ j ≤ 1000000 ∧ i.natAbs < 18446744073709551616) (h : QE (.int (i * 2 ^ j.toNat)) st) : wp (shlD (.int i) (.int j) st) QE := wp_if hm (wp_some h)
end

/-! ### operate -/
section
variable {n : D} {st : Sto} {QE : D → Sto → Prop} {a b : Mt}
abbrev Mt.sh (m : Mt) : D := .tup [.int m.r, .int m.c]
theorem raw_no {k : Kd} {ns : List Int} {ms : List Mt} (h : ms.length ≠ k.n) : raw k ns ms = none := by
  unfold raw
  split <;> first | rfl | (exact absurd rfl h)
theorem len1 {α : Type} {l : List α} (h : l.length = 1) : ∃ a, l = [a] := by
  match l, h with
  | [a], _ => exact ⟨a, rfl⟩
theorem len2 {α : Type} {l : List α} (h : l.length = 2) : ∃ a b, l = [a, b] := by
  match l, h with
  | [a, b], _ => exact ⟨a, b, rfl⟩
local macro_rules | `(tactic| walk_at "opc") => `(tactic| (walk_at "ml"; (refine z_tab rfl ?_); walk_at "ml"; (refine x_cv rfl rfl ?_); walk_at "ml"))
/-- what comes out fits again -/
theorem raw_sz {k : Kd} {ns : List Int} {ms : List Mt} {m : Mt} (hn : numOk k ns) (hm : ∀ m, m ∈ ms → m.ok) (hr : raw k ns ms = some m) : 0 < m.r ∧ m.r ≤ 6 ∧ 0 < m.c ∧ m.c ≤ 6 := by
  unfold raw at hr
  have h1 : ∀ (a : Mt) (l : List Mt), (∀ m, m ∈ a :: l → m.ok) → a.ok := fun a l h => h a (List.mem_cons_self ..)
  have h2 : ∀ (a b : Mt) (l : List Mt), (∀ m, m ∈ a :: b :: l → m.ok) → b.ok := fun a b l h => h b (by simp)
  split at hr
  case h_5 =>
    split at hr
    · cases hr
      have ha := h1 _ _ hm
      have hb := h2 _ _ _ hm
      exact ⟨ha.r0, ha.r1, hb.c0, hb.c1⟩
    · cases hr
  case h_6 =>
    cases hr
    have ha := h1 _ _ hm
    exact ⟨ha.c0, ha.c1, ha.r0, ha.r1⟩
  case h_8 =>
    cases hr
    exact ⟨Nat.one_pos, (by decide : 1 ≤ 6), Nat.one_pos, (by decide : 1 ≤ 6)⟩
  case h_9 =>
    split at hr
    · cases hr
      obtain ⟨x, y, e, hx, hy⟩ := hn
      cases e
      exact ⟨by show 0 < Int.toNat _; omega, by show Int.toNat _ ≤ 6; omega, by show 0 < Int.toNat _; omega, by show Int.toNat _ ≤ 6; omega⟩
    · cases hr
  case h_12 =>
    split at hr
    · cases hr
      have ha := h1 _ _ hm
      have hb := h2 _ _ _ hm
      exact ⟨hb.r0, hb.r1, ha.c0, ha.c1⟩
    · cases hr
  case h_13 =>
    split at hr
    · cases hr
      have hb := h2 _ _ _ hm
      obtain ⟨x, e, hx⟩ := hn
      cases e
      exact ⟨by show 0 < Int.toNat _; omega, by show Int.toNat _ ≤ 6; omega, hb.c0, hb.c1⟩
    · cases hr
  case h_14 =>
    cases hr
    obtain ⟨x, y, z, e, hx, hy, _⟩ := hn
    cases e
    exact ⟨by show 0 < Int.toNat _; omega, by show Int.toNat _ ≤ 6; omega, by show 0 < Int.toNat _; omega, by show Int.toNat _ ≤ 6; omega⟩
  case h_15 => cases hr
  all_goals
    have ha := h1 _ _ hm
    first
    | (split at hr
       · cases hr
         exact ⟨ha.r0, ha.r1, ha.c0, ha.c1⟩
       · cases hr)
    | (cases hr
       exact ⟨ha.r0, ha.r1, ha.c0, ha.c1⟩)
theorem opr_ok {k : Kd} {ns : List Int} {ms : List Mt} {m : Mt} (hn : numOk k ns) (hm : ∀ m, m ∈ ms → m.ok) (h : opr k ns ms = some m) : m.ok := by
  unfold opr bnded at h
  cases hr : raw k ns ms with
  | none => rw [hr] at h; cases h
  | some m' =>
    rw [hr] at h
    simp only at h
    split at h
    · rename_i hb
      cases h
      have hs := raw_sz hn hm hr
      exact ⟨hs.1, hs.2.1, hs.2.2.1, hs.2.2.2, fun i j hi hj => okB_at hb i hi j hj⟩
    · cases h
end

/-! ### sameness of plain data, as the law asks -/
inductive Tups : Nat → D → Prop
  | non {m} : Tups m .non
  | int {m} (i : Int) : Tups m (.int i)
  | str {m} (s : PySem.Str) : Tups m (.str s)
  | tup {m} {ds : List D} (hl : ds.length ≤ 1000) (h : ∀ d, d ∈ ds → Tups m d) : Tups (m + 1) (.tup ds)
theorem same_t {st : Sto} {m : Nat} {d : D} (h : Tups m d) : ∀ {Q : D → Sto → Prop}, Q (.bl true) st → wp (m__law_same (m + 1) [d, d] st) Q := by
  induction h with
  | non => exact fun q => same_none q
  | int i => exact fun q => same_int q
  | str s => exact fun q => same_str q
  | tup hl h ih => exact fun q => same_tup hl (fun d hd Q' h' => ih d hd h') q
theorem Tups.mx {m r c : Nat} {f : Nat → Nat → Int} (hr : r ≤ 6) (hc : c ≤ 6) : Tups (m + 2) (mx r c f) := .tup (by simp; omega) fun d hd => by
  obtain ⟨i, _, rfl⟩ := List.mem_map.mp hd
  refine .tup (by simp; omega) fun d hd => ?_
  obtain ⟨j, _, rfl⟩ := List.mem_map.mp hd
  exact .int _
theorem Tups.opt {m : Nat} {o : Option Mt} (h : ∀ x, o = some x → x.ok) : Tups (m + 2) (optD o) := by
  cases o with
  | none => exact .non
  | some x => exact .mx (h x rfl).r1 (h x rfl).c1
theorem Tups.ints {m : Nat} {is : List Int} (h : is.length ≤ 1000) : Tups (m + 1) (.tup (is.map D.int)) := .tup (by rw [List.length_map]; exact h) fun d hd => by
  obtain ⟨j, _, rfl⟩ := List.mem_map.mp hd
  exact .int _
theorem Tups.up {m : Nat} {d : D} (h : Tups m d) : Tups (m + 1) d := by
  induction h with
  | non => exact .non
  | int i => exact .int i
  | str s => exact .str s
  | tup hl h ih => exact .tup hl ih

/-! ### lines -/
abbrev Ln := PySem.Str × D × List Int
def lnD (x : Ln) : D := .tup [.str x.1, x.2.1, .tup (x.2.2.map D.int)]
def bl (N : Nat) (B : Nat → Bool) : List D := (List.range N).map fun v => .bl (B v)
theorem bl_len {N : Nat} {B : Nat → Bool} : (bl N B).length = N := by simp [bl]
theorem bl_at {N : Nat} {B : Nat → Bool} {v : Int} (h0 : 0 ≤ v) (h1 : v < (N : Nat)) : atI (bl N B) v = some (.bl (B v.toNat)) := at_map_range h0 h1
theorem bl_set {N k : Nat} {B : Nat → Bool} {x : Bool} : (bl N B).set k (.bl x) = bl N (fun j => if j = k then x else B j) := by
  unfold bl
  rw [set_map_range]
  apply List.map_congr_left
  intro j _
  by_cases h : j = k <;> simp [h]
theorem bl_congr {N : Nat} {B C : Nat → Bool} (h : ∀ v, v < N → B v = C v) : bl N B = bl N C := by
  unfold bl
  apply List.map_congr_left
  intro j hj
  rw [h j (List.mem_range.mp hj)]
theorem bl_new (N : Nat) : (List.replicate N [D.bl false]).flatten = bl N fun _ => false := by
  unfold bl
  induction N with
  | zero => rfl
  | succ n ih => rw [List.range_succ, List.map_append, ← ih, List.replicate_succ', List.flatten_append]; rfl
theorem mark {s : Sto} {a N : Nat} {B : Nat → Bool} {vs : List Int} {x0 x1 x2 o4 x5 x6 : Option D} {QS : Fl → Sto → Prop} (hs : s[a]? = some (.lst (bl N B))) (hv : ∀ v, v ∈ vs → 0 ≤ v ∧ v < (N : Nat))
    (k : ∀ o s', s'[a]? = some (.lst (bl N fun v => B v || decide ((v : Int) ∈ vs))) → (∀ b o, b ≠ a → s[b]? = some o → s'[b]? = some o) → (∀ st : Sto, st.length ≤ a → Pre st s → Pre st s') → QS (.nx [x0, x1, x2, some (.ref a), o, x5, x6]) s') :
    wp (forL [] (.nm 4) (SsetIx (Ev 3) (Ev 4) (Ec (.bl true))) (vs.map D.int) [x0, x1, x2, some (.ref a), o4, x5, x6] s) QS := by
  refine x_loop (fun i e s' => i ≤ vs.length ∧ ∃ o, e = [x0, x1, x2, some (.ref a), o, x5, x6] ∧ s'[a]? = some (.lst (bl N fun v => B v || decide ((v : Int) ∈ vs.take i))) ∧ (∀ b o, b ≠ a → s[b]? = some o → s'[b]? = some o) ∧ (∀ st : Sto, st.length ≤ a → Pre st s → Pre st s')) ?_ (fun _ _ _ _ => noWatch) ?_ ?_
  · exact ⟨Nat.zero_le _, _, rfl, by simpa using hs, fun _ _ _ h => h, fun _ _ h => h⟩
  · rintro i x e s' hx ⟨hi, o, rfl, h1, h2, h3⟩
    rw [List.getElem?_map] at hx
    obtain ⟨v, hv1, rfl⟩ := Option.map_eq_some_iff.mp hx
    obtain ⟨b1, b2⟩ := hv v (List.mem_of_getElem? hv1)
    have hlt := (List.getElem?_eq_some_iff.mp hv1).1
    walk_at "ml"
    refine z_set h1 (by rw [bl_len]; exact ixN_ok b1 b2) rfl rfl ?_
    walk_at "ml"
    refine ⟨by omega, _, rfl, ?_, fun b o hb ho => ?_, fun st hst hp => (h3 st hst hp).set hst⟩
    · rw [set_at h1, bl_set]
      congr 2
      apply bl_congr
      intro j _
      rw [take_last hv1]
      by_cases hj : j = v.toNat
      · have hj2 : (j : Int) = v := by omega
        rw [if_pos hj, hj2]
        simp
      · have hj2 : (j : Int) ≠ v := by omega
        rw [if_neg hj]
        simp [hj2]
    · rw [List.getElem?_set_ne (fun h => hb h.symm)]
      exact h2 b o hb ho
  · rintro e s' ⟨hi, o, rfl, h1, h2, h3⟩
    rw [List.length_map, List.take_length] at h1
    exact k o s' h1 h2 h3
/-! ### what is needed -/
def vals (L : List Ln) (i : Nat) : List Int := (L.getD i ("", .non, [])).2.2
def wl (L : List Ln) (lv : Int) (outs : List Int) : Nat → List Int
  | 0 => outs
  | j + 1 => if lv + ((L.length : Int) - 1 - j) ∈ wl L lv outs j then wl L lv outs j ++ vals L (L.length - 1 - j) else wl L lv outs j
def fd (L : List Ln) (lv : Int) (outs : List Int) : Nat → List Int
  | 0 => []
  | j + 1 => if lv + ((L.length : Int) - 1 - j) ∈ wl L lv outs j then ((L.length : Int) - 1 - j) :: fd L lv outs j else fd L lv outs j
theorem vals_ok {L : List Ln} {N : Int} (h : ∀ x, x ∈ L → ∀ v, v ∈ x.2.2 → 0 ≤ v ∧ v < N) (i : Nat) : ∀ v, v ∈ vals L i → 0 ≤ v ∧ v < N := by
  intro v hv
  unfold vals at hv
  rw [List.getD_eq_getElem?_getD] at hv
  cases hl : L[i]? with
  | none => rw [hl] at hv; cases hv
  | some x => rw [hl] at hv; exact h x (List.mem_of_getElem? hl) v hv
theorem vals_len {L : List Ln} (h : ∀ x, x ∈ L → x.2.2.length ≤ 2) (i : Nat) : (vals L i).length ≤ 2 := by
  unfold vals
  rw [List.getD_eq_getElem?_getD]
  cases hl : L[i]? with
  | none => simp
  | some x => exact h x (List.mem_of_getElem? hl)
theorem wl_len {L : List Ln} {lv : Int} {outs : List Int} (h : ∀ x, x ∈ L → x.2.2.length ≤ 2) : ∀ j, (wl L lv outs j).length ≤ outs.length + 2 * j
  | 0 => Nat.le_refl _
  | j + 1 => by
    have h1 := wl_len (lv := lv) (outs := outs) h j
    have h2 := vals_len h (L.length - 1 - j)
    unfold wl
    split
    · rw [List.length_append]; omega
    · omega
theorem fd_len {L : List Ln} {lv : Int} {outs : List Int} : ∀ j, (fd L lv outs j).length ≤ j
  | 0 => Nat.le_refl _
  | j + 1 => by
    have h1 := fd_len (L := L) (lv := lv) (outs := outs) j
    unfold fd
    split
    · rw [List.length_cons]; omega
    · omega
theorem ln_at {L : List Ln} {i : Nat} {k : Int} (h : i < L.length) (hk : k = (i : Int)) : ∃ z d, atI (L.map lnD) k = some (.tup [.str z, d, .tup ((vals L i).map D.int)]) := by
  subst hk
  refine ⟨L[i].1, L[i].2.1, atI_get (by omega) ?_⟩
  simp [h, lnD, vals]
/-! ### programs -/

/-! ### a run of lines -/
abbrev PL := Kd × List Int × List Int
def pln (x : PL) : Ln := (x.1.s, .tup (x.2.1.map D.int), x.2.2)
def PLok (lv : Nat) (P : List PL) : Prop := ∀ (i : Nat) (x : PL), P[i]? = some x → numOk x.1 x.2.1 ∧ x.2.2.length ≤ 2 ∧ ∀ v, v ∈ x.2.2 → 0 ≤ v ∧ v < (lv : Int) + i
def noMt : Mt := ⟨1, 1, fun _ _ => 0⟩
def valOf (V : List (Option Mt)) (v : Int) : Mt := (V.getD v.toNat none).getD noMt
def argsOf (V : List (Option Mt)) (vs : List Int) : List Mt := vs.map (valOf V)
def opD (x : PL) (ms : List Mt) : D := .tup [.str x.1.s, .tup (x.2.1.map D.int), .tup (ms.map Mt.d)]
def exec (P : List PL) (lv : Nat) : List Nat → List (Option Mt) → Option (List (Option Mt)) × List D
  | [], V => (some V, [])
  | i :: r, V => match P[i]? with
    | none => (some V, [])
    | some x => match opr x.1 x.2.1 (argsOf V x.2.2) with
      | none => (none, [opD x (argsOf V x.2.2)])
      | some m => ((exec P lv r (V.set (lv + i) (some m))).1, opD x (argsOf V x.2.2) :: (exec P lv r (V.set (lv + i) (some m))).2)
def nd (P : List PL) (lv : Nat) (outs : List Int) : List Nat := (fd (P.map pln) lv outs P.length).map Int.toNat
abbrev resD (outs : List Int) : Option (List (Option Mt)) → D
  | none => .non
  | some V => .tup (outs.map fun v => optD (V.getD v.toNat none))
section
variable {P : List PL} {lv : Nat} {outs : List Int}
theorem vals_pl {i : Nat} {x : PL} (h : P[i]? = some x) : vals (P.map pln) i = x.2.2 := by
  unfold vals
  rw [List.getD_eq_getElem?_getD, List.getElem?_map, h]
  rfl
theorem fd_mem (j : Nat) : j ≤ P.length → ∀ i : Int, (i ∈ fd (P.map pln) lv outs j ↔ ∃ k, k < j ∧ i = (P.length : Int) - 1 - k ∧ (lv : Int) + i ∈ wl (P.map pln) lv outs k) := by
  induction j with
  | zero => exact fun _ i => ⟨fun h => (nomatch h), fun ⟨k, hk, _⟩ => absurd hk (Nat.not_lt_zero _)⟩
  | succ j ih =>
    intro hj i
    have ih := ih (by omega) i
    unfold fd
    rw [List.length_map]
    split
    · rename_i hw
      rw [List.mem_cons, ih]
      constructor
      · rintro (rfl | ⟨k, hk, h1, h2⟩)
        · exact ⟨j, by omega, rfl, hw⟩
        · exact ⟨k, by omega, h1, h2⟩
      · rintro ⟨k, hk, h1, h2⟩
        by_cases e : k = j
        · subst e; exact .inl h1
        · exact .inr ⟨k, by omega, h1, h2⟩
    · rename_i hw
      rw [ih]
      constructor
      · rintro ⟨k, hk, h1, h2⟩
        exact ⟨k, by omega, h1, h2⟩
      · rintro ⟨k, hk, h1, h2⟩
        by_cases e : k = j
        · subst e; subst h1; exact absurd h2 hw
        · exact ⟨k, by omega, h1, h2⟩
theorem wl_mono {j : Nat} : ∀ k, j ≤ k → ∀ v, v ∈ wl (P.map pln) lv outs j → v ∈ wl (P.map pln) lv outs k
  | 0, h, v, hv => by
    have : j = 0 := by omega
    subst this
    exact hv
  | k + 1, h, v, hv => by
    by_cases e : j = k + 1
    · subst e; exact hv
    · have := wl_mono k (by omega) v hv
      unfold wl
      split
      · exact List.mem_append_left _ this
      · exact this
theorem fd_sorted (j : Nat) : j ≤ P.length → (fd (P.map pln) lv outs j).Pairwise (· < ·) := by
  induction j with
  | zero => exact fun _ => List.Pairwise.nil
  | succ j ih =>
    intro hj
    unfold fd
    split
    · refine List.pairwise_cons.mpr ⟨fun i hi => ?_, ih (by omega)⟩
      obtain ⟨k, hk, e, _⟩ := (fd_mem j (by omega) i).mp hi
      rw [List.length_map]
      omega
    · exact ih (by omega)
theorem nd_cast : fd (P.map pln) lv outs P.length = (nd P lv outs).map fun i : Nat => (i : Int) := by
  unfold nd
  rw [List.map_map]
  have : ∀ l : List Int, (∀ i, i ∈ l → 0 ≤ i) → l = l.map ((fun i : Nat => (i : Int)) ∘ Int.toNat) := by
    intro l
    induction l with
    | nil => exact fun _ => rfl
    | cons a l ih =>
      intro h
      rw [List.map_cons, ← ih fun i hi => h i (List.mem_cons_of_mem _ hi)]
      have := h a (List.mem_cons_self ..)
      simp only [Function.comp_apply]
      rw [Int.toNat_of_nonneg this]
  refine this _ fun i hi => ?_
  obtain ⟨k, hk, e, _⟩ := (fd_mem _ (Nat.le_refl _) i).mp hi
  omega
theorem fd_D : (fd (P.map pln) lv outs P.length).map D.int = (nd P lv outs).map fun i : Nat => D.int (i : Int) := by
  rw [nd_cast, List.map_map]
  rfl
theorem nd_mem (i : Nat) : i ∈ nd P lv outs ↔ i < P.length ∧ (lv : Int) + i ∈ wl (P.map pln) lv outs (P.length - 1 - i) := by
  have h : i ∈ nd P lv outs ↔ (i : Int) ∈ fd (P.map pln) lv outs P.length := by
    rw [nd_cast, List.mem_map]
    exact ⟨fun h => ⟨i, h, rfl⟩, fun ⟨j, hj, e⟩ => by
      have : j = i := by omega
      subst this; exact hj⟩
  rw [h, fd_mem _ (Nat.le_refl _)]
  constructor
  · rintro ⟨k, hk, e, h2⟩
    have : k = P.length - 1 - i := by omega
    subst this
    exact ⟨by omega, h2⟩
  · rintro ⟨h1, h2⟩
    exact ⟨P.length - 1 - i, by omega, by omega, h2⟩
theorem nd_sorted : (nd P lv outs).Pairwise (· < ·) := by
  have h := fd_sorted (P := P) (lv := lv) (outs := outs) _ (Nat.le_refl _)
  rw [nd_cast, List.pairwise_map] at h
  exact h.imp fun h => by omega
theorem nd_closed {i : Nat} (hi : i ∈ nd P lv outs) {x : PL} (hx : P[i]? = some x) {v : Int} (hv : v ∈ x.2.2) (h0 : 0 ≤ v) (h1 : v < (lv : Int) + i) : v < (lv : Int) ∨ ∃ j : Nat, j ∈ nd P lv outs ∧ v = (lv : Int) + j ∧ j < i := by
  by_cases h : v < (lv : Int)
  · exact .inl h
  · refine .inr ⟨(v - lv).toNat, ?_, by omega, by omega⟩
    obtain ⟨hl, hw⟩ := (nd_mem i).mp hi
    rw [nd_mem]
    refine ⟨by omega, ?_⟩
    have hm : v ∈ wl (P.map pln) lv outs (P.length - 1 - i + 1) := by
      unfold wl
      rw [List.length_map, if_pos (by
        have e : (lv : Int) + ((P.length : Int) - 1 - ((P.length - 1 - i : Nat) : Int)) = lv + i := by omega
        rw [e]; exact hw)]
      refine List.mem_append_right _ ?_
      rw [show P.length - 1 - (P.length - 1 - i) = i by omega, vals_pl hx]
      exact hv
    have e : (lv : Int) + ((v - lv).toNat : Int) = v := by omega
    rw [e]
    exact wl_mono _ (by omega) v hm
theorem nd_outs {v : Int} (hv : v ∈ outs) (h0 : 0 ≤ v) (h1 : v < (lv : Int) + P.length) : v < (lv : Int) ∨ ∃ j : Nat, j ∈ nd P lv outs ∧ v = (lv : Int) + j := by
  by_cases h : v < (lv : Int)
  · exact .inl h
  · refine .inr ⟨(v - lv).toNat, ?_, by omega⟩
    rw [nd_mem]
    refine ⟨by omega, ?_⟩
    have e : (lv : Int) + ((v - lv).toNat : Int) = v := by omega
    rw [e]
    exact wl_mono (j := 0) _ (by omega) v hv
/-- what is known behind the first n needed lines -/
structure Known (P : List PL) (lv : Nat) (outs : List Int) (V : List (Option Mt)) (n : Nat) : Prop where
  len : V.length = lv + P.length
  ok : ∀ (v : Nat) (m : Mt), V[v]? = some (some m) → m.ok
  leaf : ∀ v : Nat, v < lv → ∃ m, V[v]? = some (some m)
  line : ∀ j : Nat, j ∈ (nd P lv outs).take n → ∃ m, V[lv + j]? = some (some m)
theorem Known.val {V : List (Option Mt)} {n : Nat} (K : Known P lv outs V n) {v : Int} (h0 : 0 ≤ v) (h : v < (lv : Int) ∨ ∃ j : Nat, j ∈ (nd P lv outs).take n ∧ v = (lv : Int) + j) : ∃ m, V[v.toNat]? = some (some m) ∧ valOf V v = m ∧ m.ok := by
  have : ∃ m, V[v.toNat]? = some (some m) := by
    rcases h with h | ⟨j, hj, rfl⟩
    · exact K.leaf _ (by omega)
    · have e : ((lv : Int) + j).toNat = lv + j := by omega
      rw [e]
      exact K.line j hj
  obtain ⟨m, hm⟩ := this
  refine ⟨m, hm, ?_, K.ok _ _ hm⟩
  unfold valOf
  rw [List.getD_eq_getElem?_getD, hm]
  rfl
theorem take_of_lt {n i j : Nat} (hn : (nd P lv outs)[n]? = some i) (hj : j ∈ nd P lv outs) (h : j < i) : j ∈ (nd P lv outs).take n := by
  obtain ⟨m, hm, e⟩ := List.getElem_of_mem hj
  have hs := nd_sorted (P := P) (lv := lv) (outs := outs)
  obtain ⟨hn1, hn2⟩ := List.getElem?_eq_some_iff.mp hn
  by_cases hmn : m < n
  · rw [← e]
    rw [List.mem_iff_getElem]
    exact ⟨m, by simp; omega, by simp⟩
  · exfalso
    by_cases hq : m = n
    · subst hq; omega
    · have := List.pairwise_iff_getElem.mp hs n m hn1 hm (by omega)
      omega
theorem Known.args {V : List (Option Mt)} {n i : Nat} {x : PL} (K : Known P lv outs V n) (hP : PLok lv P) (hn : (nd P lv outs)[n]? = some i) (hx : P[i]? = some x) :
    ∀ v, v ∈ x.2.2 → 0 ≤ v ∧ ∃ m, V[v.toNat]? = some (some m) ∧ valOf V v = m ∧ m.ok := by
  intro v hv
  obtain ⟨_, _, h⟩ := hP i x hx
  obtain ⟨h0, h1⟩ := h v hv
  refine ⟨h0, K.val h0 ?_⟩
  rcases nd_closed (List.mem_of_getElem? hn) hx hv h0 h1 with h | ⟨j, hj, e, hji⟩
  · exact .inl h
  · exact .inr ⟨j, take_of_lt hn hj hji, e⟩
theorem Known.set {V : List (Option Mt)} {n i : Nat} {m : Mt} (K : Known P lv outs V n) (hn : (nd P lv outs)[n]? = some i) (hm : m.ok) : Known P lv outs (V.set (lv + i) (some m)) (n + 1) := by
  have hi := ((nd_mem i).mp (List.mem_of_getElem? hn)).1
  refine ⟨by simp [K.len], fun v m' h => ?_, fun v hv => ?_, fun j hj => ?_⟩
  · by_cases e : lv + i = v
    · subst e
      rw [List.getElem?_set_self (by rw [K.len]; omega)] at h
      cases h; exact hm
    · rw [List.getElem?_set_ne e] at h
      exact K.ok v m' h
  · rw [List.getElem?_set_ne (by omega)]
    exact K.leaf v hv
  · by_cases e : j = i
    · subst e
      exact ⟨m, List.getElem?_set_self (by rw [K.len]; omega)⟩
    · rw [List.getElem?_set_ne (by omega)]
      rw [List.take_add_one, hn] at hj
      rcases List.mem_append.mp hj with hj | hj
      · exact K.line j hj
      · exact absurd (by simpa using hj) e
theorem exec_known (hP : PLok lv P) : ∀ (k n : Nat) (V V' : List (Option Mt)), k = (nd P lv outs).length - n → Known P lv outs V n → (exec P lv ((nd P lv outs).drop n) V).1 = some V' → Known P lv outs V' (nd P lv outs).length := by
  intro k
  induction k with
  | zero =>
    intro n V V' hk K h
    rw [List.drop_of_length_le (by omega)] at h
    cases h
    refine ⟨K.len, K.ok, K.leaf, fun j hj => K.line j ?_⟩
    rw [List.take_length] at hj
    rw [List.take_of_length_le (by omega)]
    exact hj
  | succ k ih =>
    intro n V V' hk K h
    have hlt : n < (nd P lv outs).length := by omega
    have hn := List.getElem?_eq_getElem hlt
    rw [List.drop_eq_getElem_cons hlt] at h
    have hi := (nd_mem (P := P) (lv := lv) (outs := outs) _).mp (List.mem_of_getElem? hn)
    have hx := List.getElem?_eq_getElem hi.1
    unfold exec at h
    rw [hx] at h
    simp only at h
    split at h
    · cases h
    · rename_i m hm
      have hp := hP _ _ hx
      refine ih (n + 1) _ V' (by omega) (K.set hn (opr_ok hp.1 (fun a ha => ?_) hm)) h
      obtain ⟨v, hv, rfl⟩ := List.mem_map.mp ha
      obtain ⟨_, m', _, e, ho⟩ := K.args hP hn hx v hv
      rw [e]; exact ho
end
section
variable {P : List PL} {lv : Nat} {outs : List Int} {st : Sto} {Q : D → Sto → Prop}
theorem pl_at {i : Nat} {x : PL} (h : P[i]? = some x) : atI ((P.map pln).map lnD) (i : Int) = some (.tup [.str x.1.s, .tup (x.2.1.map D.int), .tup (x.2.2.map D.int)]) := by
  refine atI_get (by omega) ?_
  rw [Int.toNat_natCast, List.getElem?_map, List.getElem?_map, h]
  rfl
theorem val_at {V : List (Option Mt)} {v : Int} {m : Mt} (h0 : 0 ≤ v) (h : V[v.toNat]? = some (some m)) : atI (V.map optD) v = some m.d := by
  refine atI_get h0 ?_
  rw [List.getElem?_map, h]
  rfl
theorem out_at {V : List (Option Mt)} {v : Int} (h0 : 0 ≤ v) (h : v < (V.length : Nat)) : atI (V.map optD) v = some (optD (V.getD v.toNat none)) := by
  refine atI_get h0 ?_
  rw [List.getElem?_map, List.getD_eq_getElem?_getD, List.getElem?_eq_getElem (by omega)]
  rfl
theorem args_ok {V : List (Option Mt)} {n i : Nat} {x : PL} (K : Known P lv outs V n) (hP : PLok lv P) (hn : (nd P lv outs)[n]? = some i) (hx : P[i]? = some x) : ∀ m, m ∈ argsOf V x.2.2 → m.ok := fun a ha => by
  obtain ⟨v, hv, rfl⟩ := List.mem_map.mp ha
  obtain ⟨_, m', _, e, ho⟩ := K.args hP hn hx v hv
  rw [e]; exact ho
theorem exec_cons {n i : Nat} {x : PL} {V : List (Option Mt)} (hn : (nd P lv outs)[n]? = some i) (hx : P[i]? = some x) : exec P lv ((nd P lv outs).drop n) V = match opr x.1 x.2.1 (argsOf V x.2.2) with
      | none => (none, [opD x (argsOf V x.2.2)])
      | some m => ((exec P lv ((nd P lv outs).drop (n + 1)) (V.set (lv + i) (some m))).1, opD x (argsOf V x.2.2) :: (exec P lv ((nd P lv outs).drop (n + 1)) (V.set (lv + i) (some m))).2) := by
  obtain ⟨h1, h2⟩ := List.getElem?_eq_some_iff.mp hn
  rw [List.drop_eq_getElem_cons h1, h2]
  conv => lhs; unfold exec
  rw [hx]
theorem mts_pln {ms : List Mt} : plns (ms.map Mt.d) := plns_of fun d hd => by
  obtain ⟨m, _, rfl⟩ := List.mem_map.mp hd
  exact mx_pln
theorem ints_pln {is : List Int} : plns (is.map D.int) := plns_of fun d hd => by
  obtain ⟨m, _, rfl⟩ := List.mem_map.mp hd
  exact trivial
theorem kd_str (k : Kd) : PyData.strOk k.s = true := by cases k <;> decide +kernel
theorem opD_pln {x : PL} {ms : List Mt} : (opD x ms).pln := ⟨kd_str _, ints_pln, mts_pln, trivial⟩
theorem exec_pln : ∀ (r : List Nat) (V : List (Option Mt)), plns (exec P lv r V).2
  | [], V => trivial
  | i :: r, V => by
    unfold exec
    split
    · trivial
    · split
      · exact ⟨opD_pln, trivial⟩
      · exact ⟨opD_pln, exec_pln r _⟩
theorem optD_pln {o : Option Mt} : (optD o).pln := by
  cases o
  · trivial
  · exact mx_pln
theorem resD_pln {o : Option (List (Option Mt))} : (resD outs o).pln := by
  cases o with
  | none => trivial
  | some V =>
    refine plns_of fun d hd => ?_
    obtain ⟨v, _, rfl⟩ := List.mem_map.mp hd
    exact optD_pln
def V0 (P : List PL) (ms : List Mt) : List (Option Mt) := ms.map some ++ List.replicate P.length none
theorem V0_known {ms : List Mt} (hm : ∀ m, m ∈ ms → m.ok) : Known P ms.length outs (V0 P ms) 0 := by
  refine ⟨by simp [V0], fun v m h => ?_, fun v hv => ?_, fun j hj => (nomatch hj)⟩
  · unfold V0 at h
    by_cases hv : v < ms.length
    · rw [List.getElem?_append_left (by simpa using hv), List.getElem?_map, List.getElem?_eq_getElem hv] at h
      cases h
      exact hm _ (List.getElem_mem _)
    · rw [List.getElem?_append_right (by simpa using hv)] at h
      have := List.mem_of_getElem? h
      simp at this
  · unfold V0
    exact ⟨ms[v], by rw [List.getElem?_append_left (by simpa using hv), List.getElem?_map, List.getElem?_eq_getElem hv]; rfl⟩
theorem V0_D {ms : List Mt} : (V0 P ms).map optD = ms.map Mt.d ++ List.replicate P.length D.non := by
  unfold V0
  rw [List.map_append, List.map_map, List.map_replicate]
  rfl
end

/-! ### line programs that the law draws -/
section
variable {st : Sto} {n : Nat} {ns : List Int} {lv : Nat} {many : Int} {Q : D → Sto → Prop}
theorem lk_at {d : D} (h : d ∈ ([.str "add", .str "sub", .str "times", .str "product", .str "turn", .str "positive", .str "gate", .str "stretch", .str "fill", .str "total"] : List D)) : ∃ k : Kd, d = .str k.s ∧ k ≠ .spread ∧ k ≠ .scale ∧ k ≠ .place := by
  simp only [List.mem_cons, List.not_mem_nil, or_false] at h
  rcases h with rfl | rfl | rfl | rfl | rfl | rfl | rfl | rfl | rfl | rfl
  · exact ⟨.add, rfl, by decide, by decide, by decide⟩
  · exact ⟨.sub, rfl, by decide, by decide, by decide⟩
  · exact ⟨.times, rfl, by decide, by decide, by decide⟩
  · exact ⟨.product, rfl, by decide, by decide, by decide⟩
  · exact ⟨.turn, rfl, by decide, by decide, by decide⟩
  · exact ⟨.positive, rfl, by decide, by decide, by decide⟩
  · exact ⟨.gate, rfl, by decide, by decide, by decide⟩
  · exact ⟨.stretch, rfl, by decide, by decide, by decide⟩
  · exact ⟨.fill, rfl, by decide, by decide, by decide⟩
  · exact ⟨.total, rfl, by decide, by decide, by decide⟩
theorem PLok.snoc {L : List PL} {x : PL} (h : PLok lv L) (h1 : numOk x.1 x.2.1) (h2 : x.2.2.length ≤ 2) (h3 : ∀ v, v ∈ x.2.2 → 0 ≤ v ∧ v < (lv : Int) + L.length) : PLok lv (L ++ [x]) := by
  intro i y hy
  by_cases hi : i < L.length
  · rw [List.getElem?_append_left hi] at hy
    exact h i y hy
  · rw [List.getElem?_append_right (by omega)] at hy
    have hi2 : i = L.length := by
      have := (List.getElem?_eq_some_iff.mp hy).1
      simp at this
      omega
    subst hi2
    rw [Nat.sub_self] at hy
    cases hy
    exact ⟨h1, h2, h3⟩
end

theorem Tups.op {m : Nat} {x : PL} {ms : List Mt} (hn : x.2.1.length ≤ 3) (hl : ms.length ≤ 1000) (hm : ∀ a, a ∈ ms → a.ok) : Tups (m + 4) (opD x ms) := .tup (by simp) fun d hd => by
  simp only [List.mem_cons, List.not_mem_nil, or_false] at hd
  rcases hd with rfl | rfl | rfl
  · exact .str _
  · exact .ints (by omega)
  · refine .tup (by rw [List.length_map]; exact hl) fun d hd => ?_
    obtain ⟨a, ha, rfl⟩ := List.mem_map.mp hd
    exact .mx (hm a ha).r1 (hm a ha).c1
def Known' (V : List (Option Mt)) : Prop := ∀ (v : Nat) (m : Mt), V[v]? = some (some m) → m.ok
theorem val_ok' {V : List (Option Mt)} (h : Known' V) (v : Int) : (valOf V v).ok := by
  unfold valOf
  rw [List.getD_eq_getElem?_getD]
  cases e : V[v.toNat]? with
  | none => exact ⟨Nat.one_pos, (by decide : 1 ≤ 6), Nat.one_pos, (by decide : 1 ≤ 6), fun i j _ _ => ⟨(by decide : (-10000000 : Int) < 0), (by decide : (0 : Int) < 10000000)⟩⟩
  | some o =>
    cases o with
    | none => exact ⟨Nat.one_pos, (by decide : 1 ≤ 6), Nat.one_pos, (by decide : 1 ≤ 6), fun i j _ _ => ⟨(by decide : (-10000000 : Int) < 0), (by decide : (0 : Int) < 10000000)⟩⟩
    | some m => exact h _ m e
theorem args_ok' {V : List (Option Mt)} (h : Known' V) (vs : List Int) : ∀ a, a ∈ argsOf V vs → a.ok := fun a ha => by
  obtain ⟨v, _, rfl⟩ := List.mem_map.mp ha
  exact val_ok' h v
theorem numOk_len {k : Kd} {nl : List Int} (h : numOk k nl) : nl.length ≤ 3 := by
  cases k
  case spread => obtain ⟨x, y, rfl, _⟩ := h; simp
  case fill => obtain ⟨x, y, z, rfl, _⟩ := h; simp
  case stretch => obtain ⟨x, rfl, _⟩ := h; simp
  case scale => obtain ⟨x, rfl, _⟩ := h; simp
  case place => obtain ⟨x, rfl, _⟩ := h; simp
  all_goals (cases h; simp)
theorem exec_same {P : List PL} {lv : Nat} (hP : PLok lv P) : ∀ (r : List Nat) (V : List (Option Mt)), Known' V → (∀ d, d ∈ (exec P lv r V).2 → Tups 4 d) ∧ (exec P lv r V).2.length ≤ r.length ∧ ∀ V', (exec P lv r V).1 = some V' → Known' V'
  | [], V, h => ⟨fun d hd => (nomatch hd), Nat.zero_le _, fun V' e => by cases e; exact h⟩
  | i :: r, V, h => by
    unfold exec
    cases hx : P[i]? with
    | none => exact ⟨fun d hd => (nomatch hd), Nat.zero_le _, fun V' e => by cases e; exact h⟩
    | some x =>
      have hp := hP i x hx
      have ht : Tups 4 (opD x (argsOf V x.2.2)) := .op (numOk_len hp.1) (by unfold argsOf; rw [List.length_map]; omega) (args_ok' h _)
      simp only
      cases hr : opr x.1 x.2.1 (argsOf V x.2.2) with
      | none =>
        refine ⟨fun d hd => ?_, by simp, fun V' e => (nomatch e)⟩
        rw [List.mem_singleton.mp hd]; exact ht
      | some m =>
        have hV : Known' (V.set (lv + i) (some m)) := fun v m' hv => by
          by_cases e : lv + i = v
          · subst e
            by_cases hl : lv + i < V.length
            · rw [List.getElem?_set_self hl] at hv
              cases hv
              exact opr_ok hp.1 (args_ok' h _) hr
            · rw [List.getElem?_eq_none (by simp; omega)] at hv
              cases hv
          · rw [List.getElem?_set_ne e] at hv
            exact h v m' hv
        obtain ⟨h1, h2, h3⟩ := exec_same hP r _ hV
        refine ⟨fun d hd => ?_, by simp; omega, h3⟩
        rcases List.mem_cons.mp hd with rfl | hd
        · exact ht
        · exact h1 d hd
theorem V0_known' {P : List PL} {ms : List Mt} (hm : ∀ m, m ∈ ms → m.ok) : Known' (V0 P ms) := (V0_known (outs := []) hm).ok
theorem res_same {P : List PL} {ms : List Mt} {outs : List Int} (hL : P.length ≤ 100) (ho : outs.length ≤ 1000) (hP : PLok ms.length P) (hm : ∀ m, m ∈ ms → m.ok) :
    Tups 7 (.tup [resD outs (exec P ms.length (nd P ms.length outs) (V0 P ms)).1, .tup (exec P ms.length (nd P ms.length outs) (V0 P ms)).2]) := by
  obtain ⟨h1, h2, h3⟩ := exec_same hP (nd P ms.length outs) _ (V0_known' hm)
  have hnd : (nd P ms.length outs).length ≤ 100 := by
    have := fd_len (L := P.map pln) (lv := (ms.length : Int)) (outs := outs) P.length
    unfold nd
    rw [List.length_map]
    omega
  refine .tup (by simp) fun d hd => ?_
  simp only [List.mem_cons, List.not_mem_nil, or_false] at hd
  rcases hd with rfl | rfl
  · cases e : (exec P ms.length (nd P ms.length outs) (V0 P ms)).1 with
    | none => exact .non
    | some V' =>
      have hV := h3 V' e
      refine .tup (by rw [List.length_map]; omega) fun d hd => ?_
      obtain ⟨v, _, rfl⟩ := List.mem_map.mp hd
      refine .opt fun x hx => ?_
      rw [List.getD_eq_getElem?_getD] at hx
      cases e2 : V'[v.toNat]? with
      | none => rw [e2] at hx; cases hx
      | some o => rw [e2] at hx; exact hV _ x (by rw [e2, ← hx]; rfl)
  · exact .tup (by omega) fun d hd => Tups.up (h1 d hd)

/-! ### steps as operations, going forth -/
abbrev plS (x : PL) : PySem.Str × List Int × List Int := (x.1.s, x.2.2, x.2.1)
theorem Step.kd {F : List Sh} {k : PySem.Str} {ops nums : List Int} {r : Sh} (h : Step F k ops nums r) : ∃ kd : Kd, k = kd.s ∧ numOk kd nums := by
  cases h with
  | same k a b hk ha hb e =>
    rcases hk with rfl | rfl | rfl
    · exact ⟨.add, rfl, rfl⟩
    · exact ⟨.sub, rfl, rfl⟩
    · exact ⟨.times, rfl, rfl⟩
  | prod a b ha hb e => exact ⟨.product, rfl, rfl⟩
  | pick a b ha hb e => exact ⟨.pick, rfl, rfl⟩
  | turn a ha => exact ⟨.turn, rfl, rfl⟩
  | total a ha => exact ⟨.total, rfl, rfl⟩
  | spread a x y ha e hx hy => exact ⟨.spread, rfl, _, _, rfl, hx, hy⟩
  | keep k a ns hk hn ha =>
    rcases hn with ⟨rfl, rfl⟩ | ⟨x, rfl, rfl, hx⟩
    · exact ⟨.positive, rfl, rfl⟩
    · exact ⟨.stretch, rfl, _, rfl, by omega, by omega⟩
theorem Good.pl {Ls : List Lf} {F : List Sh} {S : List St} (G : Good Ls F S) : ∃ P : List PL, S.map (·.2) = P.map plS ∧ PLok Ls.length P := by
  have h3 := G.2.2
  have key : ∀ n, n ≤ S.length → ∃ P : List PL, (S.take n).map (·.2) = P.map plS ∧ PLok Ls.length P := by
    intro n
    induction n with
    | zero => exact fun _ => ⟨[], rfl, fun i x h => by cases h⟩
    | succ n ih =>
      intro hn
      obtain ⟨P, h1, h2⟩ := ih (by omega)
      have hs := List.getElem?_eq_getElem (show n < S.length by omega)
      generalize S[n] = s at hs
      obtain ⟨r, _, hst⟩ := h3 n s hs
      obtain ⟨kd, hk, hnum⟩ := hst.kd
      have hPl : P.length = n := by
        have := congrArg List.length h1
        simp at this
        omega
      refine ⟨P ++ [(kd, s.2.2.2, s.2.2.1)], ?_, h2.snoc hnum hst.few fun v hv => ?_⟩
      · rw [List.take_add_one, hs, List.map_append, List.map_append, h1]
        simp [plS, ← hk]
      · have := hst.ok v hv
        obtain ⟨h0, h4⟩ := this
        rw [List.length_take] at h4
        rw [hPl]
        omega
  obtain ⟨P, h1, h2⟩ := key S.length (Nat.le_refl _)
  rw [List.take_length] at h1
  exact ⟨P, h1, h2⟩
theorem st_at {S : List St} {P : List PL} (h : S.map (·.2) = P.map plS) {i : Nat} {s : St} (hs : S[i]? = some s) : ∃ x, P[i]? = some x ∧ stD s = .tup [.str s.1, .str x.1.s, .tup (x.2.2.map D.int), .tup (x.2.1.map D.int)] := by
  have e : (P.map plS)[i]? = some s.2 := by rw [← h, List.getElem?_map, hs]; rfl
  rw [List.getElem?_map] at e
  obtain ⟨x, hx, e2⟩ := Option.map_eq_some_iff.mp e
  refine ⟨x, hx, ?_⟩
  show D.tup [.str s.1, .str s.2.1, .tup (s.2.2.1.map D.int), .tup (s.2.2.2.map D.int)] = _
  rw [← e2]
def okArgs (V : List (Option Mt)) (vs : List Int) : Bool := vs.all fun v => (V.getD v.toNat none).isSome
def fwd1 (V : List (Option Mt)) (x : PL) : Option Mt := if okArgs V x.2.2 = true then opr x.1 x.2.1 (argsOf V x.2.2) else none
def fwd : List PL → List (Option Mt) → List (Option Mt)
  | [], V => V
  | x :: r, V => fwd r (V ++ [fwd1 V x])
section
variable {P : List PL} {lv : Nat} {st : Sto} {Q : D → Sto → Prop}
theorem Known'.snoc {V : List (Option Mt)} {o : Option Mt} (h : Known' V) (ho : ∀ m, o = some m → m.ok) : Known' (V ++ [o]) := fun v m hv => by
  by_cases hl : v < V.length
  · rw [List.getElem?_append_left hl] at hv; exact h v m hv
  · rw [List.getElem?_append_right (by omega)] at hv
    have := List.mem_of_getElem? hv
    exact ho m (List.mem_singleton.mp this).symm
theorem fwd1_ok {V : List (Option Mt)} {x : PL} (h : Known' V) (hn : numOk x.1 x.2.1) : ∀ m, fwd1 V x = some m → m.ok := fun m hm => by
  unfold fwd1 at hm
  split at hm
  · exact opr_ok hn (args_ok' h _) hm
  · cases hm
theorem fwd_known (hP : ∀ x, x ∈ P → numOk x.1 x.2.1) : ∀ {V : List (Option Mt)}, Known' V → Known' (fwd P V) := by
  induction P with
  | nil => exact fun h => h
  | cons x P ih => exact fun {V} h => ih (fun y hy => hP y (List.mem_cons_of_mem _ hy)) (h.snoc (fwd1_ok h (hP x (List.mem_cons_self ..))))
theorem fwd_len : ∀ {V : List (Option Mt)}, (fwd P V).length = V.length + P.length := by
  induction P with
  | nil => exact fun {V} => rfl
  | cons x P ih =>
    intro V
    show (fwd P (V ++ [fwd1 V x])).length = _
    rw [ih]
    simp
    omega
theorem none_in {V : List (Option Mt)} {vs : List Int} : (!okArgs V vs) = true ↔ D.non ∈ vs.map fun v => optD (V.getD v.toNat none) := by
  unfold okArgs
  rw [Bool.not_eq_true', List.all_eq_false, List.mem_map]
  constructor
  · rintro ⟨v, hv, h⟩
    refine ⟨v, hv, ?_⟩
    cases e : V.getD v.toNat none with
    | none => rfl
    | some m => rw [e] at h; exact absurd rfl h
  · rintro ⟨v, hv, h⟩
    refine ⟨v, hv, ?_⟩
    cases e : V.getD v.toNat none with
    | none => simp
    | some m => rw [e] at h; cases h
theorem args_eq {V : List (Option Mt)} {vs : List Int} (h : okArgs V vs = true) : vs.map (fun v => optD (V.getD v.toNat none)) = (argsOf V vs).map Mt.d := by
  unfold argsOf
  rw [List.map_map]
  refine List.map_congr_left fun v hv => ?_
  have := List.all_eq_true.mp h v hv
  show _ = (valOf V v).d
  unfold valOf
  cases e : V.getD v.toNat none with
  | none => rw [e] at this; cases this
  | some m => rfl
theorem opts_pln {V : List (Option Mt)} {vs : List Int} : plns (vs.map fun v => optD (V.getD v.toNat none)) := plns_of fun d hd => by
  obtain ⟨v, _, rfl⟩ := List.mem_map.mp hd
  exact optD_pln
theorem optD_dep {o : Option Mt} : (optD o).dep ≤ 2 := by
  cases o
  · exact Nat.zero_le _
  · exact mx_dep
theorem opts_dep {V : List (Option Mt)} {vs : List Int} : deps (vs.map fun v => optD (V.getD v.toNat none)) ≤ 63 := Nat.le_trans (deps_of (k := 2) fun d hd => by
  obtain ⟨v, _, rfl⟩ := List.mem_map.mp hd
  exact optD_dep) (by decide)
/-- what forward tells -/
def lossD (V : List (Option Mt)) (loss : Int) : D := match V.getD loss.toNat none with
  | none => .non
  | some m => .int (m.f 0 0)
end

/-! ### weights and inputs that the law draws -/
theorem Step.pickI {F : List Sh} {k : PySem.Str} {ops nums : List Int} {r : Sh} (h : Step F k ops nums r) (hk : k = "pick") : ∃ a b, ops = [a, b] ∧ okI F a ∧ okI F b ∧ (sh F b).2 = 1 := by
  cases h with
  | same k a b hs ha hb e =>
    rcases hs with rfl | rfl | rfl
    all_goals exact absurd hk (by decide +kernel)
  | prod a b ha hb e => exact absurd hk (by decide +kernel)
  | pick a b ha hb e => exact ⟨a, b, rfl, ha, hb, e⟩
  | turn a ha => exact absurd hk (by decide +kernel)
  | total a ha => exact absurd hk (by decide +kernel)
  | spread a x y ha e hx hy => exact absurd hk (by decide +kernel)
  | keep k a ns hs hn ha =>
    rcases hs with rfl | rfl
    all_goals exact absurd hk (by decide +kernel)
def SzS (s : Sh) : Prop := (1 ≤ s.1 ∧ s.1 ≤ 6) ∧ 1 ≤ s.2 ∧ s.2 ≤ 6
theorem Step.sz {F : List Sh} {k : PySem.Str} {ops nums : List Int} {r : Sh} (h : Step F k ops nums r) (hF : ∀ a, okI F a → SzS (sh F a)) : SzS r := by
  cases h with
  | same k a b hs ha hb e => exact hF a ha
  | prod a b ha hb e => exact ⟨(hF a ha).1, (hF b hb).2⟩
  | pick a b ha hb e => exact ⟨(hF b hb).1, (hF a ha).2⟩
  | turn a ha => exact ⟨(hF a ha).2, (hF a ha).1⟩
  | total a ha => exact ⟨by decide, by decide⟩
  | spread a x y ha e hx hy => exact ⟨hx, hy⟩
  | keep k a ns hs hn ha => exact hF a ha
theorem sh_get {F : List Sh} {i : Nat} {s : Sh} (h : F[i]? = some s) : sh F (i : Int) = s := by
  unfold sh
  rw [Int.toNat_natCast, List.getD_eq_getElem?_getD, h]
  rfl
theorem sh_take {F : List Sh} {n : Nat} {a : Int} (h : okI (F.take n) a) : sh (F.take n) a = sh F a ∧ okI F a := by
  obtain ⟨h0, h1⟩ := h
  rw [List.length_take] at h1
  unfold sh
  rw [List.getD_eq_getElem?_getD, List.getD_eq_getElem?_getD, List.getElem?_take_of_lt (by omega)]
  exact ⟨rfl, h0, by omega⟩
theorem Good.sz {Ls : List Lf} {F : List Sh} {S : List St} (G : Good Ls F S) (hL : ∀ (j : Nat) (y : Lf), Ls[j]? = some y → SzS y.2) : ∀ (n i : Nat) (s : Sh), i < n → F[i]? = some s → SzS s := by
  obtain ⟨g1, g2, g3⟩ := G
  intro n
  induction n with
  | zero => exact fun i s h => absurd h (Nat.not_lt_zero _)
  | succ n ih =>
    intro i s hi hs
    by_cases h : i < Ls.length
    · have e : (F.take Ls.length)[i]? = some s := by rw [List.getElem?_take_of_lt h]; exact hs
      rw [g2, List.getElem?_map] at e
      obtain ⟨y, hy, rfl⟩ := Option.map_eq_some_iff.mp e
      exact hL i y hy
    · have hl := (List.getElem?_eq_some_iff.mp hs).1
      have hs2 := List.getElem?_eq_getElem (show i - Ls.length < S.length by omega)
      obtain ⟨r, hr, hst⟩ := g3 _ _ hs2
      rw [show Ls.length + (i - Ls.length) = i by omega] at hr hst
      rw [hs] at hr
      cases hr
      refine hst.sz fun a ha => ?_
      obtain ⟨e, h0, h1⟩ := sh_take ha
      rw [e]
      have ha2 := ha.2
      rw [List.length_take] at ha2
      have hx := List.getElem?_eq_getElem (show a.toNat < F.length by omega)
      have := ih a.toNat _ (by omega) hx
      rw [← sh_get hx] at this
      rw [show ((a.toNat : Nat) : Int) = a by omega] at this
      exact this
theorem ProgOk.sz {P1 P2 : List Lf} {F : List Sh} {S : List St} {loss : Int} (G : ProgOk P1 P2 F S loss) {a : Int} (h : okI F a) : SzS (sh F a) := by
  have hx := List.getElem?_eq_getElem (show a.toNat < F.length by have := h.1; have := h.2; omega)
  have := G.good.sz (fun j y hy => (G.leaf j y hy).1) _ _ _ (Nat.lt_succ_self _) hx
  rw [← sh_get hx] at this
  rw [show ((a.toNat : Nat) : Int) = a by have := h.1; omega] at this
  exact this
/-- matrices with the shapes of the leaves -/
def Fits (Ls : List Lf) (ms : List Mt) : Prop := ms.length = Ls.length ∧ ∀ (i : Nat) (m : Mt), ms[i]? = some m → m.ok ∧ ∀ y, Ls[i]? = some y → (m.r : Int) = y.2.1 ∧ (m.c : Int) = y.2.2
theorem Fits.ok {Ls : List Lf} {ms : List Mt} (h : Fits Ls ms) : ∀ m, m ∈ ms → m.ok := fun m hm => by
  obtain ⟨i, hi, e⟩ := List.getElem_of_mem hm
  exact (h.2 i m (by rw [← e]; exact List.getElem?_eq_getElem hi)).1
section
variable {st : Sto} {ns : List Int} {n : Nat} {Q : D → Sto → Prop}
theorem x_drawnI {env : ML.Env} {t : Tg} {fe : FE} {items : List D} {QA : List D → Sto → Prop} {R : Nat → D → Prop} (P : PoolE ns st n)
    (hs : ∀ (i : Nat) x s, items[i]? = some x → PoolE ns s n → Oth n st s → ∃ e1, bindT t x env = some e1 ∧ wp (fe e1 s) fun y s2 => R i y ∧ PoolE ns s2 n ∧ Oth n s s2)
    (hd : ∀ xs s, xs.length = items.length → (∀ (i : Nat) x, xs[i]? = some x → R i x) → PoolE ns s n → Oth n st s → QA xs s) : wp (compL [] t Tyes fe env items st) QA := by
  refine x_comp (fun i a s => i ≤ items.length ∧ a.length = i ∧ (∀ (j : Nat) x, a[j]? = some x → R j x) ∧ PoolE ns s n ∧ Oth n st s) ⟨Nat.zero_le _, rfl, fun j x h => (by cases h), P, Oth.refl⟩ (fun _ _ _ _ => noWatch) ?_ ?_
  · rintro i x a s hx ⟨h1, h2, h3, h4, h5⟩
    have hl := (List.getElem?_eq_some_iff.mp hx).1
    obtain ⟨e1, hb, q⟩ := hs i x s hx h4 h5
    refine ⟨e1, hb, wp_some ?_⟩
    rw [if_pos rfl]
    refine q.mono fun y s2 ⟨r, p, o⟩ => ⟨by omega, by simp [h2], fun j z hz => ?_, p, h5.trans o⟩
    by_cases hj : j < i
    · rw [List.getElem?_append_left (by omega)] at hz; exact h3 j z hz
    · rw [List.getElem?_append_right (by omega)] at hz
      have : j = i := by
        have := (List.getElem?_eq_some_iff.mp hz).1
        simp at this; omega
      subst this
      rw [h2, Nat.sub_self] at hz
      cases hz
      exact r
  · rintro a s ⟨h1, h2, h3, h4, h5⟩
    exact hd a s h2 h3 h4 h5
theorem mts_of {R : Nat → Mt → Prop} : ∀ {xs : List D}, (∀ (i : Nat) x, xs[i]? = some x → ∃ m : Mt, x = m.d ∧ R i m) → ∃ ms : List Mt, xs = ms.map Mt.d ∧ ∀ (i : Nat) m, ms[i]? = some m → R i m := by
  intro xs
  induction xs generalizing R with
  | nil => exact fun _ => ⟨[], rfl, fun i m h => by cases h⟩
  | cons x xs ih =>
    intro h
    obtain ⟨ms, e, h1⟩ := ih (R := fun i m => R (i + 1) m) fun i y hy => h (i + 1) y (by simpa using hy)
    obtain ⟨m, rfl, h2⟩ := h 0 x rfl
    refine ⟨m :: ms, by rw [e]; rfl, fun i a ha => ?_⟩
    cases i with
    | zero => cases ha; exact h2
    | succ i => exact h1 i a (by simpa using ha)
theorem min_is2 {us : List Int} (h : 0 < us.length) : ∃ m, minL us = some m ∧ m ∈ us := by
  cases us with
  | nil => cases h
  | cons u us => exact ⟨us.foldl min u, rfl, (foldl_min_mem us u).1⟩
end

/-! ### walking over instances and dicts -/
section
variable {env : ML.Env} {st : Sto} {fo fi fv fa : FE} {g : FA} {cn f m : PySem.Str} {fm : FC} {n : Nat} {ns : List PySem.Str} {ds : List D} {d v : D} {QE : D → Sto → Prop} {QS : Fl → Sto → Prop} {Q : Sto → Prop}
theorem z_fld (h : st[n]? = some (.ins cn ns ds)) (e : (ns.zip ds).lookup f = some d) (q : QE d st) : wp (fldD cn f (.ref n) st) QE := ⟨d, st, by simp only [fldD, h, if_true, e]; rfl, q⟩
theorem x_setF (h : wp (fv env st) fun x st1 => wp (fo env st1) fun o st2 => wpP (putD cn f o x st2) fun st3 => QS (.nx env) st3) : wp (SsetF cn f fo fv env st) QS := by
  refine wp_bind (h.mono fun x st1 q => wp_bind (q.mono fun o st2 q => ?_))
  obtain ⟨st3, e, q⟩ := q
  exact ⟨_, _, by show Option.map _ _ = _; rw [e]; rfl, q⟩
theorem z_put {st' : Sto} (h : st[n]? = some (.ins cn ns ds)) (hl : ns.length < 1000) (e : st.set n (.ins cn (putN f ns) (putL f v ns ds)) = st') (q : Q st') : wpP (putD cn f (.ref n) v st) Q := ⟨st.set n (.ins cn (putN f ns) (putL f v ns ds)), by simp only [putD, h]; exact if_pos ⟨trivial, hl⟩, by rw [e]; exact q⟩
theorem x_setD (h : wp (fv env st) fun x st1 => wp (fo env st1) fun o st2 => wp (fi env st2) fun i st3 => wpP (dputD o i x st3) fun st4 => QS (.nx env) st4) : wp (SsetD fo fi fv env st) QS := by
  refine wp_bind (h.mono fun x st1 q => wp_bind (q.mono fun o st2 q => wp_bind (q.mono fun i st3 q => ?_)))
  obtain ⟨st4, e, q⟩ := q
  exact ⟨_, _, by show Option.map _ _ = _; rw [e]; rfl, q⟩
theorem x_newD (h : QE (.ref st.length) (st ++ [.dct [] []])) : wp (EnewD env st) QE := ⟨_, _, rfl, h⟩
theorem x_emt (h : wp (fo env st) fun o st1 => ∃ n ns ds, o = .ref n ∧ st1[n]? = some (.ins cn ns ds) ∧ m ∉ ns ∧ wp (g env st1) fun xs st2 => wp (fm (.ref n :: xs) st2) QE) : wp (Emt cn m fm fo g env st) QE := by
  refine wp_bind (h.mono fun o st1 q => ?_)
  obtain ⟨n, ns, ds, rfl, h1, h2, q⟩ := q
  simp only [h1]
  refine wp_if ⟨trivial, h2⟩ (wp_bind q)
theorem x_emtSC {f1 f2 f3 : FE} (h : wp (fo env st) fun o st1 => ∃ n ns ds, o = .ref n ∧ st1[n]? = some (.ins cn ns ds) ∧ m ∉ ns ∧ wp (f1 env st1) fun x1 st2 => wp (f2 env st2) fun x2 st3 => wp (f3 env st3) fun x3 st4 => ∃ es, spD x3 = some es ∧ wp (fm (.ref n :: x1 :: x2 :: es) st4) QE) : wp (EmtSC cn m fm fo f1 f2 f3 env st) QE := by
  refine wp_bind (h.mono fun o st1 q => ?_)
  obtain ⟨n, ns, ds, rfl, h1, h2, q⟩ := q
  simp only [h1]
  refine wp_if ⟨trivial, h2⟩ (wp_bind (q.mono fun x1 st2 q => wp_bind (q.mono fun x2 st3 q => wp_bind (q.mono fun x3 st4 q => ?_))))
  obtain ⟨es, e, q⟩ := q
  simp only [e, Option.bind_some]
  exact q
theorem x_emk (h : wp (g env st) fun xs st1 => wp (fm (.ref st1.length :: xs) (st1 ++ [.ins cn [] []])) fun r st2 => isNon r = true ∧ QE (.ref st1.length) st2) : wp (Emk cn fm g env st) QE := by
  refine wp_bind (h.mono fun xs st1 q => wp_bind (q.mono fun r st2 q => ?_))
  exact wp_if q.1 (wp_some q.2)
theorem x_sup {i : Nat} (hi : env[i]? = some (some (D.ref n))) (h : st[n]? = some (.ins cn ns ds)) (q : wp (fa env st) fun x st1 => wp (fm [D.ref n, x] st1) fun _ st2 => QS (.nx env) st2) : wp (Ssup i cn fm fa env st) QS := by
  unfold Ssup
  rw [hi]
  simp only [h]
  refine wp_if trivial (wp_bind (q.mono fun x st1 q => wp_bind (q.mono fun r st2 q => wp_some q)))
theorem x_arS3 {a b c : D} {vs : List D} (hl : vs.length ≤ 1000) (h : wp (fm [a, b, c, .tup vs] st) QE) : wp (arS 3 fm (a :: b :: c :: vs) st) QE := wp_if ⟨by simp, by simp; omega⟩ h
end
/-! ### dicts from numbers to numbers -/
abbrev Got := List (Int × Int)
def lk (k : Int) : Got → Option Int
  | [] => none
  | p :: r => if p.1 = k then some p.2 else lk k r
def pt (k v : Int) (g : Got) : Got := if (lk k g).isSome = true then g.map (fun p => if p.1 = k then (p.1, v) else p) else g ++ [(k, v)]
def gK (g : Got) : List Key := g.map fun p => .inl p.1
def gV (g : Got) : List D := g.map fun p => .int p.2
abbrev dO (g : Got) : O := .dct (gK g) (gV g)
theorem valD_g {k : Int} : ∀ {g : Got}, valD (.inl k) (gK g) (gV g) = (lk k g).map D.int
  | [] => rfl
  | p :: r => by
    show (if (Sum.inl p.1 : Key) = .inl k then some (D.int p.2) else valD (.inl k) (gK r) (gV r)) = _
    by_cases e : p.1 = k
    · rw [if_pos (congrArg Sum.inl e), lk, if_pos e]; rfl
    · rw [if_neg (fun h => e (Sum.inl.inj h)), lk, if_neg e, valD_g]
theorem memK_g {k : Int} : ∀ {g : Got}, memK (.inl k) (gK g) = (lk k g).isSome
  | [] => rfl
  | p :: r => by
    show (decide ((Sum.inl p.1 : Key) = .inl k) || memK (.inl k) (gK r)) = _
    by_cases e : p.1 = k
    · rw [decide_eq_true (congrArg Sum.inl e), lk, if_pos e]; rfl
    · rw [decide_eq_false (fun h => e (Sum.inl.inj h)), lk, if_neg e, Bool.false_or, memK_g]
theorem put_g {k v : Int} {g : Got} : putKs (.inl k) (gK g) = gK (pt k v g) ∧ putVs (.inl k) (.int v) (gK g) (gV g) = gV (pt k v g) := by
  unfold putKs putVs pt
  rw [memK_g]
  by_cases h : (lk k g).isSome = true
  · rw [if_pos h, if_pos h, if_pos h]
    clear h
    induction g with
    | nil => exact ⟨rfl, rfl⟩
    | cons p r ih =>
      refine ⟨?_, ?_⟩
      · show _ :: _ = _ :: _
        rw [← gK, ih.1]
        by_cases e : p.1 = k
        · simp only [if_pos e]; rfl
        · simp only [if_neg e]; rfl
      · show _ :: _ = _ :: _
        congr 1
        · by_cases e : p.1 = k
          · simp only [if_pos e, if_pos (congrArg Sum.inl e)]
          · simp only [if_neg e, if_neg (fun h => e (Sum.inl.inj h))]
        · exact ih.2
  · rw [if_neg h, if_neg h, if_neg h]
    exact ⟨by simp [gK], by simp [gV]⟩
theorem lk_map {k v j : Int} : ∀ {g : Got}, lk j (g.map fun p => if p.1 = k then (p.1, v) else p) = if j = k then (lk j g).map (fun _ => v) else lk j g
  | [] => by simp [lk]
  | p :: r => by
    rw [List.map_cons]
    unfold lk
    rw [lk_map]
    by_cases e : p.1 = k
    · by_cases e2 : j = k
      · subst e2; simp [e]
      · have e3 : ¬ p.1 = j := fun h => e2 (h.symm.trans e)
        simp [e, e2]
        rw [if_neg (fun h => e2 h.symm), if_neg (fun h => e2 h.symm)]
    · by_cases e2 : p.1 = j
      · have e3 : ¬ j = k := fun h => e (e2.trans h)
        simp [e, e2, e3]
      · simp [e, e2]
theorem lk_app {k v j : Int} : ∀ {g : Got}, lk k g = none → lk j (g ++ [(k, v)]) = if j = k then some v else lk j g
  | [], _ => by
    simp only [List.nil_append, lk]
    by_cases e : k = j
    · rw [if_pos e, if_pos e.symm]
    · rw [if_neg e, if_neg (fun h => e h.symm)]
  | p :: r, h => by
    unfold lk at h
    by_cases e : p.1 = k
    · rw [if_pos e] at h; cases h
    · rw [if_neg e] at h
      rw [List.cons_append]
      unfold lk
      rw [lk_app h]
      by_cases e2 : p.1 = j
      · rw [if_pos e2, if_pos e2, if_neg (fun h => e (e2.trans h))]
      · rw [if_neg e2, if_neg e2]
theorem lk_pt {k v j : Int} {g : Got} : lk j (pt k v g) = if j = k then some v else lk j g := by
  unfold pt
  by_cases h : (lk k g).isSome = true
  · rw [if_pos h, lk_map]
    by_cases e : j = k
    · rw [if_pos e, if_pos e, e]
      obtain ⟨w, hw⟩ := Option.isSome_iff_exists.mp h
      rw [hw]; rfl
    · rw [if_neg e, if_neg e]
  · rw [if_neg h]
    exact lk_app (by cases q : lk k g with | none => rfl | some w => rw [q] at h; exact absurd rfl h)
theorem pt_len {k v : Int} {g : Got} : (pt k v g).length ≤ g.length + 1 := by
  unfold pt
  split
  · simp
  · simp
theorem gK_len {g : Got} : (gK g).length = g.length := List.length_map _
section
variable {st : Sto} {n : Nat} {g : Got} {k v : Int} {QE : D → Sto → Prop} {Q : Sto → Prop}
theorem z_dget (h : st[n]? = some (dO g)) (e : lk k g = some v) (q : QE (.int v) st) : wp (dgetD (.ref n) (.int k) st) QE := ⟨_, _, by
  show (match st[n]? with
    | some (.dct ks ds) => (valD (.inl k) ks ds).map fun d => (d, st)
    | _ => none) = _
  rw [h]
  show (valD (.inl k) (gK g) (gV g)).map _ = _
  rw [valD_g, e]; rfl, q⟩
theorem z_din (h : st[n]? = some (dO g)) (q : QE (.bl (lk k g).isSome) st) : wp (dinD false (.int k) (.ref n) st) QE := ⟨.bl (lk k g).isSome, st, by
  show (match st[n]? with
    | some (.dct ks ds) => some (D.bl (if false = true then !(valD (.inl k) ks ds).isSome else (valD (.inl k) ks ds).isSome), st)
    | _ => none) = _
  rw [h]
  show some (D.bl (valD (.inl k) (gK g) (gV g)).isSome, st) = _
  rw [valD_g, Option.isSome_map], q⟩
theorem z_dnin (h : st[n]? = some (dO g)) (q : QE (.bl (!(lk k g).isSome)) st) : wp (dinD true (.int k) (.ref n) st) QE := ⟨.bl (!(lk k g).isSome), st, by
  show (match st[n]? with
    | some (.dct ks ds) => some (D.bl (if true = true then !(valD (.inl k) ks ds).isSome else (valD (.inl k) ks ds).isSome), st)
    | _ => none) = _
  rw [h]
  show some (D.bl (!(valD (.inl k) (gK g) (gV g)).isSome), st) = _
  rw [valD_g, Option.isSome_map], q⟩
theorem z_dput {st' : Sto} (h : st[n]? = some (dO g)) (hl : g.length ≤ 100000) (e : st.set n (dO (pt k v g)) = st') (q : Q st') : wpP (dputD (.ref n) (.int k) (.int v) st) Q := ⟨st.set n (dO (pt k v g)), by
  show (match st[n]? with
    | some (.dct ks ds) => if ks.length < 16777216 then some (st.set n (.dct (putKs (.inl k) ks) (putVs (.inl k) (D.int v) ks ds))) else none
    | _ => none) = some (st.set n (dO (pt k v g)))
  rw [h]
  show (if (gK g).length < 16777216 then some (st.set n (.dct (putKs (.inl k) (gK g)) (putVs (.inl k) (.int v) (gK g) (gV g)))) else none) = _
  rw [if_pos (by rw [gK_len]; omega), put_g.1, put_g.2], by rw [e]; exact q⟩
end

/-! ### a Back object by place -/
theorem bk_p1 : putN "lines" ["leaves"] = (["leaves", "lines"] : List PySem.Str) := by decide +kernel
theorem bk_p2 : putN "shapes" ["leaves", "lines"] = (["leaves", "lines", "shapes"] : List PySem.Str) := by decide +kernel
theorem bk_p3 : putN "got" ["leaves", "lines", "shapes"] = (["leaves", "lines", "shapes", "got"] : List PySem.Str) := by decide +kernel
theorem bk_q1 {a b : D} : putL "lines" b (["leaves"] : List PySem.Str) [a] = [a, b] := by
  unfold putL; rw [if_neg (by decide +kernel)]; rfl
theorem bk_q2 {a b c : D} : putL "shapes" c (["leaves", "lines"] : List PySem.Str) [a, b] = [a, b, c] := by
  unfold putL; rw [if_neg (by decide +kernel)]; unfold putL; rw [if_neg (by decide +kernel)]; rfl
theorem bk_q3 {a b c d : D} : putL "got" d (["leaves", "lines", "shapes"] : List PySem.Str) [a, b, c] = [a, b, c, d] := by
  unfold putL; rw [if_neg (by decide +kernel)]; unfold putL; rw [if_neg (by decide +kernel)]; unfold putL; rw [if_neg (by decide +kernel)]; rfl
def bkO (n : Nat) (lv : Int) (sh : D) : O := .ins "Back" ["leaves", "lines", "shapes", "got"] [.int lv, .ref (n + 1), sh, .ref (n + 2)]
def BK (s0 : Sto) (lv : Int) (sh : D) (ls : List D) (g : Got) : Sto := s0 ++ [bkO s0.length lv sh, .lst ls, dO g]
section
variable {s0 : Sto} {lv : Int} {sh : D} {ls ls' : List D} {g g' : Got} {env : ML.Env} {QE : D → Sto → Prop}
theorem BK_0 : (BK s0 lv sh ls g)[s0.length]? = some (.ins "Back" ["leaves", "lines", "shapes", "got"] [.int lv, .ref (s0.length + 1), sh, .ref (s0.length + 2)]) := by
  unfold BK; rw [List.getElem?_append_right (Nat.le_refl _), Nat.sub_self]; rfl
theorem BK_1 : (BK s0 lv sh ls g)[s0.length + 1]? = some (.lst ls) := by
  unfold BK; rw [List.getElem?_append_right (by omega), Nat.add_sub_cancel_left]; rfl
theorem BK_2 : (BK s0 lv sh ls g)[s0.length + 2]? = some (dO g) := by
  unfold BK; rw [List.getElem?_append_right (by omega), Nat.add_sub_cancel_left]; rfl
theorem BK_s1 : (BK s0 lv sh ls g).set (s0.length + 1) (.lst ls') = BK s0 lv sh ls' g := by
  unfold BK; rw [List.set_append_right _ _ (by omega), Nat.add_sub_cancel_left]; rfl
theorem BK_s2 : (BK s0 lv sh ls g).set (s0.length + 2) (dO g') = BK s0 lv sh ls g' := by
  unfold BK; rw [List.set_append_right _ _ (by omega), Nat.add_sub_cancel_left]; rfl
theorem BK_pre : Pre s0 (BK s0 lv sh ls g) := ⟨_, rfl⟩
theorem bk_l0 {a b c d : D} : ((["leaves", "lines", "shapes", "got"] : List PySem.Str).zip [a, b, c, d]).lookup ("leaves" : PySem.Str) = some a := rfl
theorem bk_l1 {a b c d : D} : ((["leaves", "lines", "shapes", "got"] : List PySem.Str).zip [a, b, c, d]).lookup ("lines" : PySem.Str) = some b := rfl
theorem bk_l2 {a b c d : D} : ((["leaves", "lines", "shapes", "got"] : List PySem.Str).zip [a, b, c, d]).lookup ("shapes" : PySem.Str) = some c := rfl
theorem bk_l3 {a b c d : D} : ((["leaves", "lines", "shapes", "got"] : List PySem.Str).zip [a, b, c, d]).lookup ("got" : PySem.Str) = some d := rfl
instance bk_leaves : Stp (wp (fldD "Back" "leaves" (.ref s0.length) (BK s0 lv sh ls g)) QE) (QE (.int lv) (BK s0 lv sh ls g)) := ⟨z_fld BK_0 bk_l0⟩
instance bk_lines : Stp (wp (fldD "Back" "lines" (.ref s0.length) (BK s0 lv sh ls g)) QE) (QE (.ref (s0.length + 1)) (BK s0 lv sh ls g)) := ⟨z_fld BK_0 bk_l1⟩
instance bk_shapes : Stp (wp (fldD "Back" "shapes" (.ref s0.length) (BK s0 lv sh ls g)) QE) (QE sh (BK s0 lv sh ls g)) := ⟨z_fld BK_0 bk_l2⟩
instance bk_got : Stp (wp (fldD "Back" "got" (.ref s0.length) (BK s0 lv sh ls g)) QE) (QE (.ref (s0.length + 2)) (BK s0 lv sh ls g)) := ⟨z_fld BK_0 bk_l3⟩
instance bk_len : Stp (wp (fLen [.ref (s0.length + 1)] (BK s0 lv sh ls g)) QE) (QE (.int ls.length) (BK s0 lv sh ls g)) := ⟨z_lenR BK_1⟩
instance bk_tup : Stp (wp (fTup [.ref (s0.length + 1)] (BK s0 lv sh ls g)) QE) (QE (.tup ls) (BK s0 lv sh ls g)) := ⟨fun h => ⟨_, _, by simp only [fTup, sqD, BK_1]; rfl, h⟩⟩
instance bk_em {P : Nat → List D → Prop} : Stp (∃ n ds, D.ref (s0.length + 1) = D.ref n ∧ (BK s0 lv sh ls g)[n]? = some (.lst ds) ∧ P n ds) (P (s0.length + 1) ls) := ⟨fun h => ⟨_, _, rfl, BK_1, h⟩⟩
instance bk_app {y : D} : Stp (wp (mApp (.ref (s0.length + 1)) [y] (BK s0 lv sh ls g)) QE) (Sd (ls.length ≤ 10000) (QE .non (BK s0 lv sh (ls ++ [y]) g))) := ⟨fun h => z_app BK_1 (Nat.lt_of_le_of_lt h.1 (by decide)) BK_s1 h.2⟩
instance bk_din {k : Int} : Stp (wp (dinD false (.int k) (.ref (s0.length + 2)) (BK s0 lv sh ls g)) QE) (QE (.bl (lk k g).isSome) (BK s0 lv sh ls g)) := ⟨z_din BK_2⟩
instance bk_dnin {k : Int} : Stp (wp (dinD true (.int k) (.ref (s0.length + 2)) (BK s0 lv sh ls g)) QE) (QE (.bl (!(lk k g).isSome)) (BK s0 lv sh ls g)) := ⟨z_dnin BK_2⟩
instance bk_put {k v : Int} {Q : Sto → Prop} : Stp (wpP (dputD (.ref (s0.length + 2)) (.int k) (.int v) (BK s0 lv sh ls g)) Q) (Sd (g.length ≤ 10000) (Q (BK s0 lv sh ls (pt k v g)))) := ⟨fun h => z_dput BK_2 (Nat.le_trans h.1 (by decide)) BK_s2 h.2⟩
class NotF (m : PySem.Str) : Prop where go : m ∉ (["leaves", "lines", "shapes", "got"] : List PySem.Str)
instance nf_line : NotF "line" := ⟨by decide +kernel⟩
instance nf_give : NotF "give" := ⟨by decide +kernel⟩
instance nf_first : NotF "first_part" := ⟨by decide +kernel⟩
instance nf_second : NotF "second_part" := ⟨by decide +kernel⟩
instance nf_back : NotF "go_back" := ⟨by decide +kernel⟩
instance bk_mt {m : PySem.Str} {i : Nat} {fm : FC} {ga : FA} [a : AtE env i (.ref s0.length)] [b : NotF m] : Stp (wp (Emt "Back" m fm (Ev i) ga env (BK s0 lv sh ls g)) QE) (wp (ga env (BK s0 lv sh ls g)) fun xs st2 => wp (fm (.ref s0.length :: xs) st2) QE) := ⟨fun h => x_emt (x_v a.go ⟨_, _, _, rfl, BK_0, b.go, h⟩)⟩
instance bk_arS {a b c : D} {vs : List D} {fm : FC} {st : Sto} [l : LenU vs 64] : Stp (wp (arS 3 fm (a :: b :: c :: vs) st) QE) (wp (fm [a, b, c, .tup vs] st) QE) := ⟨x_arS3 (Nat.le_trans l.go (by decide))⟩
instance bk_setD {fo fi fv : FE} {st : Sto} {QS : Fl → Sto → Prop} : Stp (wp (SsetD fo fi fv env st) QS) (wp (fv env st) fun x st1 => wp (fo env st1) fun o st2 => wp (fi env st2) fun i st3 => wpP (dputD o i x st3) fun st4 => QS (.nx env) st4) := ⟨x_setD⟩
instance bk_setF {cn f : PySem.Str} {fo fv : FE} {st : Sto} {QS : Fl → Sto → Prop} : Stp (wp (SsetF cn f fo fv env st) QS) (wp (fv env st) fun x st1 => wp (fo env st1) fun o st2 => wpP (putD cn f o x st2) fun st3 => QS (.nx env) st3) := ⟨x_setF⟩
theorem line_ok {k nums : D} {vs : List D} (hl : ls.length ≤ 10000) (q : QE (.int (lv + ls.length)) (BK s0 lv sh (ls ++ [.tup [k, nums, .tup vs]]) g)) : wp (m_Back_Lines_line [.ref s0.length, k, nums, .tup vs] (BK s0 lv sh ls g)) QE := by
  walk_at "run"
  walk_at "ml"
  have e : lv + ((ls ++ [D.tup [k, nums, .tup vs]]).length : Int) - 1 = lv + ls.length := by rw [List.length_append, List.length_singleton]; omega
  rw [e]
  exact q
instance bk_line {k nums : D} {vs : List D} : Stp (wp (m_Back_Lines_line [.ref s0.length, k, nums, .tup vs] (BK s0 lv sh ls g)) QE) (Sd (ls.length ≤ 10000) (QE (.int (lv + ls.length)) (BK s0 lv sh (ls ++ [.tup [k, nums, .tup vs]]) g))) := ⟨fun h => line_ok h.1 h.2⟩
end
/-! ### the plan as a function -/
abbrev lD (x : PL) : D := .tup [.str x.1.s, .tup (x.2.1.map D.int), .tup (x.2.2.map D.int)]
inductive StK (F : List Sh) : Kd → List Int → List Int → Prop where
  | two (k : Kd) (a b : Int) : (k = .add ∨ k = .sub ∨ k = .times ∨ k = .product ∨ k = .pick) → okI F a → okI F b → StK F k [a, b] []
  | one (k : Kd) (a : Int) : (k = .turn ∨ k = .positive ∨ k = .total) → okI F a → StK F k [a] []
  | spread (a x y : Int) : okI F a → StK F .spread [a] [x, y]
  | stretch (a x : Int) : okI F a → StK F .stretch [a] [x]
abbrev Get := List PL × Int
def gets (F : List Sh) (g base : Int) : Kd → List Int → List Int → List Get
  | .add, _, _ => [([], g), ([], g)]
  | .sub, _, _ => [([], g), ([(.stretch, [-1], [g])], base)]
  | .times, [a, b], _ => [([(.times, [], [g, b])], base), ([(.times, [], [g, a])], base)]
  | .product, [a, b], _ => [([(.turn, [], [b]), (.product, [], [g, base])], base + 1), ([(.turn, [], [a]), (.product, [], [base, g])], base + 1)]
  | .turn, _, _ => [([(.turn, [], [g])], base)]
  | .positive, [a], _ => [([(.gate, [], [a, g])], base)]
  | .total, [a], _ => [([(.spread, [(sh F a).1, (sh F a).2], [g])], base)]
  | .spread, _, _ => [([(.total, [], [g])], base)]
  | .stretch, _, nums => [([(.stretch, nums, [g])], base)]
  | .pick, [a, b], _ => [([(.place, [(sh F a).1], [b, g])], base)]
  | _, _, _ => []
abbrev PS := List PL × Got
def giv (lv v x : Int) (s : PS) : PS := match lk v s.2 with
  | some o => (s.1 ++ [(.add, [], [o, x])], pt v (lv + s.1.length) s.2)
  | none => (s.1, pt v x s.2)
def part (F : List Sh) (lv g : Int) (x : PL) (j : Nat) (s : PS) : PS :=
  let y := (gets F g (lv + s.1.length) x.1 x.2.2 x.2.1).getD j ([], 0)
  giv lv (x.2.2.getD j 0) y.2 (s.1 ++ y.1, s.2)
def npart (k : Kd) : Nat := match k with
  | .add => 2 | .sub => 2 | .times => 2 | .product => 2 | _ => 1
def parts (F : List Sh) (lv g : Int) (x : PL) : Nat → PS → PS
  | 0, s => s
  | j + 1, s => part F lv g x j (parts F lv g x j s)
def back1 (F : List Sh) (lv own : Int) (x : PL) (s : PS) : PS := match lk own s.2 with
  | some g => parts F lv g x (npart x.1) s
  | none => s
def backN (P : List PL) (F : List Sh) (lv : Int) : Nat → PS → PS
  | 0, s => s
  | i + 1, s => back1 F lv (lv + ((P.length - 1 - i : Nat) : Int)) (P.getD (P.length - 1 - i) (.fill, [], [])) (backN P F lv i s)
def fill1 (lv : Int) (k : Nat) (y : Sh) (s : PS) : PS := match lk (k : Int) s.2 with
  | some _ => s
  | none => (s.1 ++ [(.fill, [y.1, y.2, 0], [])], pt (k : Int) (lv + s.1.length) s.2)
def fillN (Ls : List Lf) (lv : Int) : Nat → PS → PS
  | 0, s => s
  | i + 1, s => fill1 lv i (Ls.getD i ("", (0, 0))).2 (fillN Ls lv i s)
def plan0 (P : List PL) (lv loss : Int) : PS := (P ++ [(.fill, [1, 1, 1], [])], pt loss (lv + P.length) [])
def planS (P1 : List Lf) (P : List PL) (F : List Sh) (lv loss : Int) : PS := fillN P1 lv P1.length (backN P F lv P.length (plan0 P lv loss))
def outsP (n : Nat) (g : Got) : List Int := (List.range n).map fun i : Nat => (lk (i : Int) g).getD 0
def planD (P1 : List Lf) (P : List PL) (F : List Sh) (lv loss : Int) : D :=
  .tup [.int lv, .tup ((planS P1 P F lv loss).1.map lD), .int loss, .tup ((outsP P1.length (planS P1 P F lv loss).2).map D.int)]
/-! #### sizes -/
def Szs (n m : Nat) (s : PS) : Prop := s.1.length ≤ n ∧ s.2.length ≤ m
theorem giv_sz {lv v x : Int} {s : PS} {n m : Nat} (h : Szs n m s) : Szs (n + 1) (m + 1) (giv lv v x s) := by
  have := pt_len (k := v) (v := x) (g := s.2)
  have := pt_len (k := v) (v := lv + s.1.length) (g := s.2)
  obtain ⟨h1, h2⟩ := h
  unfold giv
  split
  · exact ⟨by simp; omega, by show (pt _ _ _).length ≤ _; omega⟩
  · exact ⟨by show s.1.length ≤ _; omega, by show (pt _ _ _).length ≤ _; omega⟩
theorem gets_sz {F : List Sh} {g base : Int} {k : Kd} {ops nums : List Int} {j : Nat} : ((gets F g base k ops nums).getD j ([], 0)).1.length ≤ 2 := by
  unfold gets
  split <;> (rcases j with _ | _ | j <;> simp)
theorem part_sz {F : List Sh} {lv g : Int} {x : PL} {j : Nat} {s : PS} {n m : Nat} (h : Szs n m s) : Szs (n + 3) (m + 1) (part F lv g x j s) := by
  have := gets_sz (F := F) (g := g) (base := lv + s.1.length) (k := x.1) (ops := x.2.2) (nums := x.2.1) (j := j)
  exact giv_sz (n := n + 2) ⟨by rw [List.length_append]; have := h.1; omega, h.2⟩
theorem parts_sz {F : List Sh} {lv g : Int} {x : PL} {s : PS} {n m : Nat} (h : Szs n m s) : ∀ j, Szs (n + 3 * j) (m + j) (parts F lv g x j s)
  | 0 => h
  | j + 1 => by
    have := part_sz (F := F) (lv := lv) (g := g) (x := x) (j := j) (s := parts F lv g x j s) (parts_sz h j)
    exact ⟨by have := this.1; unfold parts; omega, by have := this.2; unfold parts; omega⟩
theorem npart_le (k : Kd) : npart k ≤ 2 := by cases k <;> decide
theorem back1_sz {F : List Sh} {lv own : Int} {x : PL} {s : PS} {n m : Nat} (h : Szs n m s) : Szs (n + 6) (m + 2) (back1 F lv own x s) := by
  unfold back1
  split
  · rename_i g _
    have := parts_sz (F := F) (lv := lv) (g := g) (x := x) h (npart x.1)
    have := npart_le x.1
    exact ⟨by have := this; have := (parts_sz (F := F) (lv := lv) (g := g) (x := x) h (npart x.1)).1; omega, by have := (parts_sz (F := F) (lv := lv) (g := g) (x := x) h (npart x.1)).2; omega⟩
  · exact ⟨by have := h.1; omega, by have := h.2; omega⟩
theorem backN_sz {P : List PL} {F : List Sh} {lv : Int} {s : PS} {n m : Nat} (h : Szs n m s) : ∀ i, Szs (n + 6 * i) (m + 2 * i) (backN P F lv i s)
  | 0 => h
  | i + 1 => by
    have := back1_sz (F := F) (lv := lv) (own := lv + ((P.length - 1 - i : Nat) : Int)) (x := P.getD (P.length - 1 - i) (.fill, [], [])) (backN_sz (P := P) (F := F) (lv := lv) h i)
    exact ⟨by have := this.1; unfold backN; omega, by have := this.2; unfold backN; omega⟩
theorem fill1_sz {lv : Int} {k : Nat} {y : Sh} {s : PS} {n m : Nat} (h : Szs n m s) : Szs (n + 1) (m + 1) (fill1 lv k y s) := by
  have := pt_len (k := (k : Int)) (v := lv + s.1.length) (g := s.2)
  obtain ⟨h1, h2⟩ := h
  unfold fill1
  split
  · exact ⟨by omega, by omega⟩
  · exact ⟨by simp; omega, by show (pt _ _ _).length ≤ _; omega⟩
theorem fillN_sz {Ls : List Lf} {lv : Int} {s : PS} {n m : Nat} (h : Szs n m s) : ∀ i, Szs (n + i) (m + i) (fillN Ls lv i s)
  | 0 => h
  | i + 1 => fill1_sz (fillN_sz h i)
theorem plan0_sz {P : List PL} {lv loss : Int} (h : P.length ≤ 60) : Szs 61 1 (plan0 P lv loss) := ⟨by unfold plan0; simp; omega, pt_len (k := loss) (v := lv + P.length) (g := [])⟩
/-! #### every param has its gradient -/
theorem fill1_self {lv : Int} {k : Nat} {y : Sh} {s : PS} : (lk (k : Int) (fill1 lv k y s).2).isSome = true := by
  unfold fill1
  split
  · rename_i o h; rw [h]; rfl
  · show (lk _ (pt _ _ _)).isSome = true
    rw [lk_pt, if_pos rfl]; rfl
theorem fill1_keep {lv : Int} {k : Nat} {y : Sh} {s : PS} {j : Int} (h : (lk j s.2).isSome = true) : (lk j (fill1 lv k y s).2).isSome = true := by
  unfold fill1
  split
  · exact h
  · show (lk _ (pt _ _ _)).isSome = true
    rw [lk_pt]
    split
    · rfl
    · exact h
theorem fillN_all {Ls : List Lf} {lv : Int} {s : PS} : ∀ i (j : Nat), j < i → (lk (j : Int) (fillN Ls lv i s).2).isSome = true
  | i + 1, j, h => by
    unfold fillN
    by_cases e : j = i
    · subst e; exact fill1_self
    · exact fill1_keep (fillN_all i j (by omega))
/-! #### the steps of a program that fits -/
theorem kd_inj {a b : Kd} (h : a.s = b.s) : a = b := by cases a <;> cases b <;> first | rfl | exact absurd h (by decide +kernel)
theorem Step.stk {F : List Sh} {k : PySem.Str} {ops nums : List Int} {r : Sh} (h : Step F k ops nums r) : ∃ kd : Kd, k = kd.s ∧ StK F kd ops nums := by
  cases h with
  | same k a b hk ha hb e =>
    rcases hk with rfl | rfl | rfl
    · exact ⟨.add, rfl, .two _ _ _ (by simp) ha hb⟩
    · exact ⟨.sub, rfl, .two _ _ _ (by simp) ha hb⟩
    · exact ⟨.times, rfl, .two _ _ _ (by simp) ha hb⟩
  | prod a b ha hb e => exact ⟨.product, rfl, .two _ _ _ (by simp) ha hb⟩
  | pick a b ha hb e => exact ⟨.pick, rfl, .two _ _ _ (by simp) ha hb⟩
  | turn a ha => exact ⟨.turn, rfl, .one _ _ (by simp) ha⟩
  | total a ha => exact ⟨.total, rfl, .one _ _ (by simp) ha⟩
  | spread a x y ha e hx hy => exact ⟨.spread, rfl, .spread _ _ _ ha⟩
  | keep k a ns hk hn ha =>
    rcases hn with ⟨rfl, rfl⟩ | ⟨x, rfl, rfl, hx⟩
    · exact ⟨.positive, rfl, .one _ _ (by simp) ha⟩
    · exact ⟨.stretch, rfl, .stretch _ _ ha⟩
theorem StK.mono {F : List Sh} {n : Nat} {k : Kd} {ops nums : List Int} (h : StK (F.take n) k ops nums) : StK F k ops nums := by
  cases h with
  | two k a b hk ha hb => exact .two _ _ _ hk (sh_take ha).2 (sh_take hb).2
  | one k a hk ha => exact .one _ _ hk (sh_take ha).2
  | spread a x y ha => exact .spread _ _ _ (sh_take ha).2
  | stretch a x ha => exact .stretch _ _ (sh_take ha).2
theorem Good.stk {Ls : List Lf} {F : List Sh} {S : List St} {P : List PL} (G : Good Ls F S) (hS : S.map (·.2) = P.map plS) : ∀ (i : Nat) (x : PL), P[i]? = some x → StK F x.1 x.2.2 x.2.1 := by
  intro i x hx
  have e : (S.map (·.2))[i]? = some (plS x) := by rw [hS, List.getElem?_map, hx]; rfl
  rw [List.getElem?_map] at e
  obtain ⟨s, hs, e⟩ := Option.map_eq_some_iff.mp e
  obtain ⟨r, _, hst⟩ := G.2.2 i s hs
  rw [e] at hst
  obtain ⟨kd, hk, hst⟩ := hst.stk
  rw [kd_inj hk]
  exact hst.mono
theorem Tups.ln {x : PL} {m : Nat} (h1 : x.2.1.length ≤ 1000) (h2 : x.2.2.length ≤ 1000) : Tups (m + 2) (lD x) := .tup (by simp) fun d hd => by
  simp only [List.mem_cons, List.not_mem_nil, or_false] at hd
  rcases hd with rfl | rfl | rfl
  · exact .str _
  · exact .ints h1
  · exact .ints h2

/-! ### the methods of Back -/
section
variable {s0 : Sto} {lv : Int} {F : List Sh} {ls : List PL} {got : Got} {Q : D → Sto → Prop}
theorem give_ok {v x : Int} (hl : ls.length ≤ 1000) (hg : got.length ≤ 1000) (q : Q .non (BK s0 lv (.tup (F.map sD)) ((giv lv v x (ls, got)).1.map lD) (giv lv v x (ls, got)).2)) :
    wp (m_Back_Back_give [.ref s0.length, .int v, .int x] (BK s0 lv (.tup (F.map sD)) (ls.map lD) got)) Q := by
  walk_at "run"
  walk_at "ml"
  unfold giv at q
  cases h : lk v got with
  | none =>
    rw [Option.isSome_none]
    walk_at "ml"
    simp only [h] at q
    exact q
  | some o =>
    rw [Option.isSome_some]
    walk_at "ml"
    refine z_dget BK_2 h ?_
    walk_at "ml"
    simp only [h] at q
    rw [List.map_append] at q
    rw [List.length_map]
    exact q
theorem first_ok {k : Kd} {ops nums : List Int} {g : Int} (h : StK F k ops nums) (hl : ls.length ≤ 1000)
    (q : Q (.int ((gets F g (lv + ls.length) k ops nums).getD 0 ([], 0)).2) (BK s0 lv (.tup (F.map sD)) ((ls ++ ((gets F g (lv + ls.length) k ops nums).getD 0 ([], 0)).1).map lD) got)) :
    wp (m_Back_Back_first_part [.ref s0.length, .str k.s, .tup (ops.map D.int), .tup (nums.map D.int), .int g] (BK s0 lv (.tup (F.map sD)) (ls.map lD) got)) Q := by
  cases h with
  | two k a b hk ha hb =>
    have ha' := sh_at ha
    rcases hk with rfl | rfl | rfl | rfl | rfl
    · show wp (m_Back_Back_first_part [.ref s0.length, .str "add", .tup [.int a, .int b], .tup [], .int g] _) Q
      walk_at "run"
      walk_at "ml"
      (simp [gets] at q ⊢; exact q)
    · show wp (m_Back_Back_first_part [.ref s0.length, .str "sub", .tup [.int a, .int b], .tup [], .int g] _) Q
      walk_at "run"
      walk_at "ml"
      (simp [gets] at q ⊢; exact q)
    · show wp (m_Back_Back_first_part [.ref s0.length, .str "times", .tup [.int a, .int b], .tup [], .int g] _) Q
      walk_at "run"
      walk_at "ml"
      (simp [gets] at q ⊢; exact q)
    · show wp (m_Back_Back_first_part [.ref s0.length, .str "product", .tup [.int a, .int b], .tup [], .int g] _) Q
      walk_at "run"
      walk_at "ml"
      (simp [gets, Int.add_assoc] at q ⊢; exact q)
    · show wp (m_Back_Back_first_part [.ref s0.length, .str "pick", .tup [.int a, .int b], .tup [], .int g] _) Q
      walk_at "run"
      walk_at "ml"
      (simp [gets] at q ⊢; exact q)
  | one k a hk ha =>
    have ha' := sh_at ha
    rcases hk with rfl | rfl | rfl
    · show wp (m_Back_Back_first_part [.ref s0.length, .str "turn", .tup [.int a], .tup [], .int g] _) Q
      walk_at "run"
      walk_at "ml"
      (simp [gets] at q ⊢; exact q)
    · show wp (m_Back_Back_first_part [.ref s0.length, .str "positive", .tup [.int a], .tup [], .int g] _) Q
      walk_at "run"
      walk_at "ml"
      (simp [gets] at q ⊢; exact q)
    · show wp (m_Back_Back_first_part [.ref s0.length, .str "total", .tup [.int a], .tup [], .int g] _) Q
      walk_at "run"
      walk_at "ml"
      (simp [gets] at q ⊢; exact q)
  | spread a x y ha =>
    show wp (m_Back_Back_first_part [.ref s0.length, .str "spread", .tup [.int a], .tup [.int x, .int y], .int g] _) Q
    walk_at "run"
    walk_at "ml"
    (simp [gets] at q ⊢; exact q)
  | stretch a x ha =>
    show wp (m_Back_Back_first_part [.ref s0.length, .str "stretch", .tup [.int a], .tup [.int x], .int g] _) Q
    walk_at "run"
    walk_at "ml"
    (simp [gets] at q ⊢; exact q)
theorem second_ok {k : Kd} {a b : Int} {g : Int} (hk : k = .add ∨ k = .sub ∨ k = .times ∨ k = .product) (hl : ls.length ≤ 1000)
    (q : Q (.int ((gets F g (lv + ls.length) k [a, b] []).getD 1 ([], 0)).2) (BK s0 lv (.tup (F.map sD)) ((ls ++ ((gets F g (lv + ls.length) k [a, b] []).getD 1 ([], 0)).1).map lD) got)) :
    wp (m_Back_Back_second_part [.ref s0.length, .str k.s, .tup [.int a, .int b], .int g] (BK s0 lv (.tup (F.map sD)) (ls.map lD) got)) Q := by
  rcases hk with rfl | rfl | rfl | rfl
  · show wp (m_Back_Back_second_part [.ref s0.length, .str "add", .tup [.int a, .int b], .int g] _) Q
    walk_at "run"
    walk_at "ml"
    (simp [gets] at q ⊢; exact q)
  · show wp (m_Back_Back_second_part [.ref s0.length, .str "sub", .tup [.int a, .int b], .int g] _) Q
    walk_at "run"
    walk_at "ml"
    (simp [gets] at q ⊢; exact q)
  · show wp (m_Back_Back_second_part [.ref s0.length, .str "times", .tup [.int a, .int b], .int g] _) Q
    walk_at "run"
    walk_at "ml"
    (simp [gets] at q ⊢; exact q)
  · show wp (m_Back_Back_second_part [.ref s0.length, .str "product", .tup [.int a, .int b], .int g] _) Q
    walk_at "run"
    walk_at "ml"
    (simp [gets, Int.add_assoc] at q ⊢; exact q)
theorem goback_ok {x : PL} {nm : PySem.Str} {own : Int} (h : StK F x.1 x.2.2 x.2.1) (hl : ls.length ≤ 900) (hg : got.length ≤ 900)
    (q : Q .non (BK s0 lv (.tup (F.map sD)) ((back1 F lv own x (ls, got)).1.map lD) (back1 F lv own x (ls, got)).2)) :
    wp (m_Back_Back_go_back [.ref s0.length, .tup [.str nm, .str x.1.s, .tup (x.2.2.map D.int), .tup (x.2.1.map D.int)], .int own] (BK s0 lv (.tup (F.map sD)) (ls.map lD) got)) Q := by
  obtain ⟨k, nums, ops⟩ := x
  dsimp only at h q ⊢
  walk_at "run"
  walk_at "ml"
  unfold back1 at q
  cases ho : lk own got with
  | none =>
    rw [Option.isSome_none]
    walk_at "ml"
    simp only [ho] at q
    exact q
  | some g =>
    rw [Option.isSome_some]
    simp only [ho] at q
    walk_at "ml"
    refine z_dget BK_2 ho ?_
    have hs1 := part_sz (F := F) (lv := lv) (g := g) (x := (k, nums, ops)) (j := 0) (s := (ls, got)) (n := 900) (m := 900) ⟨hl, hg⟩
    have hd : ∃ a r, ops = a :: r := by cases h <;> exact ⟨_, _, rfl⟩
    obtain ⟨a, r, rfl⟩ := hd
    have hgt := gets_sz (F := F) (g := g) (base := lv + ls.length) (k := k) (ops := a :: r) (nums := nums) (j := 0)
    rw [List.map_cons]
    walk_at "ml"
    rw [← List.map_cons]
    refine first_ok h (by omega) ?_
    walk_at "ml"
    refine give_ok (by rw [List.length_append]; omega) (by omega) ?_
    cases h with
    | two k a b hk ha hb =>
      by_cases hp : k = .pick
      · subst hp
        walk_at "ml"
        exact q
      · have hk2 : k = .add ∨ k = .sub ∨ k = .times ∨ k = .product := by
          rcases hk with h | h | h | h | h
          · exact .inl h
          · exact .inr (.inl h)
          · exact .inr (.inr (.inl h))
          · exact .inr (.inr (.inr h))
          · exact absurd h hp
        have hn : npart k = 2 := by rcases hk2 with rfl | rfl | rfl | rfl <;> rfl
        rw [hn] at q
        have hne : (k.s == ("pick" : PySem.Str)) = false := by rcases hk2 with rfl | rfl | rfl | rfl <;> decide +kernel
        walk_at "ml"
        rw [hne]
        walk_at "ml"
        have hs1 := part_sz (F := F) (lv := lv) (g := g) (x := (k, [], [a, b])) (j := 0) (s := (ls, got)) (n := 900) (m := 900) ⟨hl, hg⟩
        have hgt2 := gets_sz (F := F) (g := g) (base := lv + ((part F lv g (k, [], [a, b]) 0 (ls, got)).1.length : Nat)) (k := k) (ops := [a, b]) (nums := []) (j := 1)
        refine second_ok hk2 (ls := (part F lv g (k, [], [a, b]) 0 (ls, got)).1) (by have := hs1.1; omega) ?_
        walk_at "ml"
        refine give_ok (by rw [List.length_append]; have := hs1.1; omega) (by have := hs1.2; exact Nat.le_trans this (by omega)) ?_
        walk_at "ml"
        exact q
    | one k a hk ha =>
      have hn : npart k = 1 := by rcases hk with rfl | rfl | rfl <;> rfl
      rw [hn] at q
      walk_at "ml"
      rw [show (((List.map D.int [a]).length : Int) == 2) = false from rfl]
      walk_at "ml"
      exact q
    | spread a x y ha =>
      walk_at "ml"
      rw [show (((List.map D.int [a]).length : Int) == 2) = false from rfl]
      walk_at "ml"
      exact q
    | stretch a x ha =>
      walk_at "ml"
      rw [show (((List.map D.int [a]).length : Int) == 2) = false from rfl]
      walk_at "ml"
      exact q
end

/-! ### making a Back object; the plan -/
section
variable {s0 : Sto} {lv : Int} {F : List Sh} {P1 P2 : List Lf} {P : List PL} {S : List St} {loss : Int} {Q : D → Sto → Prop}
theorem linit_ok (q : Q .non (s0 ++ [.ins "Back" ["leaves", "lines"] [.int lv, .ref (s0.length + 1)], .lst []])) : wp (m_Back_Lines___init__ [.ref s0.length, .int lv] (s0 ++ [.ins "Back" [] []])) Q := by
  walk_at "run"
  walk_at "ml"
  refine z_put one_0 (by decide) (st' := s0 ++ [.ins "Back" ["leaves"] [.int lv]]) one_s ?_
  walk_at "ml"
  have e1 : (s0 ++ [O.ins "Back" ["leaves"] [.int lv]]).length = s0.length + 1 := by simp
  rw [e1, List.append_assoc]
  refine z_put (two_0 (x := .ins "Back" ["leaves"] [.int lv]) (y := .lst [])) (by decide) (st' := s0 ++ [.ins "Back" ["leaves", "lines"] [.int lv, .ref (s0.length + 1)], .lst []]) (by rw [bk_p1, bk_q1]; exact two_s0) ?_
  walk_at "ml"
  exact q
theorem st_lD (hS : S.map (·.2) = P.map plS) {i : Nat} {d : D} (h : (S.map stD)[i]? = some d) : ∃ x z, P[i]? = some x ∧ d = .tup [.str z, .str x.1.s, .tup (x.2.2.map D.int), .tup (x.2.1.map D.int)] := by
  rw [List.getElem?_map] at h
  obtain ⟨s, hs, rfl⟩ := Option.map_eq_some_iff.mp h
  obtain ⟨x, hx, e⟩ := st_at hS hs
  exact ⟨x, s.1, hx, e⟩
theorem StK.few {k : Kd} {ops nums : List Int} (h : StK F k ops nums) : ops.length ≤ 2 := by cases h <;> simp
theorem show3 {a b c : O} : (s0 ++ ([a, b] ++ [c]))[s0.length]? = some a := by rw [List.getElem?_append_right (Nat.le_refl _), Nat.sub_self]; rfl
theorem init_ok (hS : S.map (·.2) = P.map plS) (G : Good (P1 ++ P2) F S) (hl : (P1 ++ P2).length ≤ 20) (hF : F.length ≤ 60) (hlv : lv = (P1.length : Int) + P2.length) (hK : ∀ (i : Nat) (x : PL), P[i]? = some x → StK F x.1 x.2.2 x.2.1)
    (q : Q .non (BK s0 lv (.tup (F.map sD)) ((plan0 P lv loss).1.map lD) (plan0 P lv loss).2)) :
    wp (m_Back_Back___init__ [.ref s0.length, .tup [.tup (P1.map leafD), .tup (P2.map leafD), .tup (S.map stD), .int loss]] (s0 ++ [.ins "Back" [] []])) Q := by
  have hPS : P.length = S.length := by have := congrArg List.length hS; simpa using this.symm
  have hP : P.length ≤ 60 := by have := G.1; omega
  walk_at "run"
  walk_at "ml"
  refine x_sup rfl one_0 ?_
  walk_at "ml"
  rw [List.length_map, List.length_map, ← hlv]
  refine linit_ok ?_
  walk_at "ml"
  refine shapes_ok G hl hF ?_
  walk_at "ml"
  refine z_put two_0 (by decide) (st' := s0 ++ [.ins "Back" ["leaves", "lines", "shapes"] [.int lv, .ref (s0.length + 1), .tup (F.map sD)], .lst []]) (by rw [bk_p2, bk_q2]; exact two_s0) ?_
  walk_at "ml"
  refine x_newD ?_
  walk_at "ml"
  have e1 : (s0 ++ [O.ins "Back" ["leaves", "lines", "shapes"] [.int lv, .ref (s0.length + 1), .tup (F.map sD)], .lst []]).length = s0.length + 2 := by simp
  rw [e1]
  refine z_put (by rw [List.append_assoc]; exact show3) (by decide) (st' := BK s0 lv (.tup (F.map sD)) [] []) (by rw [bk_p3, bk_q3, List.append_assoc, List.set_append_right _ _ (Nat.le_refl _), Nat.sub_self]; rfl) ?_
  walk_at "ml"
  refine x_loop (fun i e s => i ≤ P.length ∧ ∃ o7 o8 o9 o10, e = [some (.ref s0.length), some (.tup [.tup (P1.map leafD), .tup (P2.map leafD), .tup (S.map stD), .int loss]), none, some (.tup (P1.map leafD)), some (.tup (P2.map leafD)), some (.tup (S.map stD)), some (.int loss), o7, o8, o9, o10] ∧ s = BK s0 lv (.tup (F.map sD)) ((P.take i).map lD) []) ⟨Nat.zero_le _, _, _, _, _, rfl, rfl⟩ (fun _ _ _ _ => noWatch) ?_ ?_
  · rintro i x e s hx ⟨hi, o7, o8, o9, o10, rfl, rfl⟩
    obtain ⟨x, z, hxp, rfl⟩ := st_lD hS hx
    have hi2 := (List.getElem?_eq_some_iff.mp hxp).1
    walk_at "ml"
    refine x_emtSC ?_
    walk_at "ml"
    refine ⟨_, _, _, rfl, BK_0, nf_line.go, ?_⟩
    walk_at "ml"
    have hx2 := (hK _ _ hxp).few
    refine x_arS3 (by rw [List.length_map]; omega) ?_
    walk_at "ml"
    refine ⟨by omega, _, _, _, _, rfl, ?_⟩
    rw [List.take_add_one, hxp, Option.toList_some, List.map_append]
    rfl
  · rintro e s ⟨hi, o7, o8, o9, o10, rfl, rfl⟩
    rw [List.length_map, ← hPS, List.take_length]
    walk_at "ml"
    unfold plan0 at q
    rw [List.map_append] at q
    rw [List.length_map]
    exact q
theorem planD_blw {n : Nat} : (planD P1 P F lv loss).blw n := by
  refine ⟨trivial, belows_of fun d hd => ?_, trivial, belows_of fun d hd => ?_, trivial⟩
  · obtain ⟨x, _, rfl⟩ := List.mem_map.mp hd
    exact ⟨trivial, blw_ints _, blw_ints _, trivial⟩
  · obtain ⟨x, _, rfl⟩ := List.mem_map.mp hd
    trivial
theorem planD_eq : planD P1 P F lv loss = .tup [.int lv, .tup ((planS P1 P F lv loss).1.map lD), .int loss, .tup ((List.range P1.length).map fun i : Nat => .int ((lk (i : Int) (planS P1 P F lv loss).2).getD 0))] := by
  unfold planD outsP
  rw [List.map_map]; rfl
theorem plan_ok (hS : S.map (·.2) = P.map plS) (G : Good (P1 ++ P2) F S) (hl : (P1 ++ P2).length ≤ 20) (hF : F.length ≤ 60) (hlv : lv = (P1.length : Int) + P2.length) (hK : ∀ (i : Nat) (x : PL), P[i]? = some x → StK F x.1 x.2.2 x.2.1)
    {st : Sto} (q : Q (planD P1 P F lv loss) st) :
    wp (m_plan [.tup [.tup (P1.map leafD), .tup (P2.map leafD), .tup (S.map stD), .int loss]] st) Q := by
  have hPS : P.length = S.length := by have := congrArg List.length hS; simpa using this.symm
  have hP : P.length ≤ 60 := by have := G.1; omega
  have hl1 : P1.length ≤ 20 := by rw [List.length_append] at hl; omega
  have z0 := plan0_sz (lv := lv) (loss := loss) hP
  have zb := backN_sz (P := P) (F := F) (lv := lv) z0
  have zf := fillN_sz (Ls := P1) (lv := lv) (zb P.length)
  refine wp_gc ?_
  walk_at "run"
  walk_at "ml"
  refine x_emk ?_
  walk_at "ml"
  refine init_ok hS G hl hF hlv hK ⟨rfl, ?_⟩
  walk_at "ml"
  refine x_loop (fun i e s => i ≤ P.length ∧ ∃ o6, e = [some (.tup [.tup (P1.map leafD), .tup (P2.map leafD), .tup (S.map stD), .int loss]), some (.tup (P1.map leafD)), some (.tup (P2.map leafD)), some (.tup (S.map stD)), some (.int loss), some (.ref st.length), o6, none, none, none] ∧ s = BK st lv (.tup (F.map sD)) ((backN P F lv i (plan0 P lv loss)).1.map lD) (backN P F lv i (plan0 P lv loss)).2) ⟨Nat.zero_le _, _, rfl, rfl⟩ (fun _ _ _ _ => noWatch) ?_ ?_
  · rintro i x e s hx ⟨hi, o6, rfl, rfl⟩
    obtain ⟨hi2, rfl⟩ := down_at hx
    rw [List.length_map] at hi2
    have hi3 : i < P.length := by omega
    have ei : ((List.map stD S).length : Int) - 1 + (i : Int) * (-1) = ((P.length - 1 - i : Nat) : Int) := by rw [List.length_map]; omega
    rw [ei]
    have hx : P[P.length - 1 - i]? = some P[P.length - 1 - i] := List.getElem?_eq_getElem (by omega)
    obtain ⟨s', hs'⟩ : ∃ s', (S.map stD)[P.length - 1 - i]? = some s' := ⟨_, List.getElem?_eq_getElem (by rw [List.length_map]; omega)⟩
    obtain ⟨y, z, hy, rfl⟩ := st_lD hS hs'
    have hat := atI_nat hs'
    walk_at "ml"
    have zi := zb i
    refine goback_ok (hK _ _ hy) (by have := zi.1; omega) (by have := zi.2; omega) ?_
    walk_at "ml"
    refine ⟨by omega, _, rfl, ?_⟩
    have e3 : backN P F lv (i + 1) (plan0 P lv loss) = back1 F lv (lv + ((P.length - 1 - i : Nat) : Int)) y (backN P F lv i (plan0 P lv loss)) := by
      show back1 _ _ _ (P.getD (P.length - 1 - i) _) _ = _
      rw [List.getD_eq_getElem?_getD, hy]; rfl
    rw [e3]
  · rintro e s ⟨hi, o6, rfl, rfl⟩
    rw [down_len]
    have en : (((List.map stD S).length : Int) - 1 - -1).toNat = P.length := by rw [List.length_map]; omega
    rw [en]
    walk_at "ml"
    refine x_enum ?_
    walk_at "ml"
    refine ⟨_, _, _, rfl, rfl, ?_⟩
    refine x_loop (fun i e s => i ≤ P1.length ∧ ∃ o7 o8, e = [some (.tup [.tup (P1.map leafD), .tup (P2.map leafD), .tup (S.map stD), .int loss]), some (.tup (P1.map leafD)), some (.tup (P2.map leafD)), some (.tup (S.map stD)), some (.int loss), some (.ref st.length), o6, o7, o8, none] ∧ s = BK st lv (.tup (F.map sD)) ((fillN P1 lv i (backN P F lv P.length (plan0 P lv loss))).1.map lD) (fillN P1 lv i (backN P F lv P.length (plan0 P lv loss))).2) ⟨Nat.zero_le _, _, _, rfl, rfl⟩ (fun _ _ _ _ => noWatch) ?_ ?_
    · rintro i x e s hx ⟨hi, o7, o8, rfl, rfl⟩
      obtain ⟨y, hy, rfl⟩ := enum_at hx
      rw [List.getElem?_map] at hy
      obtain ⟨y, hy2, rfl⟩ := Option.map_eq_some_iff.mp hy
      replace hy := hy2
      have hi2 := (List.getElem?_eq_some_iff.mp hy).1
      have zi := fillN_sz (Ls := P1) (lv := lv) (zb P.length) i
      have zi1 := zi.1
      have zi2 := zi.2
      have e3 : fillN P1 lv (i + 1) (backN P F lv P.length (plan0 P lv loss)) = fill1 lv i y.2 (fillN P1 lv i (backN P F lv P.length (plan0 P lv loss))) := by
        show fill1 _ _ (P1.getD i _).2 _ = _
        rw [List.getD_eq_getElem?_getD, hy]; rfl
      rw [e3]
      generalize fillN P1 lv i (backN P F lv P.length (plan0 P lv loss)) = s at zi1 zi2 ⊢
      obtain ⟨ls, got⟩ := s
      dsimp only at zi1 zi2 ⊢
      walk_at "ml"
      unfold fill1
      cases h : lk (i : Int) got with
      | some o =>
        simp only [h]
        rw [Option.isSome_some]
        walk_at "ml"
        exact ⟨by omega, _, _, rfl, rfl⟩
      | none =>
        simp only [h]
        rw [Option.isSome_none]
        walk_at "ml"
        refine ⟨by omega, _, _, rfl, ?_⟩
        rw [List.map_append, List.length_map]
        rfl
    · rintro e s ⟨hi, o7, o8, rfl, rfl⟩
      rw [enum_len, List.length_map]
      walk_at "ml"
      rw [List.length_map]
      refine x_mapR0 (G := fun i => .int ((lk (i : Int) (planS P1 P F lv loss).2).getD 0)) noWatch (fun i hi => ⟨_, rfl, ?_⟩) ?_
      · walk_at "ml"
        have := fillN_all (Ls := P1) (lv := lv) (s := backN P F lv P.length (plan0 P lv loss)) P1.length i hi
        obtain ⟨v, hv⟩ := Option.isSome_iff_exists.mp this
        refine z_dget BK_2 hv ⟨?_, rfl⟩
        unfold planS
        rw [hv]; rfl
      · walk_at "ml"
        have hb := planD_blw (P1 := P1) (P := P) (F := F) (lv := lv) (loss := loss) (n := st.length)
        rw [planD_eq] at q hb
        exact ⟨BK_pre, hb, q⟩
end

/-! ### the law's plan -/
structure LS (st : Sto) (f d r : Nat) (F : List Sh) (ls : List PL) (got : Got) (s : Sto) : Prop where
  pre : Pre st s
  hf : s[f]? = some (.lst (F.map sD))
  hd : s[d]? = some (dO got)
  hr : s[r]? = some (.lst (ls.map lD))
  fd : f ≠ d
  fr : f ≠ r
  dr : d ≠ r
  ld : st.length ≤ d
  lr : st.length ≤ r
section
variable {st s : Sto} {f d r : Nat} {lv : Int} {F : List Sh} {P1 P2 : List Lf} {P : List PL} {S : List St} {loss : Int} {ls ls' : List PL} {got : Got} {Q : D → Sto → Prop}
theorem LS.new (h : LS st f d r F ls got s) : LS st f d s.length F ls' got (s ++ [.lst (ls'.map lD)]) where
  pre := h.pre.app
  hf := at_app h.hf
  hd := at_app h.hd
  hr := at_new
  fd := h.fd
  fr := by have := at_lt h.hf; omega
  dr := by have := at_lt h.hd; omega
  ld := h.ld
  lr := h.pre.le
theorem LS.push (h : LS st f d r F ls got s) : LS st f d r F ls' got (s.set r (.lst (ls'.map lD))) where
  pre := h.pre.set h.lr
  hf := at_ne h.hf (fun e => h.fr e.symm)
  hd := at_ne h.hd (fun e => h.dr e.symm)
  hr := set_at h.hr
  fd := h.fd
  fr := h.fr
  dr := h.dr
  ld := h.ld
  lr := h.lr
theorem LS.psh {x : PL} {y : D} (h : LS st f d r F ls got s) (e : lD x = y) : LS st f d r F (ls ++ [x]) got (s.set r (.lst (ls.map lD ++ [y]))) := by
  have := h.push (ls' := ls ++ [x])
  rw [List.map_append] at this
  subst e
  exact this
theorem LS.put {got' : Got} (h : LS st f d r F ls got s) : LS st f d r F ls got' (s.set d (dO got')) where
  pre := h.pre.set h.ld
  hf := at_ne h.hf (fun e => h.fd e.symm)
  hd := set_at h.hd
  hr := at_ne h.hr h.dr
  fd := h.fd
  fr := h.fr
  dr := h.dr
  ld := h.ld
  lr := h.lr
theorem LS.app (h : LS st f d r F ls got s) {x : PL} {y : D} (hl : ls.length ≤ 10000) (e : lD x = y) (k : ∀ s', LS st f d r F (ls ++ [x]) got s' → Q .non s') : wp (mApp (.ref r) [y] s) Q :=
  z_app h.hr (by rw [List.length_map]; omega) rfl (k _ (h.psh e))
theorem LS.dput (h : LS st f d r F ls got s) {k v : Int} {QS : Sto → Prop} (hg : got.length ≤ 10000) (q : ∀ s', LS st f d r F ls (pt k v got) s' → QS s') : wpP (dputD (.ref d) (.int k) (.int v) s) QS :=
  z_dput h.hd (by omega) rfl (q _ h.put)
theorem LS.len (h : LS st f d r F ls got s) (q : Q (.int ls.length) s) : wp (fLen [.ref r] s) Q := z_lenR h.hr (by rw [List.length_map]; exact q)
theorem LS.add (h : LS st f d r F ls got s) {ys : List PL} (hl : ls.length + ys.length ≤ 10000) (q : ∀ r' s', LS st f d r' F (ls ++ ys) got s' → Q (.ref r') s') : wp (addN (.ref r) (.lst (ys.map lD)) s) Q := by
  refine z_addNN (a := ls.map lD) (b := ys.map lD) (by simp only [lsD, h.hr]) rfl (by rw [List.length_map, List.length_map]; omega) ?_
  rw [← List.map_append]
  exact q _ _ h.new
abbrev getD1 (y : Get) : D := .tup [.lst (y.1.map lD), .int y.2]
theorem lgets_ok {k : Kd} {ops nums : List Int} {g base : Int} (h : StK F k ops nums) (hf : s[f]? = some (.lst (F.map sD))) (q : Q (.lst ((gets F g base k ops nums).map getD1)) s) :
    wp (m__law_gets [.str k.s, .tup (nums.map D.int), .tup (ops.map D.int), .ref f, .int g, .int base] s) Q := by
  cases h with
  | two k a b hk ha hb =>
    have ha' := sh_at ha
    rcases hk with rfl | rfl | rfl | rfl | rfl
    · show wp (m__law_gets [.str "add", .tup [], .tup [.int a, .int b], .ref f, .int g, .int base] s) Q
      walk_at "run"
      walk_at "ml"
      exact q
    · show wp (m__law_gets [.str "sub", .tup [], .tup [.int a, .int b], .ref f, .int g, .int base] s) Q
      walk_at "run"
      walk_at "ml"
      exact q
    · show wp (m__law_gets [.str "times", .tup [], .tup [.int a, .int b], .ref f, .int g, .int base] s) Q
      walk_at "run"
      walk_at "ml"
      exact q
    · show wp (m__law_gets [.str "product", .tup [], .tup [.int a, .int b], .ref f, .int g, .int base] s) Q
      walk_at "run"
      walk_at "ml"
      exact q
    · show wp (m__law_gets [.str "pick", .tup [], .tup [.int a, .int b], .ref f, .int g, .int base] s) Q
      walk_at "run"
      walk_at "ml"
      exact q
  | one k a hk ha =>
    have ha' := sh_at ha
    rcases hk with rfl | rfl | rfl
    · show wp (m__law_gets [.str "turn", .tup [], .tup [.int a], .ref f, .int g, .int base] s) Q
      walk_at "run"
      walk_at "ml"
      exact q
    · show wp (m__law_gets [.str "positive", .tup [], .tup [.int a], .ref f, .int g, .int base] s) Q
      walk_at "run"
      walk_at "ml"
      exact q
    · show wp (m__law_gets [.str "total", .tup [], .tup [.int a], .ref f, .int g, .int base] s) Q
      walk_at "run"
      walk_at "ml"
      exact q
  | spread a x y ha =>
    show wp (m__law_gets [.str "spread", .tup [.int x, .int y], .tup [.int a], .ref f, .int g, .int base] s) Q
    walk_at "run"
    walk_at "ml"
    exact q
  | stretch a x ha =>
    show wp (m__law_gets [.str "stretch", .tup [.int x], .tup [.int a], .ref f, .int g, .int base] s) Q
    walk_at "run"
    walk_at "ml"
    exact q
theorem StK.np {k : Kd} {ops nums : List Int} (h : StK F k ops nums) (g base : Int) : (gets F g base k ops nums).length = npart k ∧ npart k ≤ ops.length := by
  cases h with
  | two k a b hk ha hb => rcases hk with rfl | rfl | rfl | rfl | rfl <;> exact ⟨rfl, by simp [npart]⟩
  | one k a hk ha => rcases hk with rfl | rfl | rfl <;> exact ⟨rfl, by simp [npart]⟩
  | spread a x y ha => exact ⟨rfl, by simp [npart]⟩
  | stretch a x ha => exact ⟨rfl, by simp [npart]⟩
theorem lplan_ok (hS : S.map (·.2) = P.map plS) (G : Good (P1 ++ P2) F S) (hl : (P1 ++ P2).length ≤ 20) (hF : F.length ≤ 60) (hlv : lv = (P1.length : Int) + P2.length) (hK : ∀ (i : Nat) (x : PL), P[i]? = some x → StK F x.1 x.2.2 x.2.1)
    (q : Q (planD P1 P F lv loss) st) :
    wp (m__law_plan [.tup [.tup (P1.map leafD), .tup (P2.map leafD), .tup (S.map stD), .int loss]] st) Q := by
  have hPS : P.length = S.length := by have := congrArg List.length hS; simpa using this.symm
  have hP : P.length ≤ 60 := by have := G.1; omega
  have hl1 : P1.length ≤ 20 := by rw [List.length_append] at hl; omega
  have z0 := plan0_sz (lv := lv) (loss := loss) hP
  have zb := backN_sz (P := P) (F := F) (lv := lv) z0
  have zf := fillN_sz (Ls := P1) (lv := lv) (zb P.length)
  generalize hprog : D.tup [.tup (P1.map leafD), .tup (P2.map leafD), .tup (S.map stD), .int loss] = prog
  refine wp_gc ?_
  walk_at "run"
  walk_at "ml"
  rw [← hprog]
  refine lshapes_ok G hl hF ?_
  walk_at "ml"
  rw [List.length_map, List.length_map, ← hlv]
  walk_at "ml"
  refine x_mapM (G := fun s : St => .tup [.str s.2.1, .tup (s.2.2.2.map D.int), .tup (s.2.2.1.map D.int)]) noWatch (fun s _ => ⟨_, rfl, ?_⟩) ?_
  · walk_at "ml"
    exact ⟨rfl, rfl⟩
  have hSl : (S.map fun s : St => D.tup [.str s.2.1, .tup (s.2.2.2.map D.int), .tup (s.2.2.1.map D.int)]) = P.map lD := by
    have e := congrArg (List.map fun t : PySem.Str × List Int × List Int => D.tup [.str t.1, .tup (t.2.2.map D.int), .tup (t.2.1.map D.int)]) hS
    rw [List.map_map, List.map_map] at e
    exact e
  rw [hSl]
  walk_at "ml"
  refine x_newD ?_
  walk_at "ml"
  have L0 : LS st st.length (st.length + 2) (st.length + 1) F P [] (st ++ [.lst (F.map sD)] ++ [.lst (P.map lD)] ++ [.dct [] []]) := by
    refine ⟨Pre.refl.app.app.app, at_app (at_app at_new), ?_, ?_, by omega, by omega, by omega, by omega, by omega⟩
    · rw [List.append_assoc, List.append_assoc, List.getElem?_append_right (by omega), Nat.add_sub_cancel_left]; rfl
    · rw [List.append_assoc, List.append_assoc, List.getElem?_append_right (by omega), Nat.add_sub_cancel_left]; rfl
  have e1 : (st ++ [O.lst (F.map sD)]).length = st.length + 1 := by simp
  have e2 : (st ++ [O.lst (F.map sD)] ++ [O.lst (P.map lD)]).length = st.length + 2 := by simp
  rw [e1, e2]
  generalize hs : st ++ [O.lst (F.map sD)] ++ [O.lst (P.map lD)] ++ [O.dct [] []] = s1 at L0 ⊢
  clear hs e1 e2 hSl
  generalize st.length + 2 = d at L0 ⊢
  generalize st.length + 1 = r at L0 ⊢
  generalize hf0 : st.length = f at L0 ⊢
  have hr := L0.hr
  walk_at "ml"
  refine L0.app (by omega) (x := (.fill, [1, 1, 1], [])) rfl fun s2 L1 => ?_
  walk_at "ml"
  refine L1.len ?_
  rw [List.length_append, List.length_singleton]
  have ep : lv + ((P.length + 1 : Nat) : Int) - 1 = lv + P.length := by omega
  walk_at "ml"
  rw [ep]
  refine L1.dput (by simp) fun s3 L2 => ?_
  clear hr ep
  walk_at "ml"
  refine x_loop (fun i e s => i ≤ P.length ∧ ∃ r o5 o6 o7 o8 o9 o10 o11 o12, e = [some (.tup [.tup (P1.map leafD), .tup (P2.map leafD), .tup (S.map stD), .int loss]), some (.ref f), some (.int lv), some (.ref r), some (.ref d), o5, o6, o7, o8, o9, o10, o11, o12] ∧ LS st f d r F (backN P F lv i (plan0 P lv loss)).1 (backN P F lv i (plan0 P lv loss)).2 s) ⟨Nat.zero_le _, _, _, _, _, _, _, _, _, _, rfl, L2⟩ (fun _ _ _ _ => noWatch) ?_ ?_
  · rintro i x e s hx ⟨hi, r, o5, o6, o7, o8, o9, o10, o11, o12, rfl, L⟩
    obtain ⟨hi2, rfl⟩ := range_at hx
    rw [List.length_map] at hi2
    have hi3 : i < P.length := by omega
    obtain ⟨s', hs'⟩ : ∃ s', (S.map stD)[P.length - 1 - i]? = some s' := ⟨_, List.getElem?_eq_getElem (by rw [List.length_map]; omega)⟩
    obtain ⟨y, z, hy, rfl⟩ := st_lD hS hs'
    have hat := atI_nat hs'
    have e3 : backN P F lv (i + 1) (plan0 P lv loss) = back1 F lv (lv + ((P.length - 1 - i : Nat) : Int)) y (backN P F lv i (plan0 P lv loss)) := by
      show back1 _ _ _ (P.getD (P.length - 1 - i) _) _ = _
      rw [List.getD_eq_getElem?_getD, hy]; rfl
    have zi := zb i
    have zi1 := zi.1
    have zi2 := zi.2
    rw [e3]
    generalize backN P F lv i (plan0 P lv loss) = s0 at L zi1 zi2 ⊢
    obtain ⟨ls, got⟩ := s0
    dsimp only at L zi1 zi2 ⊢
    have ei : ((List.map stD S).length : Int) - 1 - (0 + (i : Nat)) = ((P.length - 1 - i : Nat) : Int) := by rw [List.length_map]; omega
    walk_at "ml"
    rw [ei]
    walk_at "ml"
    refine z_din L.hd ?_
    walk_at "ml"
    cases ho : lk (lv + ((P.length - 1 - i : Nat) : Int)) got with
    | none =>
      rw [Option.isSome_none]
      walk_at "ml"
      refine ⟨by omega, _, _, _, _, _, _, _, _, _, rfl, ?_⟩
      unfold back1
      simp only [ho]
      exact L
    | some g =>
      rw [Option.isSome_some]
      walk_at "ml"
      refine z_dget L.hd ho ?_
      walk_at "ml"
      have hKy := hK _ _ hy
      refine lgets_ok hKy L.hf ?_
      walk_at "ml"
      rw [List.length_map, (hKy.np g 0).1]
      have hn2 := npart_le y.1
      walk_at "ml"
      refine x_loop (fun j e s => j ≤ npart y.1 ∧ ∃ r o9 o10 o11 o12, e = [some (.tup [.tup (P1.map leafD), .tup (P2.map leafD), .tup (S.map stD), .int loss]), some (.ref f), some (.int lv), some (.ref r), some (.ref d), some (.int (0 + (i : Int))), some (.int ((P.length - 1 - i : Nat) : Int)), some (.tup [.str z, .str y.1.s, .tup (y.2.2.map D.int), .tup (y.2.1.map D.int)]), some (.int g), o9, o10, o11, o12] ∧ LS st f d r F (parts F lv g y j (ls, got)).1 (parts F lv g y j (ls, got)).2 s) ⟨Nat.zero_le _, _, _, _, _, _, rfl, L⟩ (fun _ _ _ _ => noWatch) ?_ ?_
      · rintro j x e s hx ⟨hj, r, o9, o10, o11, o12, rfl, L⟩
        obtain ⟨hj2, rfl⟩ := range_at hx
        rw [Int.toNat_natCast] at hj2
        have zp := parts_sz (F := F) (lv := lv) (g := g) (x := y) (s := (ls, got)) (n := 61 + 6 * i) (m := 1 + 2 * i) ⟨zi1, zi2⟩ j
        have zp1 := zp.1
        have zp2 := zp.2
        have e4 : parts F lv g y (j + 1) (ls, got) = part F lv g y j (parts F lv g y j (ls, got)) := rfl
        rw [e4]
        generalize parts F lv g y j (ls, got) = s0 at L zp1 zp2 ⊢
        obtain ⟨ls, got⟩ := s0
        dsimp only at L zp1 zp2 ⊢
        obtain ⟨w, hw⟩ : ∃ w, (gets F g (lv + ls.length) y.1 y.2.2 y.2.1)[j]? = some w := ⟨_, List.getElem?_eq_getElem (by rw [(hKy.np g (lv + ls.length)).1]; exact hj2)⟩
        obtain ⟨v, hv⟩ : ∃ v, y.2.2[j]? = some v := ⟨_, List.getElem?_eq_getElem (by have := (hKy.np g 0).2; omega)⟩
        have hw2 : atI ((gets F g (lv + ls.length) y.1 y.2.2 y.2.1).map getD1) (0 + (j : Int)) = some (getD1 w) := by rw [Int.zero_add]; exact atI_nat (by rw [List.getElem?_map, hw]; rfl)
        have hv2 : atI (y.2.2.map D.int) (0 + (j : Int)) = some (.int v) := by rw [Int.zero_add]; exact atI_nat (by rw [List.getElem?_map, hv]; rfl)
        walk_at "ml"
        refine L.len ?_
        walk_at "ml"
        refine lgets_ok hKy L.hf ?_
        walk_at "ml"
        have hwl : w.1.length ≤ 2 := by
          have := gets_sz (F := F) (g := g) (base := lv + ls.length) (k := y.1) (ops := y.2.2) (nums := y.2.1) (j := j)
          rw [List.getD_eq_getElem?_getD, hw] at this
          exact this
        have e5 : part F lv g y j (ls, got) = giv lv v w.2 (ls ++ w.1, got) := by
          unfold part
          dsimp only
          rw [List.getD_eq_getElem?_getD, List.getD_eq_getElem?_getD, hw, hv]; rfl
        rw [e5]
        refine L.add (by omega) fun r s L => ?_
        walk_at "ml"
        refine z_din L.hd ?_
        walk_at "ml"
        unfold giv
        cases hl2 : lk v got with
        | none =>
          simp only [hl2]
          rw [Option.isSome_none]
          walk_at "ml"
          refine L.dput (by omega) fun s L => ?_
          exact ⟨by omega, _, _, _, _, _, rfl, L⟩
        | some o =>
          simp only [hl2]
          rw [Option.isSome_some]
          have hr := L.hr
          walk_at "ml"
          refine z_dget L.hd hl2 ?_
          walk_at "ml"
          refine L.app (by rw [List.length_append]; omega) (x := (.add, [], [o, w.2])) rfl fun s L => ?_
          walk_at "ml"
          refine L.len ?_
          have e6 : lv + ((ls ++ w.1 ++ [((.add, [], [o, w.2]) : PL)]).length : Int) - 1 = lv + ((ls ++ w.1).length : Int) := by
            rw [List.length_append (as := ls ++ w.1), List.length_singleton]; omega
          walk_at "ml"
          rw [e6]
          refine L.dput (by omega) fun s L => ?_
          exact ⟨by omega, _, _, _, _, _, rfl, L⟩
      · rintro e s ⟨hj, r, o9, o10, o11, o12, rfl, L⟩
        walk_at "ml"
        refine ⟨by omega, _, _, _, _, _, _, _, _, _, rfl, ?_⟩
        rw [range_len, Int.toNat_natCast] at L
        unfold back1
        simp only [ho]
        exact L
  · rintro e s ⟨hi, r, o5, o6, o7, o8, o9, o10, o11, o12, rfl, L⟩
    rw [range_len, List.length_map, Int.toNat_natCast, ← hPS] at L
    walk_at "ml"
    refine x_loop (fun i e s => i ≤ P1.length ∧ ∃ r o5, e = [some (.tup [.tup (P1.map leafD), .tup (P2.map leafD), .tup (S.map stD), .int loss]), some (.ref f), some (.int lv), some (.ref r), some (.ref d), o5, o6, o7, o8, o9, o10, o11, o12] ∧ LS st f d r F (fillN P1 lv i (backN P F lv P.length (plan0 P lv loss))).1 (fillN P1 lv i (backN P F lv P.length (plan0 P lv loss))).2 s) ⟨Nat.zero_le _, _, _, rfl, L⟩ (fun _ _ _ _ => noWatch) ?_ ?_
    · rintro i x e s hx ⟨hi, r, o5, rfl, L⟩
      obtain ⟨hi2, rfl⟩ := range_at hx
      rw [List.length_map, Int.toNat_natCast] at hi2
      obtain ⟨y, hy⟩ : ∃ y, P1[i]? = some y := ⟨_, List.getElem?_eq_getElem hi2⟩
      have hat : atI (P1.map leafD) (0 + (i : Int)) = some (leafD y) := by rw [Int.zero_add]; exact atI_nat (by rw [List.getElem?_map, hy]; rfl)
      have zi := fillN_sz (Ls := P1) (lv := lv) (zb P.length) i
      have zi1 := zi.1
      have zi2 := zi.2
      have e3 : fillN P1 lv (i + 1) (backN P F lv P.length (plan0 P lv loss)) = fill1 lv i y.2 (fillN P1 lv i (backN P F lv P.length (plan0 P lv loss))) := by
        show fill1 _ _ (P1.getD i _).2 _ = _
        rw [List.getD_eq_getElem?_getD, hy]; rfl
      rw [e3]
      generalize fillN P1 lv i (backN P F lv P.length (plan0 P lv loss)) = s0 at L zi1 zi2 ⊢
      obtain ⟨ls, got⟩ := s0
      dsimp only at L zi1 zi2 ⊢
      have e0 : (0 : Int) + (i : Nat) = (i : Nat) := Int.zero_add _
      rw [e0] at hat ⊢
      have hr := L.hr
      walk_at "ml"
      refine z_dnin L.hd ?_
      walk_at "ml"
      unfold fill1
      cases h : lk (i : Int) got with
      | some o =>
        simp only [h]
        rw [Option.isSome_some]
        walk_at "ml"
        exact ⟨by omega, _, _, rfl, L⟩
      | none =>
        simp only [h]
        rw [Option.isSome_none]
        walk_at "ml"
        refine L.app (by omega) (x := (.fill, [y.2.1, y.2.2, 0], [])) rfl fun s L => ?_
        walk_at "ml"
        refine L.len ?_
        have e6 : lv + ((ls ++ [((.fill, [y.2.1, y.2.2, 0], []) : PL)]).length : Int) - 1 = lv + (ls.length : Int) := by
          rw [List.length_append, List.length_singleton]; omega
        walk_at "ml"
        rw [e6]
        refine L.dput (by omega) fun s L => ?_
        exact ⟨by omega, _, _, rfl, L⟩
    · rintro e s ⟨hi, r, o5, rfl, L⟩
      rw [range_len, List.length_map, Int.toNat_natCast] at L
      have hr := L.hr
      have hrq : sqD s (.ref r) = some ((fillN P1 lv P1.length (backN P F lv P.length (plan0 P lv loss))).1.map lD) := by simp only [sqD, hr]
      walk_at "ml"
      rw [List.length_map]
      refine x_mapR0 (G := fun i => .int ((lk (i : Int) (planS P1 P F lv loss).2).getD 0)) noWatch (fun i hi => ⟨_, rfl, ?_⟩) ?_
      · walk_at "ml"
        have := fillN_all (Ls := P1) (lv := lv) (s := backN P F lv P.length (plan0 P lv loss)) P1.length i hi
        obtain ⟨v, hv⟩ := Option.isSome_iff_exists.mp this
        refine z_dget L.hd hv ⟨?_, rfl⟩
        unfold planS
        rw [hv]; rfl
      · walk_at "ml"
        have hb := planD_blw (P1 := P1) (P := P) (F := F) (lv := lv) (loss := loss) (n := st.length)
        rw [planD_eq] at q hb
        rw [hf0] at hb
        exact ⟨L.pre, hb, q⟩
end

/-! ### the lines of the plan are such as run_lines takes -/
structure PInv (lv : Nat) (F : List Sh) (s : PS) : Prop where
  pl : PLok lv s.1
  gt : ∀ k v : Int, lk k s.2 = some v → 0 ≤ v ∧ v < (lv : Int) + s.1.length
  le : (F.length : Int) ≤ (lv : Int) + s.1.length
section
variable {lv : Nat} {F : List Sh} {s : PS} {g base v x : Int} {k : Kd} {ops nums : List Int} {j : Nat}
theorem PInv.giv (h : PInv lv F s) (h0 : 0 ≤ x) (h1 : x < (lv : Int) + s.1.length) : PInv lv F (giv lv v x s) := by
  unfold LW.giv
  split
  · rename_i o ho
    obtain ⟨o0, o1⟩ := h.gt _ _ ho
    refine ⟨h.pl.snoc rfl (by simp) fun w hw => ?_, fun k w hw => ?_, ?_⟩
    · simp only [List.mem_cons, List.not_mem_nil, or_false] at hw
      rcases hw with rfl | rfl <;> exact ⟨by assumption, by assumption⟩
    · dsimp only at hw ⊢
      rw [List.length_append, List.length_singleton]
      rw [lk_pt] at hw
      split at hw
      · cases hw; omega
      · have := h.gt _ _ hw; omega
    · have := h.le
      dsimp only
      rw [List.length_append]; omega
  · refine ⟨h.pl, fun k w hw => ?_, h.le⟩
    dsimp only at hw ⊢
    rw [lk_pt] at hw
    split at hw
    · cases hw; exact ⟨h0, h1⟩
    · exact h.gt _ _ hw
theorem PInv.gets (h : PInv lv F s) (hs : StK F k ops nums) (hF : ∀ a, okI F a → SzS (sh F a)) (hn : numOk k nums) (h0 : 0 ≤ g) (h1 : g < (lv : Int) + s.1.length) {w : Get} (hw : (gets F g ((lv : Int) + s.1.length) k ops nums)[j]? = some w) :
    PInv lv F (s.1 ++ w.1, s.2) ∧ 0 ≤ w.2 ∧ w.2 < (lv : Int) + (s.1 ++ w.1).length := by
  have ap : ∀ (y : List PL), PLok lv (s.1 ++ y) → PInv lv F (s.1 ++ y, s.2) := fun y hy => ⟨hy, fun k v hv => by
    have := h.gt k v hv
    dsimp only
    rw [List.length_append]; omega, by have := h.le; dsimp only; rw [List.length_append]; omega⟩
  have ln : ∀ y : List PL, ((s.1 ++ y).length : Int) = s.1.length + y.length := fun y => by rw [List.length_append]; omega
  have hle := h.le
  have one : ∀ (x : PL), numOk x.1 x.2.1 → x.2.2.length ≤ 2 → (∀ v, v ∈ x.2.2 → 0 ≤ v ∧ v < (lv : Int) + s.1.length) → PInv lv F (s.1 ++ [x], s.2) := fun x a b c => ap _ (h.pl.snoc a b c)
  have two : ∀ (x y : PL), numOk x.1 x.2.1 → x.2.2.length ≤ 2 → (∀ v, v ∈ x.2.2 → 0 ≤ v ∧ v < (lv : Int) + s.1.length) → numOk y.1 y.2.1 → y.2.2.length ≤ 2 → (∀ v, v ∈ y.2.2 → 0 ≤ v ∧ v < (lv : Int) + s.1.length + 1) → PInv lv F (s.1 ++ [x, y], s.2) := fun x y a b c a2 b2 c2 => ap _ (by
    have := (h.pl.snoc a b c).snoc a2 b2 (fun v hv => by have := c2 v hv; rw [List.length_append, List.length_singleton]; omega)
    rw [List.append_assoc] at this
    exact this)
  have none_ : PInv lv F (s.1 ++ [], s.2) := by rw [List.append_nil]; exact h
  have m1 : ∀ {y : Int}, 0 ≤ y → y < (lv : Int) + s.1.length → ∀ v, v ∈ [y] → 0 ≤ v ∧ v < (lv : Int) + s.1.length := fun a b v hv => by
    rw [List.mem_singleton] at hv; subst hv; exact ⟨a, b⟩
  have m2 : ∀ {y z : Int}, 0 ≤ y → y < (lv : Int) + s.1.length → 0 ≤ z → z < (lv : Int) + s.1.length → ∀ v, v ∈ [y, z] → 0 ≤ v ∧ v < (lv : Int) + s.1.length := fun a b c d v hv => by
    simp only [List.mem_cons, List.not_mem_nil, or_false] at hv
    rcases hv with rfl | rfl
    · exact ⟨a, b⟩
    · exact ⟨c, d⟩
  cases hs with
  | two k a b hk ha hb =>
    have a0 := ha.1
    have a1 : a < (lv : Int) + s.1.length := by have := ha.2; omega
    have b0 := hb.1
    have b1 : b < (lv : Int) + s.1.length := by have := hb.2; omega
    rcases hk with rfl | rfl | rfl | rfl | rfl
    · rcases j with _ | _ | j
      · cases hw; exact ⟨none_, h0, by rw [ln]; simp only [List.length_cons, List.length_nil]; omega⟩
      · cases hw; exact ⟨none_, h0, by rw [ln]; simp only [List.length_cons, List.length_nil]; omega⟩
      · cases hw
    · rcases j with _ | _ | j
      · cases hw; exact ⟨none_, h0, by rw [ln]; simp only [List.length_cons, List.length_nil]; omega⟩
      · cases hw; exact ⟨one _ ⟨_, rfl, by decide, by decide⟩ (by simp) (m1 h0 h1), by omega, by rw [ln]; simp only [List.length_cons, List.length_nil]; omega⟩
      · cases hw
    · rcases j with _ | _ | j
      · cases hw; exact ⟨one _ rfl (by simp) (m2 h0 h1 b0 b1), by omega, by rw [ln]; simp only [List.length_cons, List.length_nil]; omega⟩
      · cases hw; exact ⟨one _ rfl (by simp) (m2 h0 h1 a0 a1), by omega, by rw [ln]; simp only [List.length_cons, List.length_nil]; omega⟩
      · cases hw
    · rcases j with _ | _ | j
      · cases hw
        refine ⟨two _ _ rfl (by simp) (m1 b0 b1) rfl (by simp) fun v hv => ?_, by omega, by rw [ln]; simp only [List.length_cons, List.length_nil]; omega⟩
        simp only [List.mem_cons, List.not_mem_nil, or_false] at hv
        rcases hv with rfl | rfl <;> omega
      · cases hw
        refine ⟨two _ _ rfl (by simp) (m1 a0 a1) rfl (by simp) fun v hv => ?_, by omega, by rw [ln]; simp only [List.length_cons, List.length_nil]; omega⟩
        simp only [List.mem_cons, List.not_mem_nil, or_false] at hv
        rcases hv with rfl | rfl <;> omega
      · cases hw
    · rcases j with _ | j
      · cases hw
        exact ⟨one _ ⟨_, rfl, (hF a ha).1⟩ (by simp) (m2 b0 b1 h0 h1), by omega, by rw [ln]; simp only [List.length_cons, List.length_nil]; omega⟩
      · cases hw
  | one k a hk ha =>
    have a0 := ha.1
    have a1 : a < (lv : Int) + s.1.length := by have := ha.2; omega
    rcases hk with rfl | rfl | rfl
    · rcases j with _ | j
      · cases hw; exact ⟨one _ rfl (by simp) (m1 h0 h1), by omega, by rw [ln]; simp only [List.length_cons, List.length_nil]; omega⟩
      · cases hw
    · rcases j with _ | j
      · cases hw; exact ⟨one _ rfl (by simp) (m2 a0 a1 h0 h1), by omega, by rw [ln]; simp only [List.length_cons, List.length_nil]; omega⟩
      · cases hw
    · rcases j with _ | j
      · cases hw; exact ⟨one _ ⟨_, _, rfl, (hF a ha).1, (hF a ha).2⟩ (by simp) (m1 h0 h1), by omega, by rw [ln]; simp only [List.length_cons, List.length_nil]; omega⟩
      · cases hw
  | spread a x y ha =>
    rcases j with _ | j
    · cases hw; exact ⟨one _ rfl (by simp) (m1 h0 h1), by omega, by rw [ln]; simp only [List.length_cons, List.length_nil]; omega⟩
    · cases hw
  | stretch a x ha =>
    rcases j with _ | j
    · cases hw; exact ⟨one _ hn (by simp) (m1 h0 h1), by omega, by rw [ln]; simp only [List.length_cons, List.length_nil]; omega⟩
    · cases hw
theorem PInv.part {y : PL} (h : PInv lv F s) (hs : StK F y.1 y.2.2 y.2.1) (hF : ∀ a, okI F a → SzS (sh F a)) (hn : numOk y.1 y.2.1) (h0 : 0 ≤ g) (h1 : g < (lv : Int) + s.1.length) (hj : j < npart y.1) : PInv lv F (part F lv g y j s) := by
  obtain ⟨w, hw⟩ : ∃ w, (LW.gets F g (lv + s.1.length) y.1 y.2.2 y.2.1)[j]? = some w := ⟨_, List.getElem?_eq_getElem (by rw [(hs.np g (lv + s.1.length)).1]; exact hj)⟩
  obtain ⟨p, q0, q1⟩ := h.gets hs hF hn h0 h1 hw
  unfold LW.part
  dsimp only
  rw [List.getD_eq_getElem?_getD (l := LW.gets _ _ _ _ _ _), hw]
  exact p.giv q0 q1
theorem part_grow {y : PL} : s.1.length ≤ (part F lv g y j s).1.length := by
  unfold part LW.giv
  dsimp only
  split <;> simp <;> omega
theorem PInv.parts {y : PL} (h : PInv lv F s) (hs : StK F y.1 y.2.2 y.2.1) (hF : ∀ a, okI F a → SzS (sh F a)) (hn : numOk y.1 y.2.1) (h0 : 0 ≤ g) (h1 : g < (lv : Int) + s.1.length) : ∀ j, j ≤ npart y.1 → PInv lv F (parts F lv g y j s) ∧ s.1.length ≤ (parts F lv g y j s).1.length
  | 0, _ => ⟨h, Nat.le_refl _⟩
  | j + 1, hj => by
    obtain ⟨p, q⟩ := PInv.parts h hs hF hn h0 h1 j (by omega)
    exact ⟨p.part hs hF hn h0 (by omega) (by omega), Nat.le_trans q part_grow⟩
theorem PInv.back1 {y : PL} {own : Int} (h : PInv lv F s) (hs : StK F y.1 y.2.2 y.2.1) (hF : ∀ a, okI F a → SzS (sh F a)) (hn : numOk y.1 y.2.1) : PInv lv F (back1 F lv own y s) := by
  unfold LW.back1
  split
  · rename_i g hg
    obtain ⟨g0, g1⟩ := h.gt _ _ hg
    exact (h.parts hs hF hn g0 g1 _ (Nat.le_refl _)).1
  · exact h
theorem PInv.backN {P : List PL} (h : PInv lv F s) (hK : ∀ (i : Nat) (x : PL), P[i]? = some x → StK F x.1 x.2.2 x.2.1) (hF : ∀ a, okI F a → SzS (sh F a)) (hP : PLok lv P) : ∀ i, i ≤ P.length → PInv lv F (backN P F lv i s)
  | 0, _ => h
  | i + 1, hi => by
    have p := PInv.backN h hK hF hP i (by omega)
    obtain ⟨y, hy⟩ : ∃ y, P[P.length - 1 - i]? = some y := ⟨_, List.getElem?_eq_getElem (by omega)⟩
    unfold LW.backN
    rw [List.getD_eq_getElem?_getD, hy]
    exact p.back1 (hK _ _ hy) hF (hP _ _ hy).1
theorem PInv.fill1 {y : Sh} {i : Nat} (h : PInv lv F s) (hy : SzS y) : PInv lv F (fill1 lv i y s) := by
  unfold LW.fill1
  split
  · exact h
  · refine ⟨h.pl.snoc ⟨_, _, _, rfl, hy.1, hy.2, by decide, by decide⟩ (by simp) (fun v hv => by simp at hv), fun k w hw => ?_, ?_⟩
    · dsimp only at hw ⊢
      rw [List.length_append, List.length_singleton]
      rw [lk_pt] at hw
      split at hw
      · cases hw; omega
      · have := h.gt _ _ hw; omega
    · have := h.le
      dsimp only
      rw [List.length_append]; omega
theorem PInv.fillN {Ls : List Lf} (h : PInv lv F s) (hL : ∀ (j : Nat) (y : Lf), Ls[j]? = some y → SzS y.2) : ∀ i, i ≤ Ls.length → PInv lv F (fillN Ls lv i s)
  | 0, _ => h
  | i + 1, hi => by
    obtain ⟨y, hy⟩ : ∃ y, Ls[i]? = some y := ⟨_, List.getElem?_eq_getElem (by omega)⟩
    unfold LW.fillN
    rw [List.getD_eq_getElem?_getD, hy]
    exact (PInv.fillN h hL i (by omega)).fill1 (hL _ _ hy)
theorem planS_inv {P1 : List Lf} {P : List PL} {loss : Int} (hK : ∀ (i : Nat) (x : PL), P[i]? = some x → StK F x.1 x.2.2 x.2.1) (hF : ∀ a, okI F a → SzS (sh F a)) (hP : PLok lv P) (hFl : F.length = lv + P.length) (hL : ∀ (j : Nat) (y : Lf), P1[j]? = some y → SzS y.2) : PInv lv F (planS P1 P F lv loss) := by
  refine PInv.fillN (PInv.backN ?_ hK hF hP _ (Nat.le_refl _)) hL _ (Nat.le_refl _)
  refine ⟨hP.snoc ⟨_, _, _, rfl, by decide, by decide, by decide, by decide⟩ (by simp) (fun v hv => by simp at hv), fun k w hw => ?_, ?_⟩
  · unfold plan0 at hw ⊢
    dsimp only at hw ⊢
    rw [List.length_append, List.length_singleton]
    rw [lk_pt] at hw
    split at hw
    · cases hw; omega
    · cases hw
  · unfold plan0
    dsimp only
    rw [List.length_append]; omega
theorem outsP_ok {P1 : List Lf} (h : PInv lv F s) (hs : ∀ j : Nat, j < P1.length → (lk (j : Int) s.2).isSome = true) : ∀ v, v ∈ outsP P1.length s.2 → 0 ≤ v ∧ v < (lv : Int) + s.1.length := fun v hv => by
  obtain ⟨i, hi, rfl⟩ := List.mem_map.mp hv
  obtain ⟨w, hw⟩ := Option.isSome_iff_exists.mp (hs i (List.mem_range.mp hi))
  rw [hw]
  exact h.gt _ _ hw
theorem planS_sz {P1 : List Lf} {P : List PL} {loss : Int} (hP : P.length ≤ 60) (h1 : P1.length ≤ 20) : (planS P1 P F lv loss).1.length ≤ 500 := by
  have := (fillN_sz (Ls := P1) (lv := lv) (backN_sz (P := P) (F := F) (lv := lv) (plan0_sz (lv := lv) (loss := loss) hP) P.length) P1.length).1
  unfold planS
  omega
end

theorem law_true (ns : List Int) (hn : ns.length ≤ 63) : ∃ st, m_law [.sq (ns.map D.int)] [] = some (.bl true, st) := by
  suffices h : wp (m_law [.sq (ns.map D.int)] []) fun d _ => d = .bl true by
    obtain ⟨d, s, e, rfl⟩ := h
    exact ⟨s, e⟩
  walk_at "run"
  walk_at "ml"
  refine pool_ok fun P => ?_
  walk_at "ml"
  refine pick P (by decide) (by decide) fun x s1 hx P1 o1 => ?_
  obtain ⟨m, rfl, hm⟩ : ∃ m, x = .int m ∧ 1 ≤ m ∧ m ≤ 22 := by
    simp only [List.mem_cons, List.not_mem_nil, or_false] at hx
    rcases hx with rfl | rfl | rfl <;> exact ⟨_, rfl, by decide, by decide⟩
  walk_at "ml"
  refine program_ok P1 hm fun A1 A2 F S loss s2 G P2 => ?_
  have hsz : ∀ (j : Nat) (y : Lf), (A1 ++ A2)[j]? = some y → SzS y.2 := fun j y hy => (G.leaf j y hy).1
  have hp1 := G.p1
  have hp2 := G.p2
  obtain ⟨PS, hS, hPS⟩ := G.good.pl
  have hgl := G.good.1
  have hall := G.all
  have hSl : S.length = PS.length := by simpa using congrArg List.length hS
  have hK := G.good.stk hS
  have hl : (A1 ++ A2).length ≤ 20 := by rw [List.length_append]; omega
  have hlv : ((A1 ++ A2).length : Int) = (A1.length : Int) + A2.length := by rw [List.length_append]; omega
  have inv := planS_inv (P1 := A1) (P := PS) (loss := loss) hK (fun a ha => G.sz ha) hPS (by rw [← hSl]; exact hgl) (fun j y hy => hsz j y (by rw [List.getElem?_append_left (List.getElem?_eq_some_iff.mp hy).1]; exact hy))
  walk_at "ml"
  refine plan_ok hS G.good hl (by omega) hlv hK ?_
  walk_at "ml"
  refine lplan_ok hS G.good hl (by omega) hlv hK ?_
  walk_at "ml"
  refine same_t (m := 7) ?_ rfl
  refine .tup (by simp) fun d hd => ?_
  simp only [List.mem_cons, List.not_mem_nil, or_false] at hd
  rcases hd with rfl | rfl | rfl | rfl
  · exact .int _
  · have hs := planS_sz (lv := (A1 ++ A2).length) (F := F) (loss := loss) (P := PS) (P1 := A1) (by omega) (by omega)
    refine .tup (by rw [List.length_map]; omega) fun d hd => ?_
    obtain ⟨x, hx, rfl⟩ := List.mem_map.mp hd
    obtain ⟨i, hi⟩ := List.getElem?_of_mem hx
    obtain ⟨h1, h2, _⟩ := inv.pl i x hi
    exact .ln (Nat.le_trans (numOk_len h1) (by decide)) (by omega)
  · exact .int _
  · exact .ints (by unfold outsP; simp; omega)

structure FTX [Tbs] (P : Program) (K : Frag) (w : World) (mg : PySem.Str → Option Value) (base : Heap) (f_step_shape f_shapes f_plan f__law_pool f__law_draw f__law_pick f__law_same f__law_name f__law_fits f__law_step_shape f__law_step f__law_program f__law_shapes f__law_gets f__law_plan f_law f_Back_Back___init__ f_Back_Back_give f_Back_Back_go_back f_Back_Back_first_part f_Back_Back_second_part f_Back_Lines___init__ f_Back_Lines_line C_Back ca_Back_Back___init__ cc_Back_Back___init__ : Addr) (d_step_shape d_shapes d_plan d__law_pool d__law_draw d__law_pick d__law_same d__law_name d__law_fits d__law_step_shape d__law_step d__law_program d__law_shapes d__law_gets d__law_plan d_law d_Back_Back___init__ d_Back_Back_give d_Back_Back_go_back d_Back_Back_first_part d_Back_Back_second_part d_Back_Lines___init__ d_Back_Lines_line : FuncData) : Prop where
  F_step_shape : Fun K "step_shape" "step_shape" s_step_shape f_step_shape d_step_shape
  g_step_shape : mg "step_shape" = some (.ref f_step_shape)
  b_step_shape : Binds K d_step_shape ["kind", "found", "numbers"] []
  F_shapes : Fun K "shapes" "shapes" s_shapes f_shapes d_shapes
  g_shapes : mg "shapes" = some (.ref f_shapes)
  b_shapes : Binds K d_shapes ["program"] []
  F_plan : Fun K "plan" "plan" s_plan f_plan d_plan
  g_plan : mg "plan" = some (.ref f_plan)
  b_plan : Binds K d_plan ["program"] []
  F__law_pool : Fun K "_law_pool" "_law_pool" s__law_pool f__law_pool d__law_pool
  g__law_pool : mg "_law_pool" = some (.ref f__law_pool)
  b__law_pool : Binds K d__law_pool ["_law_script"] []
  F__law_draw : Fun K "_law_draw" "_law_draw" s__law_draw f__law_draw d__law_draw
  g__law_draw : mg "_law_draw" = some (.ref f__law_draw)
  b__law_draw : Binds K d__law_draw ["_law_pool_here", "_law_many"] []
  F__law_pick : Fun K "_law_pick" "_law_pick" s__law_pick f__law_pick d__law_pick
  g__law_pick : mg "_law_pick" = some (.ref f__law_pick)
  b__law_pick : Binds K d__law_pick ["_law_pool_here", "_law_rows"] []
  F__law_same : Fun K "_law_same" "_law_same" s__law_same f__law_same d__law_same
  g__law_same : mg "_law_same" = some (.ref f__law_same)
  b__law_same : Binds K d__law_same ["_law_actual", "_law_due"] []
  F__law_name : Fun K "_law_name" "_law_name" s__law_name f__law_name d__law_name
  g__law_name : mg "_law_name" = some (.ref f__law_name)
  b__law_name : Binds K d__law_name ["_law_pool_here", "_law_index"] []
  F__law_fits : Fun K "_law_fits" "_law_fits" s__law_fits f__law_fits d__law_fits
  g__law_fits : mg "_law_fits" = some (.ref f__law_fits)
  b__law_fits : Binds K d__law_fits ["_law_kind", "_law_found", "_law_a", "_law_b"] []
  F__law_step_shape : Fun K "_law_step_shape" "_law_step_shape" s__law_step_shape f__law_step_shape d__law_step_shape
  g__law_step_shape : mg "_law_step_shape" = some (.ref f__law_step_shape)
  b__law_step_shape : Binds K d__law_step_shape ["_law_kind", "_law_found", "_law_values", "_law_numbers"] []
  F__law_step : Fun K "_law_step" "_law_step" s__law_step f__law_step d__law_step
  g__law_step : mg "_law_step" = some (.ref f__law_step)
  b__law_step : Binds K d__law_step ["_law_pool_here", "_law_found", "_law_own", "_law_leaves"] []
  F__law_program : Fun K "_law_program" "_law_program" s__law_program f__law_program d__law_program
  g__law_program : mg "_law_program" = some (.ref f__law_program)
  b__law_program : Binds K d__law_program ["_law_pool_here", "_law_most"] []
  F__law_shapes : Fun K "_law_shapes" "_law_shapes" s__law_shapes f__law_shapes d__law_shapes
  g__law_shapes : mg "_law_shapes" = some (.ref f__law_shapes)
  b__law_shapes : Binds K d__law_shapes ["_law_program_here"] []
  F__law_gets : Fun K "_law_gets" "_law_gets" s__law_gets f__law_gets d__law_gets
  g__law_gets : mg "_law_gets" = some (.ref f__law_gets)
  b__law_gets : Binds K d__law_gets ["_law_kind", "_law_numbers", "_law_values", "_law_found", "_law_g", "_law_base"] []
  F__law_plan : Fun K "_law_plan" "_law_plan" s__law_plan f__law_plan d__law_plan
  g__law_plan : mg "_law_plan" = some (.ref f__law_plan)
  b__law_plan : Binds K d__law_plan ["_law_program_here"] []
  F_law : Fun K "law" "law" s_law f_law d_law
  g_law : mg "law" = some (.ref f_law)
  b_law : Binds K d_law ["_law_script"] []
  lk_Back_Back___init__ : ∃ (oc dV kV doc pm ct : Value) (od an : Option Addr) (osl : Array (Option Value)), d_Back_Back___init__ = PySem.W.fnX (nf_Back_Back___init__ ca_Back_Back___init__ cc_Back_Back___init__).name (nf_Back_Back___init__ ca_Back_Back___init__ cc_Back_Back___init__).qual (nf_Back_Back___init__ ca_Back_Back___init__ cc_Back_Back___init__).params (nf_Back_Back___init__ ca_Back_Back___init__ cc_Back_Back___init__).body (nf_Back_Back___init__ ca_Back_Back___init__ cc_Back_Back___init__).scope (nf_Back_Back___init__ ca_Back_Back___init__ cc_Back_Back___init__).cl dV kV doc pm an (.ref ca_Back_Back___init__) ct ∧ K.lookup f_Back_Back___init__ = some ⟨oc, od, .func d_Back_Back___init__, osl⟩
  hc_Back_Back___init__ : PySem.W.codeIn K (.ref ca_Back_Back___init__) "Back.__init__" = true
  su_Back_Back___init__ : SUO.SupT P K (nf_Back_Back___init__ ca_Back_Back___init__ cc_Back_Back___init__) f_Back_Back___init__ C_Back cc_Back_Back___init__ "__init__" f_Back_Lines___init__
  b_Back_Back___init__ : Binds K d_Back_Back___init__ ["self", "program"] []
  F_Back_Back_give : Fun K "give" "Back.give" s_Back_Back_give f_Back_Back_give d_Back_Back_give
  b_Back_Back_give : Binds K d_Back_Back_give ["self", "value", "given"] []
  mt_Back_Back_give : Meth K C_Back "give" f_Back_Back_give
  F_Back_Back_go_back : Fun K "go_back" "Back.go_back" s_Back_Back_go_back f_Back_Back_go_back d_Back_Back_go_back
  b_Back_Back_go_back : Binds K d_Back_Back_go_back ["self", "step", "own"] []
  mt_Back_Back_go_back : Meth K C_Back "go_back" f_Back_Back_go_back
  F_Back_Back_first_part : Fun K "first_part" "Back.first_part" s_Back_Back_first_part f_Back_Back_first_part d_Back_Back_first_part
  b_Back_Back_first_part : Binds K d_Back_Back_first_part ["self", "kind", "values", "numbers", "given"] []
  mt_Back_Back_first_part : Meth K C_Back "first_part" f_Back_Back_first_part
  F_Back_Back_second_part : Fun K "second_part" "Back.second_part" s_Back_Back_second_part f_Back_Back_second_part d_Back_Back_second_part
  b_Back_Back_second_part : Binds K d_Back_Back_second_part ["self", "kind", "values", "given"] []
  mt_Back_Back_second_part : Meth K C_Back "second_part" f_Back_Back_second_part
  F_Back_Lines___init__ : Fun K "__init__" "Lines.__init__" s_Back_Lines___init__ f_Back_Lines___init__ d_Back_Lines___init__
  b_Back_Lines___init__ : Binds K d_Back_Lines___init__ ["self", "leaves"] []
  F_Back_Lines_line : Fun K "line" "Lines.line" s_Back_Lines_line f_Back_Lines_line d_Back_Lines_line
  mt_Back_Lines_line : Meth K C_Back "line" f_Back_Lines_line
  bm_Back_Lines_line : BMeth K C_Back "line" f_Back_Lines_line
  g_Back : mg "Back" = some (.ref C_Back)
  a_Back : PySem.W.nsIn K mainGlobals "Back" = some (some (.ref C_Back))
  c_Back : Cls K C_Back
  mk_Back : Mk K C_Back f_Back_Back___init__
  cf_Back_got : ClsF K "Back" "got"
  cf_Back_leaves : ClsF K "Back" "leaves"
  cf_Back_lines : ClsF K "Back" "lines"
  cf_Back_shapes : ClsF K "Back" "shapes"
  n_abs : mg "abs" = none
  n_bool : mg "bool" = none
  n_enumerate : mg "enumerate" = none
  n_int : mg "int" = none
  n_isinstance : mg "isinstance" = none
  n_len : mg "len" = none
  n_list : mg "list" = none
  n_min : mg "min" = none
  n_range : mg "range" = none
  n_str : mg "str" = none
  n_tuple : mg "tuple" = none
section
variable [Tbs] {P : Program} {w : World} {K : Frag} {mg : PySem.Str → Option Value} {base : Heap} {f_step_shape f_shapes f_plan f__law_pool f__law_draw f__law_pick f__law_same f__law_name f__law_fits f__law_step_shape f__law_step f__law_program f__law_shapes f__law_gets f__law_plan f_law f_Back_Back___init__ f_Back_Back_give f_Back_Back_go_back f_Back_Back_first_part f_Back_Back_second_part f_Back_Lines___init__ f_Back_Lines_line C_Back ca_Back_Back___init__ cc_Back_Back___init__ : Addr} {d_step_shape d_shapes d_plan d__law_pool d__law_draw d__law_pick d__law_same d__law_name d__law_fits d__law_step_shape d__law_step d__law_program d__law_shapes d__law_gets d__law_plan d_law d_Back_Back___init__ d_Back_Back_give d_Back_Back_go_back d_Back_Back_first_part d_Back_Back_second_part d_Back_Lines___init__ d_Back_Lines_line : FuncData}
theorem ok_step_shape (T : FTX P K w mg base f_step_shape f_shapes f_plan f__law_pool f__law_draw f__law_pick f__law_same f__law_name f__law_fits f__law_step_shape f__law_step f__law_program f__law_shapes f__law_gets f__law_plan f_law f_Back_Back___init__ f_Back_Back_give f_Back_Back_go_back f_Back_Back_first_part f_Back_Back_second_part f_Back_Lines___init__ f_Back_Lines_line C_Back ca_Back_Back___init__ cc_Back_Back___init__ d_step_shape d_shapes d_plan d__law_pool d__law_draw d__law_pick d__law_same d__law_name d__law_fits d__law_step_shape d__law_step d__law_program d__law_shapes d__law_gets d__law_plan d_law d_Back_Back___init__ d_Back_Back_give d_Back_Back_go_back d_Back_Back_first_part d_Back_Back_second_part d_Back_Lines___init__ d_Back_Lines_line) : FnOk P w K mg base CX0 1 f_step_shape d_step_shape ["kind", "found", "numbers"] (spF K 3 m_step_shape) := by
  refine (fn_ok (k := 0) T.F_step_shape sc_step_shape fun cdv A outer s H E hr => ?_)
  exact (k_cons (k_if (t_ne hr (c_len rfl T.n_len (a_cons (c_v 1) a_nil)) (c_if (t_in hr (c_v 0) (c_tup (a_cons c_str (a_cons c_str (a_cons c_str (a_cons c_str (a_cons c_str a_nil))))))) c_int c_int))
    (k_one (k_ret c_non))
    k_nil)
    (k_cons (k_set (i := 3) sc_step_shape.nd (c_ix (c_v 1) c_int))
    (k_cons (k_if (t_in hr (c_v 0) (c_tup (a_cons c_str (a_cons c_str (a_cons c_str a_nil)))))
    (k_one (k_ret (c_if (t_eq hr (c_v 3) (c_ix (c_v 1) c_int)) (c_v 3) c_non)))
    k_nil)
    (k_cons (k_if (t_eq hr (c_v 0) c_str)
    (k_one (k_ret (c_if (t_eq hr (c_ix (c_v 3) c_int) (c_ix (c_ix (c_v 1) c_int) c_int)) (c_tup (a_cons (c_ix (c_v 3) c_int) (a_cons (c_ix (c_ix (c_v 1) c_int) c_int) a_nil))) c_non)))
    k_nil)
    (k_cons (k_if (t_eq hr (c_v 0) c_str)
    (k_one (k_ret (c_if (t_eq hr (c_ix (c_ix (c_v 1) c_int) c_int) c_int) (c_tup (a_cons (c_ix (c_ix (c_v 1) c_int) c_int) (a_cons (c_ix (c_v 3) c_int) a_nil))) c_non)))
    k_nil)
    (k_cons (k_if (t_eq hr (c_v 0) c_str)
    (k_one (k_ret (c_tup (a_cons (c_ix (c_v 3) c_int) (a_cons (c_ix (c_v 3) c_int) a_nil)))))
    k_nil)
    (k_cons (k_if (t_eq hr (c_v 0) c_str)
    (k_one (k_ret (c_tup (a_cons c_int (a_cons c_int a_nil)))))
    k_nil)
    (k_cons (k_if (t_eq hr (c_v 0) c_str)
    (k_one (k_ret (c_if (t_eq hr (c_v 3) (c_tup (a_cons c_int (a_cons c_int a_nil)))) (c_tup (a_cons (c_ix (c_v 2) c_int) (a_cons (c_ix (c_v 2) c_int) a_nil))) c_non)))
    k_nil)
    (k_one (k_ret (c_v 3)))))))))))
theorem ok_shapes (T : FTX P K w mg base f_step_shape f_shapes f_plan f__law_pool f__law_draw f__law_pick f__law_same f__law_name f__law_fits f__law_step_shape f__law_step f__law_program f__law_shapes f__law_gets f__law_plan f_law f_Back_Back___init__ f_Back_Back_give f_Back_Back_go_back f_Back_Back_first_part f_Back_Back_second_part f_Back_Lines___init__ f_Back_Lines_line C_Back ca_Back_Back___init__ cc_Back_Back___init__ d_step_shape d_shapes d_plan d__law_pool d__law_draw d__law_pick d__law_same d__law_name d__law_fits d__law_step_shape d__law_step d__law_program d__law_shapes d__law_gets d__law_plan d_law d_Back_Back___init__ d_Back_Back_give d_Back_Back_go_back d_Back_Back_first_part d_Back_Back_second_part d_Back_Lines___init__ d_Back_Lines_line) : FnOk P w K mg base CX0 2 f_shapes d_shapes ["program"] (spF K 1 m_shapes) := by
  refine sp_gc (fn_ok (k := 1) T.F_shapes sc_shapes fun cdv A outer s H E hr => ?_)
  exact (k_cons (k_bind (c_v 0) (g_tp (g_cons (g_nm (i := 1) sc_shapes.nd) (g_cons (g_nm (i := 2) sc_shapes.nd) (g_cons (g_nm (i := 3) sc_shapes.nd) (g_cons (g_nm (i := 4) sc_shapes.nd) g_nil))))))
    (k_cons (k_set (i := 5) sc_shapes.nd (c_cmpN (own := [("name", 6), ("rows", 10), ("columns", 11)]) rfl sc_shapes.nd (i_seq (c_add (c_v 1) (c_v 2))) (blkOk_by (own := [("name", 6), ("rows", 10), ("columns", 11)]) (N := N_shapes) (sc := defScope s_shapes) (by decide +kernel)) rfl (fun _ _ _ _ _ => (g_tp (g_cons (g_nm (i := 6) sc_shapes.nd) (g_cons (g_nm (i := 10) sc_shapes.nd) (g_cons (g_nm (i := 11) sc_shapes.nd) g_nil))))) (fun _ _ _ _ _ => l_nil) (fun _ _ _ _ _ => (c_tup (a_cons (c_v 10) (a_cons (c_v 11) a_nil))))))
    (k_cons (k_for PassesOwn.never rfl (i_seq (c_v 3)) (g_tp (g_cons (g_nm (i := 6) sc_shapes.nd) (g_cons (g_nm (i := 7) sc_shapes.nd) (g_cons (g_nm (i := 8) sc_shapes.nd) (g_cons (g_nm (i := 9) sc_shapes.nd) g_nil)))))
    (k_one (k_exp (c_bm PySem.F.plainAttrs_list PySem.F.slot_list_append PySem.F.type_list_append mt_append s_app (c_v 5) (a_cons (c_call (ok_step_shape T) (hr.mono (by omega)) rfl T.g_step_shape T.F_step_shape.kp T.b_step_shape (a_cons (c_v 7) (a_cons (c_cmp_ (own := [("value", 12)]) rfl sc_shapes.nd (i_seq (c_v 8)) (blkOk_by (own := [("value", 12)]) (N := N_shapes) (sc := defScope s_shapes) (by decide +kernel)) rfl (fun _ _ _ _ _ => (g_nm (i := 12) sc_shapes.nd)) (fun _ _ _ _ _ => l_nil) (fun _ _ _ _ _ => (c_ix (c_v 5) (c_v 12)))) (a_cons (c_v 9) a_nil)))) a_nil)))))
    (k_one (k_ret (c_tupc rfl T.n_tuple (a_cons (c_v 5) a_nil)))))))
theorem ok_Back_Lines___init__ (T : FTX P K w mg base f_step_shape f_shapes f_plan f__law_pool f__law_draw f__law_pick f__law_same f__law_name f__law_fits f__law_step_shape f__law_step f__law_program f__law_shapes f__law_gets f__law_plan f_law f_Back_Back___init__ f_Back_Back_give f_Back_Back_go_back f_Back_Back_first_part f_Back_Back_second_part f_Back_Lines___init__ f_Back_Lines_line C_Back ca_Back_Back___init__ cc_Back_Back___init__ d_step_shape d_shapes d_plan d__law_pool d__law_draw d__law_pick d__law_same d__law_name d__law_fits d__law_step_shape d__law_step d__law_program d__law_shapes d__law_gets d__law_plan d_law d_Back_Back___init__ d_Back_Back_give d_Back_Back_go_back d_Back_Back_first_part d_Back_Back_second_part d_Back_Lines___init__ d_Back_Lines_line) : FnOk P w K mg base CX0 1 f_Back_Lines___init__ d_Back_Lines___init__ ["self", "leaves"] (spF K 2 m_Back_Lines___init__) := by
  refine (fn_ok (k := 0) T.F_Back_Lines___init__ sc_Back_Lines___init__ fun cdv A outer s H E hr => ?_)
  exact (k_cons (k_setF (c_v 0) (c_v 1) T.cf_Back_leaves)
    (k_one (k_setF (c_v 0) (c_new a_nil) T.cf_Back_lines)))
theorem ok_Back_Lines_line (T : FTX P K w mg base f_step_shape f_shapes f_plan f__law_pool f__law_draw f__law_pick f__law_same f__law_name f__law_fits f__law_step_shape f__law_step f__law_program f__law_shapes f__law_gets f__law_plan f_law f_Back_Back___init__ f_Back_Back_give f_Back_Back_go_back f_Back_Back_first_part f_Back_Back_second_part f_Back_Lines___init__ f_Back_Lines_line C_Back ca_Back_Back___init__ cc_Back_Back___init__ d_step_shape d_shapes d_plan d__law_pool d__law_draw d__law_pick d__law_same d__law_name d__law_fits d__law_step_shape d__law_step d__law_program d__law_shapes d__law_gets d__law_plan d_law d_Back_Back___init__ d_Back_Back_give d_Back_Back_go_back d_Back_Back_first_part d_Back_Back_second_part d_Back_Lines___init__ d_Back_Lines_line) : FnR P w K mg base CX0 1 f_Back_Lines_line (spFS K (arS 3 m_Back_Lines_line)) := by
  refine fn_okS (k := 0) (ps := ["self", "kind", "numbers"]) T.F_Back_Lines_line sc_Back_Lines_line (fun kV doc pm an cdv ct => bind_star3 (B := fun us => bindArgs (PySem.W.fnOf "line" "Lines.line" (defArgs s_Back_Lines_line) (defBody s_Back_Lines_line) (defScope s_Back_Lines_line) .none kV doc pm an cdv ct) ⟨us, []⟩) (fun _ _ _ => rfl) (fun _ _ _ _ _ => rfl)) fun cdv A outer s H E hr => ?_
  exact (k_cons (k_exp (c_bm PySem.F.plainAttrs_list PySem.F.slot_list_append PySem.F.type_list_append mt_append s_app (c_fld (c_v 0) T.cf_Back_lines) (a_cons (c_tup (a_cons (c_v 1) (a_cons (c_v 2) (a_cons (c_v 3) a_nil)))) a_nil)))
    (k_one (k_ret (c_sub (c_add (c_fld (c_v 0) T.cf_Back_leaves) (c_len rfl T.n_len (a_cons (c_fld (c_v 0) T.cf_Back_lines) a_nil))) c_int))))
theorem ok_Back_Back___init__ (T : FTX P K w mg base f_step_shape f_shapes f_plan f__law_pool f__law_draw f__law_pick f__law_same f__law_name f__law_fits f__law_step_shape f__law_step f__law_program f__law_shapes f__law_gets f__law_plan f_law f_Back_Back___init__ f_Back_Back_give f_Back_Back_go_back f_Back_Back_first_part f_Back_Back_second_part f_Back_Lines___init__ f_Back_Lines_line C_Back ca_Back_Back___init__ cc_Back_Back___init__ d_step_shape d_shapes d_plan d__law_pool d__law_draw d__law_pick d__law_same d__law_name d__law_fits d__law_step_shape d__law_step d__law_program d__law_shapes d__law_gets d__law_plan d_law d_Back_Back___init__ d_Back_Back_give d_Back_Back_go_back d_Back_Back_first_part d_Back_Back_second_part d_Back_Lines___init__ d_Back_Lines_line) : FnOk P w K mg base CX0 3 f_Back_Back___init__ d_Back_Back___init__ ["self", "program"] (spF K 2 m_Back_Back___init__) := by
  obtain ⟨oc, dV, kV, doc, pm, ct, od, an, osl, hd, lk⟩ := T.lk_Back_Back___init__
  rw [hd] at lk ⊢
  refine fn_okU (k := 2) (F := nf_Back_Back___init__ ca_Back_Back___init__ cc_Back_Back___init__) lk T.hc_Back_Back___init__ sc_Back_Back___init__ rfl T.su_Back_Back___init__.cell fun A outer s H E hr => ?_
  exact (ka_cons (ka_of (k_bind (c_v 1) (g_tp (g_cons (g_nm (i := 3) sc_Back_Back___init__.nd) (g_cons (g_nm (i := 4) sc_Back_Back___init__.nd) (g_cons (g_nm (i := 5) sc_Back_Back___init__.nd) (g_cons (g_nm (i := 6) sc_Back_Back___init__.nd) g_nil)))))))
    (ka_cons (ka_super (i := 0) T.su_Back_Back___init__ T.a_Back rfl rfl rfl (ok_Back_Lines___init__ T) (hr.mono (by omega)) T.b_Back_Lines___init__ (c_add (c_len rfl T.n_len (a_cons (c_v 3) a_nil)) (c_len rfl T.n_len (a_cons (c_v 4) a_nil))))
    (ka_rest (k_cons (k_setF (c_v 0) (c_call (ok_shapes T) (hr.mono (by omega)) rfl T.g_shapes T.F_shapes.kp T.b_shapes (a_cons (c_v 1) a_nil)) T.cf_Back_shapes)
    (k_cons (k_setF (c_v 0) c_newD T.cf_Back_got)
    (k_cons (k_for PassesOwn.never rfl (i_seq (c_v 5)) (g_tp (g_cons (g_nm (i := 7) sc_Back_Back___init__.nd) (g_cons (g_nm (i := 8) sc_Back_Back___init__.nd) (g_cons (g_nm (i := 9) sc_Back_Back___init__.nd) (g_cons (g_nm (i := 10) sc_Back_Back___init__.nd) g_nil)))))
    (k_one (k_exp (c_methSC T.a_Back (c_v 0) T.c_Back T.bm_Back_Lines_line (ok_Back_Lines_line T) (hr.mono (by omega)) (c_v 8) (c_v 10) (c_v 9)))))
    (k_one (k_setD (hu1 hr) (c_fld (c_v 0) T.cf_Back_got) (c_v 6) (c_methS T.a_Back (c_v 0) T.c_Back T.mt_Back_Lines_line (ok_Back_Lines_line T) (hr.mono (by omega)) (a_cons c_str (a_cons (c_tup (a_cons c_int (a_cons c_int (a_cons c_int a_nil)))) a_nil)))))))))))
theorem ok_Back_Back_first_part (T : FTX P K w mg base f_step_shape f_shapes f_plan f__law_pool f__law_draw f__law_pick f__law_same f__law_name f__law_fits f__law_step_shape f__law_step f__law_program f__law_shapes f__law_gets f__law_plan f_law f_Back_Back___init__ f_Back_Back_give f_Back_Back_go_back f_Back_Back_first_part f_Back_Back_second_part f_Back_Lines___init__ f_Back_Lines_line C_Back ca_Back_Back___init__ cc_Back_Back___init__ d_step_shape d_shapes d_plan d__law_pool d__law_draw d__law_pick d__law_same d__law_name d__law_fits d__law_step_shape d__law_step d__law_program d__law_shapes d__law_gets d__law_plan d_law d_Back_Back___init__ d_Back_Back_give d_Back_Back_go_back d_Back_Back_first_part d_Back_Back_second_part d_Back_Lines___init__ d_Back_Lines_line) : FnOk P w K mg base CX0 2 f_Back_Back_first_part d_Back_Back_first_part ["self", "kind", "values", "numbers", "given"] (spF K 5 m_Back_Back_first_part) := by
  refine (fn_ok (k := 1) T.F_Back_Back_first_part sc_Back_Back_first_part fun cdv A outer s H E hr => ?_)
  exact (k_cons (k_if (t_eq hr (c_v 1) c_str)
    (k_one (k_ret (c_methS T.a_Back (c_v 0) T.c_Back T.mt_Back_Lines_line (ok_Back_Lines_line T) (hr.mono (by omega)) (a_cons c_str (a_cons (c_tup a_nil) (a_cons (c_v 4) (a_cons (c_ix (c_v 2) c_int) a_nil)))))))
    k_nil)
    (k_cons (k_if (t_eq hr (c_v 1) c_str)
    (k_one (k_ret (c_methS T.a_Back (c_v 0) T.c_Back T.mt_Back_Lines_line (ok_Back_Lines_line T) (hr.mono (by omega)) (a_cons c_str (a_cons (c_tup a_nil) (a_cons (c_v 4) (a_cons (c_methS T.a_Back (c_v 0) T.c_Back T.mt_Back_Lines_line (ok_Back_Lines_line T) (hr.mono (by omega)) (a_cons c_str (a_cons (c_tup a_nil) (a_cons (c_ix (c_v 2) c_int) a_nil)))) a_nil)))))))
    k_nil)
    (k_cons (k_if (t_eq hr (c_v 1) c_str)
    (k_one (k_ret (c_methS T.a_Back (c_v 0) T.c_Back T.mt_Back_Lines_line (ok_Back_Lines_line T) (hr.mono (by omega)) (a_cons c_str (a_cons (c_tup a_nil) (a_cons (c_v 4) a_nil))))))
    k_nil)
    (k_cons (k_if (t_eq hr (c_v 1) c_str)
    (k_one (k_ret (c_methS T.a_Back (c_v 0) T.c_Back T.mt_Back_Lines_line (ok_Back_Lines_line T) (hr.mono (by omega)) (a_cons c_str (a_cons (c_tup a_nil) (a_cons (c_ix (c_v 2) c_int) (a_cons (c_v 4) a_nil)))))))
    k_nil)
    (k_cons (k_if (t_eq hr (c_v 1) c_str)
    (k_one (k_ret (c_methS T.a_Back (c_v 0) T.c_Back T.mt_Back_Lines_line (ok_Back_Lines_line T) (hr.mono (by omega)) (a_cons c_str (a_cons (c_ix (c_fld (c_v 0) T.cf_Back_shapes) (c_ix (c_v 2) c_int)) (a_cons (c_v 4) a_nil))))))
    k_nil)
    (k_cons (k_if (t_eq hr (c_v 1) c_str)
    (k_one (k_ret (c_methS T.a_Back (c_v 0) T.c_Back T.mt_Back_Lines_line (ok_Back_Lines_line T) (hr.mono (by omega)) (a_cons c_str (a_cons (c_tup a_nil) (a_cons (c_v 4) a_nil))))))
    k_nil)
    (k_cons (k_if (t_eq hr (c_v 1) c_str)
    (k_one (k_ret (c_methS T.a_Back (c_v 0) T.c_Back T.mt_Back_Lines_line (ok_Back_Lines_line T) (hr.mono (by omega)) (a_cons c_str (a_cons (c_v 3) (a_cons (c_v 4) a_nil))))))
    k_nil)
    (k_cons (k_if (t_eq hr (c_v 1) c_str)
    (k_one (k_ret (c_methS T.a_Back (c_v 0) T.c_Back T.mt_Back_Lines_line (ok_Back_Lines_line T) (hr.mono (by omega)) (a_cons c_str (a_cons (c_tup (a_cons (c_ix (c_ix (c_fld (c_v 0) T.cf_Back_shapes) (c_ix (c_v 2) c_int)) c_int) a_nil)) (a_cons (c_ix (c_v 2) c_int) (a_cons (c_v 4) a_nil)))))))
    k_nil)
    (k_one (k_ret (c_v 4)))))))))))
theorem ok_Back_Back_give (T : FTX P K w mg base f_step_shape f_shapes f_plan f__law_pool f__law_draw f__law_pick f__law_same f__law_name f__law_fits f__law_step_shape f__law_step f__law_program f__law_shapes f__law_gets f__law_plan f_law f_Back_Back___init__ f_Back_Back_give f_Back_Back_go_back f_Back_Back_first_part f_Back_Back_second_part f_Back_Lines___init__ f_Back_Lines_line C_Back ca_Back_Back___init__ cc_Back_Back___init__ d_step_shape d_shapes d_plan d__law_pool d__law_draw d__law_pick d__law_same d__law_name d__law_fits d__law_step_shape d__law_step d__law_program d__law_shapes d__law_gets d__law_plan d_law d_Back_Back___init__ d_Back_Back_give d_Back_Back_go_back d_Back_Back_first_part d_Back_Back_second_part d_Back_Lines___init__ d_Back_Lines_line) : FnOk P w K mg base CX0 2 f_Back_Back_give d_Back_Back_give ["self", "value", "given"] (spF K 3 m_Back_Back_give) := by
  refine (fn_ok (k := 1) T.F_Back_Back_give sc_Back_Back_give fun cdv A outer s H E hr => ?_)
  exact (k_cons (k_if (t_dinT (hu1 hr) (c_v 1) (c_fld (c_v 0) T.cf_Back_got))
    (k_one (k_set (i := 2) sc_Back_Back_give.nd (c_methS T.a_Back (c_v 0) T.c_Back T.mt_Back_Lines_line (ok_Back_Lines_line T) (hr.mono (by omega)) (a_cons c_str (a_cons (c_tup a_nil) (a_cons (c_dget (hu1 hr) (c_fld (c_v 0) T.cf_Back_got) (c_v 1) (fun _ _ => rfl)) (a_cons (c_v 2) a_nil)))))))
    k_nil)
    (k_one (k_setD (hu1 hr) (c_fld (c_v 0) T.cf_Back_got) (c_v 1) (c_v 2))))
theorem ok_Back_Back_second_part (T : FTX P K w mg base f_step_shape f_shapes f_plan f__law_pool f__law_draw f__law_pick f__law_same f__law_name f__law_fits f__law_step_shape f__law_step f__law_program f__law_shapes f__law_gets f__law_plan f_law f_Back_Back___init__ f_Back_Back_give f_Back_Back_go_back f_Back_Back_first_part f_Back_Back_second_part f_Back_Lines___init__ f_Back_Lines_line C_Back ca_Back_Back___init__ cc_Back_Back___init__ d_step_shape d_shapes d_plan d__law_pool d__law_draw d__law_pick d__law_same d__law_name d__law_fits d__law_step_shape d__law_step d__law_program d__law_shapes d__law_gets d__law_plan d_law d_Back_Back___init__ d_Back_Back_give d_Back_Back_go_back d_Back_Back_first_part d_Back_Back_second_part d_Back_Lines___init__ d_Back_Lines_line) : FnOk P w K mg base CX0 2 f_Back_Back_second_part d_Back_Back_second_part ["self", "kind", "values", "given"] (spF K 4 m_Back_Back_second_part) := by
  refine (fn_ok (k := 1) T.F_Back_Back_second_part sc_Back_Back_second_part fun cdv A outer s H E hr => ?_)
  exact (k_cons (k_if (t_eq hr (c_v 1) c_str)
    (k_one (k_ret (c_methS T.a_Back (c_v 0) T.c_Back T.mt_Back_Lines_line (ok_Back_Lines_line T) (hr.mono (by omega)) (a_cons c_str (a_cons (c_tup (a_cons (c_neg c_int) a_nil)) (a_cons (c_v 3) a_nil))))))
    k_nil)
    (k_cons (k_if (t_eq hr (c_v 1) c_str)
    (k_one (k_ret (c_methS T.a_Back (c_v 0) T.c_Back T.mt_Back_Lines_line (ok_Back_Lines_line T) (hr.mono (by omega)) (a_cons c_str (a_cons (c_tup a_nil) (a_cons (c_v 3) (a_cons (c_ix (c_v 2) c_int) a_nil)))))))
    k_nil)
    (k_cons (k_if (t_eq hr (c_v 1) c_str)
    (k_one (k_ret (c_methS T.a_Back (c_v 0) T.c_Back T.mt_Back_Lines_line (ok_Back_Lines_line T) (hr.mono (by omega)) (a_cons c_str (a_cons (c_tup a_nil) (a_cons (c_methS T.a_Back (c_v 0) T.c_Back T.mt_Back_Lines_line (ok_Back_Lines_line T) (hr.mono (by omega)) (a_cons c_str (a_cons (c_tup a_nil) (a_cons (c_ix (c_v 2) c_int) a_nil)))) (a_cons (c_v 3) a_nil)))))))
    k_nil)
    (k_one (k_ret (c_v 3))))))
theorem ok_Back_Back_go_back (T : FTX P K w mg base f_step_shape f_shapes f_plan f__law_pool f__law_draw f__law_pick f__law_same f__law_name f__law_fits f__law_step_shape f__law_step f__law_program f__law_shapes f__law_gets f__law_plan f_law f_Back_Back___init__ f_Back_Back_give f_Back_Back_go_back f_Back_Back_first_part f_Back_Back_second_part f_Back_Lines___init__ f_Back_Lines_line C_Back ca_Back_Back___init__ cc_Back_Back___init__ d_step_shape d_shapes d_plan d__law_pool d__law_draw d__law_pick d__law_same d__law_name d__law_fits d__law_step_shape d__law_step d__law_program d__law_shapes d__law_gets d__law_plan d_law d_Back_Back___init__ d_Back_Back_give d_Back_Back_go_back d_Back_Back_first_part d_Back_Back_second_part d_Back_Lines___init__ d_Back_Lines_line) : FnOk P w K mg base CX0 3 f_Back_Back_go_back d_Back_Back_go_back ["self", "step", "own"] (spF K 3 m_Back_Back_go_back) := by
  refine (fn_ok (k := 2) T.F_Back_Back_go_back sc_Back_Back_go_back fun cdv A outer s H E hr => ?_)
  exact (k_cons (k_bind (c_v 1) (g_tp (g_cons (g_nm (i := 3) sc_Back_Back_go_back.nd) (g_cons (g_nm (i := 4) sc_Back_Back_go_back.nd) (g_cons (g_nm (i := 5) sc_Back_Back_go_back.nd) (g_cons (g_nm (i := 6) sc_Back_Back_go_back.nd) g_nil))))))
    (k_one (k_if (t_dinT (hu1 hr) (c_v 2) (c_fld (c_v 0) T.cf_Back_got))
    (k_cons (k_set (i := 7) sc_Back_Back_go_back.nd (c_dget (hu1 hr) (c_fld (c_v 0) T.cf_Back_got) (c_v 2) (fun _ _ => rfl)))
    (k_cons (k_exp (c_meth T.a_Back (c_v 0) T.c_Back T.mt_Back_Back_give (ok_Back_Back_give T) (hr.mono (by omega)) T.b_Back_Back_give (a_cons (c_ix (c_v 5) c_int) (a_cons (c_meth T.a_Back (c_v 0) T.c_Back T.mt_Back_Back_first_part (ok_Back_Back_first_part T) (hr.mono (by omega)) T.b_Back_Back_first_part (a_cons (c_v 4) (a_cons (c_v 5) (a_cons (c_v 6) (a_cons (c_v 7) a_nil))))) a_nil))))
    (k_one (k_if (PW.pt (w_and (t_eq hr (c_len rfl T.n_len (a_cons (c_v 5) a_nil)) c_int) (w_and1 (t_ne hr (c_v 4) c_str))))
    (k_one (k_exp (c_meth T.a_Back (c_v 0) T.c_Back T.mt_Back_Back_give (ok_Back_Back_give T) (hr.mono (by omega)) T.b_Back_Back_give (a_cons (c_ix (c_v 5) c_int) (a_cons (c_meth T.a_Back (c_v 0) T.c_Back T.mt_Back_Back_second_part (ok_Back_Back_second_part T) (hr.mono (by omega)) T.b_Back_Back_second_part (a_cons (c_v 4) (a_cons (c_v 5) (a_cons (c_v 7) a_nil)))) a_nil)))))
    k_nil))))
    k_nil)))
theorem ok_plan (T : FTX P K w mg base f_step_shape f_shapes f_plan f__law_pool f__law_draw f__law_pick f__law_same f__law_name f__law_fits f__law_step_shape f__law_step f__law_program f__law_shapes f__law_gets f__law_plan f_law f_Back_Back___init__ f_Back_Back_give f_Back_Back_go_back f_Back_Back_first_part f_Back_Back_second_part f_Back_Lines___init__ f_Back_Lines_line C_Back ca_Back_Back___init__ cc_Back_Back___init__ d_step_shape d_shapes d_plan d__law_pool d__law_draw d__law_pick d__law_same d__law_name d__law_fits d__law_step_shape d__law_step d__law_program d__law_shapes d__law_gets d__law_plan d_law d_Back_Back___init__ d_Back_Back_give d_Back_Back_go_back d_Back_Back_first_part d_Back_Back_second_part d_Back_Lines___init__ d_Back_Lines_line) : FnOk P w K mg base CX0 5 f_plan d_plan ["program"] (spF K 1 m_plan) := by
  refine sp_gc (fn_ok (k := 4) T.F_plan sc_plan fun cdv A outer s H E hr => ?_)
  exact (k_cons (k_bind (c_v 0) (g_tp (g_cons (g_nm (i := 1) sc_plan.nd) (g_cons (g_nm (i := 2) sc_plan.nd) (g_cons (g_nm (i := 3) sc_plan.nd) (g_cons (g_nm (i := 4) sc_plan.nd) g_nil))))))
    (k_cons (k_set (i := 5) sc_plan.nd (c_make T.a_Back T.mk_Back (ok_Back_Back___init__ T) (hr.mono (by omega)) rfl T.g_Back T.b_Back_Back___init__ (a_cons (c_v 0) a_nil)))
    (k_cons (k_for PassesOwn.never rfl (i_rng3 rfl T.n_range (a_cons (c_sub (c_len rfl T.n_len (a_cons (c_v 3) a_nil)) c_int) (a_cons (c_neg c_int) (a_cons (c_neg c_int) a_nil))) (pi_range3 rfl T.n_range (a_cons (c_sub (c_len rfl T.n_len (a_cons (c_v 3) a_nil)) c_int) (a_cons (c_neg c_int) (a_cons (c_neg c_int) a_nil))))) (g_nm (i := 6) sc_plan.nd)
    (k_one (k_exp (c_meth T.a_Back (c_v 5) T.c_Back T.mt_Back_Back_go_back (ok_Back_Back_go_back T) (hr.mono (by omega)) T.b_Back_Back_go_back (a_cons (c_ix (c_v 3) (c_v 6)) (a_cons (c_add (c_fld (c_v 5) T.cf_Back_leaves) (c_v 6)) a_nil))))))
    (k_cons (k_for PassesOwn.never rfl (i_enum rfl T.n_enumerate (a_cons (c_v 1) a_nil)) (g_tp (g_cons (g_nm (i := 7) sc_plan.nd) (g_cons (g_nm (i := 8) sc_plan.nd) g_nil)))
    (k_one (k_if (t_dninT (hu1 hr) (c_v 7) (c_fld (c_v 5) T.cf_Back_got))
    (k_one (k_setD (hu1 hr) (c_fld (c_v 5) T.cf_Back_got) (c_v 7) (c_methS T.a_Back (c_v 5) T.c_Back T.mt_Back_Lines_line (ok_Back_Lines_line T) (hr.mono (by omega)) (a_cons c_str (a_cons (c_tup (a_cons (c_ix (c_v 8) c_int) (a_cons (c_ix (c_v 8) c_int) (a_cons c_int a_nil)))) a_nil)))))
    k_nil)))
    (k_cons (k_set (i := 9) sc_plan.nd (c_tupc rfl T.n_tuple (a_cons (c_cmp_ (own := [("number", 7)]) rfl sc_plan.nd (i_rng1 rfl T.n_range (a_cons (c_len rfl T.n_len (a_cons (c_v 1) a_nil)) a_nil)) (blkOk_by (own := [("number", 7)]) (N := N_plan) (sc := defScope s_plan) (by decide +kernel)) rfl (fun _ _ _ _ _ => (g_nm (i := 7) sc_plan.nd)) (fun _ _ _ _ _ => l_nil) (fun _ _ _ _ _ => (c_dget (hu1 hr) (c_fld (c_v 5) T.cf_Back_got) (c_v 7) (fun _ _ => rfl)))) a_nil)))
    (k_one (k_ret (c_tup (a_cons (c_fld (c_v 5) T.cf_Back_leaves) (a_cons (c_tupc rfl T.n_tuple (a_cons (c_fld (c_v 5) T.cf_Back_lines) a_nil)) (a_cons (c_v 4) (a_cons (c_v 9) a_nil))))))))))))
theorem ok__law_pool (T : FTX P K w mg base f_step_shape f_shapes f_plan f__law_pool f__law_draw f__law_pick f__law_same f__law_name f__law_fits f__law_step_shape f__law_step f__law_program f__law_shapes f__law_gets f__law_plan f_law f_Back_Back___init__ f_Back_Back_give f_Back_Back_go_back f_Back_Back_first_part f_Back_Back_second_part f_Back_Lines___init__ f_Back_Lines_line C_Back ca_Back_Back___init__ cc_Back_Back___init__ d_step_shape d_shapes d_plan d__law_pool d__law_draw d__law_pick d__law_same d__law_name d__law_fits d__law_step_shape d__law_step d__law_program d__law_shapes d__law_gets d__law_plan d_law d_Back_Back___init__ d_Back_Back_give d_Back_Back_go_back d_Back_Back_first_part d_Back_Back_second_part d_Back_Lines___init__ d_Back_Lines_line) : FnOk P w K mg base CX0 1 f__law_pool d__law_pool ["_law_script"] (spF K 1 m__law_pool) := by
  refine (fn_ok (k := 0) T.F__law_pool sc__law_pool fun cdv A outer s H E hr => ?_)
  exact (k_one (k_ret (c_new (a_cons (c_listc rfl T.n_list (a_cons (c_v 0) a_nil)) (a_cons c_int (a_cons c_int (a_cons c_int (a_cons c_int a_nil))))))))
theorem ok__law_draw (T : FTX P K w mg base f_step_shape f_shapes f_plan f__law_pool f__law_draw f__law_pick f__law_same f__law_name f__law_fits f__law_step_shape f__law_step f__law_program f__law_shapes f__law_gets f__law_plan f_law f_Back_Back___init__ f_Back_Back_give f_Back_Back_go_back f_Back_Back_first_part f_Back_Back_second_part f_Back_Lines___init__ f_Back_Lines_line C_Back ca_Back_Back___init__ cc_Back_Back___init__ d_step_shape d_shapes d_plan d__law_pool d__law_draw d__law_pick d__law_same d__law_name d__law_fits d__law_step_shape d__law_step d__law_program d__law_shapes d__law_gets d__law_plan d_law d_Back_Back___init__ d_Back_Back_give d_Back_Back_go_back d_Back_Back_first_part d_Back_Back_second_part d_Back_Lines___init__ d_Back_Lines_line) : FnOk P w K mg base CX0 1 f__law_draw d__law_draw ["_law_pool_here", "_law_many"] (spF K 2 m__law_draw) := by
  refine (fn_ok (k := 0) T.F__law_draw sc__law_draw fun cdv A outer s H E hr => ?_)
  exact (k_cons (k_if (t_gt (c_ix (c_v 0) c_int) c_int)
    (k_cons (k_set (i := 2) sc__law_draw.nd (c_mod (c_intc rfl T.n_int (a_cons (c_ix (c_v 0) c_int) a_nil)) (c_v 1)))
    (k_cons (k_setIx (c_fdiv (c_ix (c_v 0) c_int) (c_v 1)) (c_v 0) c_int)
    (k_one (k_ret (c_v 2)))))
    k_nil)
    (k_cons (k_if (PW.pt (w_and (t_eq hr (c_mod (c_intc rfl T.n_int (a_cons (c_ix (c_v 0) c_int) a_nil)) c_int) c_int) (w_and1 (t_lt (c_ix (c_v 0) c_int) (c_len rfl T.n_len (a_cons (c_ix (c_v 0) c_int) a_nil))))))
    (k_cons (k_set (i := 3) sc__law_draw.nd (c_abs rfl T.n_abs (a_cons (c_ix (c_ix (c_v 0) c_int) (c_ix (c_v 0) c_int)) a_nil)))
    (k_cons (k_setIx (c_add (c_ix (c_v 0) c_int) c_int) (c_v 0) c_int)
    (k_cons (k_if (t_ge (c_v 3) (c_pow c_int c_int))
    (k_cons (k_setIx (c_fdiv (c_v 3) (c_v 1)) (c_v 0) c_int)
    (k_one (k_ret (c_mod (c_intc rfl T.n_int (a_cons (c_v 3) a_nil)) (c_v 1)))))
    k_nil)
    (k_one (k_setIx (c_v 3) (c_v 0) c_int)))))
    k_nil)
    (k_cons (k_setIx (c_add (c_ix (c_v 0) c_int) c_int) (c_v 0) c_int)
    (k_cons (k_set (i := 4) sc__law_draw.nd (c_mod (c_intc rfl T.n_int (a_cons (c_add (c_add (c_mul (c_ix (c_v 0) c_int) c_int) (c_mul (c_ix (c_v 0) c_int) c_int)) c_int) a_nil)) c_int))
    (k_cons (k_set (i := 4) sc__law_draw.nd (c_mod (c_intc rfl T.n_int (a_cons (c_add (c_mul (c_v 4) (c_v 4)) (c_mul (c_ix (c_v 0) c_int) c_int)) a_nil)) c_int))
    (k_one (k_ret (c_mod (c_intc rfl T.n_int (a_cons (c_v 4) a_nil)) (c_v 1)))))))))
theorem ok__law_pick (T : FTX P K w mg base f_step_shape f_shapes f_plan f__law_pool f__law_draw f__law_pick f__law_same f__law_name f__law_fits f__law_step_shape f__law_step f__law_program f__law_shapes f__law_gets f__law_plan f_law f_Back_Back___init__ f_Back_Back_give f_Back_Back_go_back f_Back_Back_first_part f_Back_Back_second_part f_Back_Lines___init__ f_Back_Lines_line C_Back ca_Back_Back___init__ cc_Back_Back___init__ d_step_shape d_shapes d_plan d__law_pool d__law_draw d__law_pick d__law_same d__law_name d__law_fits d__law_step_shape d__law_step d__law_program d__law_shapes d__law_gets d__law_plan d_law d_Back_Back___init__ d_Back_Back_give d_Back_Back_go_back d_Back_Back_first_part d_Back_Back_second_part d_Back_Lines___init__ d_Back_Lines_line) : FnOk P w K mg base CX0 2 f__law_pick d__law_pick ["_law_pool_here", "_law_rows"] (spF K 2 m__law_pick) := by
  refine (fn_ok (k := 1) T.F__law_pick sc__law_pick fun cdv A outer s H E hr => ?_)
  exact (k_one (k_ret (c_ix (c_v 1) (c_call (ok__law_draw T) (hr.mono (by omega)) rfl T.g__law_draw T.F__law_draw.kp T.b__law_draw (a_cons (c_v 0) (a_cons (c_len rfl T.n_len (a_cons (c_v 1) a_nil)) a_nil))))))
theorem ok__law_same (T : FTX P K w mg base f_step_shape f_shapes f_plan f__law_pool f__law_draw f__law_pick f__law_same f__law_name f__law_fits f__law_step_shape f__law_step f__law_program f__law_shapes f__law_gets f__law_plan f_law f_Back_Back___init__ f_Back_Back_give f_Back_Back_go_back f_Back_Back_first_part f_Back_Back_second_part f_Back_Lines___init__ f_Back_Lines_line C_Back ca_Back_Back___init__ cc_Back_Back___init__ d_step_shape d_shapes d_plan d__law_pool d__law_draw d__law_pick d__law_same d__law_name d__law_fits d__law_step_shape d__law_step d__law_program d__law_shapes d__law_gets d__law_plan d_law d_Back_Back___init__ d_Back_Back_give d_Back_Back_go_back d_Back_Back_first_part d_Back_Back_second_part d_Back_Lines___init__ d_Back_Lines_line) : ∀ n : Nat, FnOk P w K mg base CX0 (n + 0) f__law_same d__law_same ["_law_actual", "_law_due"] (spF K 2 (m__law_same n))
  | 0 => ⟨fun vs H Q E h => h.1, fun A outer s H args us vs Q E hr he hb hv hs => by
    obtain ⟨_, _, _, _, _, _, _, _, _, hf, _⟩ := hs
    cases hf⟩
  | n + 1 => by
    have IH := ok__law_same T n
    show FnOk P w K mg base CX0 ((n + 0) + 1) _ _ _ _
    refine (fn_ok (k := n + 0) T.F__law_same sc__law_same fun cdv A outer s H E hr => ?_)
    exact (k_cons (k_if (t_tru (c_isi rfl T.n_isinstance (a_cons (c_v 1) (a_cons (c_bty rfl T.n_tuple (by decide +kernel)) a_nil))))
    (k_cons (k_if (PW.pt (w_or (t_not (t_tru (c_isi rfl T.n_isinstance (a_cons (c_v 0) (a_cons (c_bty rfl T.n_tuple (by decide +kernel)) a_nil))))) (w_or1 (t_ne hr (c_len rfl T.n_len (a_cons (c_v 0) a_nil)) (c_len rfl T.n_len (a_cons (c_v 1) a_nil))))))
    (k_one (k_ret c_bl))
    k_nil)
    (k_one (k_ret (c_eq hr (c_len rfl T.n_len (a_cons (c_cmp_ (own := [("_law_k", 2)]) rfl sc__law_same.nd (i_rng1 rfl T.n_range (a_cons (c_len rfl T.n_len (a_cons (c_v 1) a_nil)) a_nil)) (blkOk_by (own := [("_law_k", 2)]) (N := N__law_same) (sc := defScope s__law_same) (by decide +kernel)) rfl (fun _ _ _ _ _ => (g_nm (i := 2) sc__law_same.nd)) (fun _ _ _ _ _ => (l_one (t_not (t_tru (c_call IH (hr.mono (by omega)) rfl T.g__law_same T.F__law_same.kp T.b__law_same (a_cons (c_ix (c_v 0) (c_v 2)) (a_cons (c_ix (c_v 1) (c_v 2)) a_nil))))))) (fun _ _ _ _ _ => (c_v 2))) a_nil)) c_int))))
    k_nil)
    (k_cons (k_if (t_isN (c_v 1) c_non)
    (k_one (k_ret (c_isN (c_v 0) c_non)))
    k_nil)
    (k_cons (k_if (t_tru (c_isi rfl T.n_isinstance (a_cons (c_v 1) (a_cons (c_bty rfl T.n_str (by decide +kernel)) a_nil))))
    (k_one (k_ret (c_and (c_isi rfl T.n_isinstance (a_cons (c_v 0) (a_cons (c_bty rfl T.n_str (by decide +kernel)) a_nil))) (c_one (c_eq hr (c_v 0) (c_v 1))))))
    k_nil)
    (k_one (k_ret (c_and (c_isi rfl T.n_isinstance (a_cons (c_v 0) (a_cons (c_bty rfl T.n_int (by decide +kernel)) a_nil))) (c_and (c_not (c_isi rfl T.n_isinstance (a_cons (c_v 0) (a_cons (c_bty rfl T.n_bool (by decide +kernel)) a_nil)))) (c_one (c_eq hr (c_v 0) (c_v 1))))))))))
theorem ok__law_name (T : FTX P K w mg base f_step_shape f_shapes f_plan f__law_pool f__law_draw f__law_pick f__law_same f__law_name f__law_fits f__law_step_shape f__law_step f__law_program f__law_shapes f__law_gets f__law_plan f_law f_Back_Back___init__ f_Back_Back_give f_Back_Back_go_back f_Back_Back_first_part f_Back_Back_second_part f_Back_Lines___init__ f_Back_Lines_line C_Back ca_Back_Back___init__ cc_Back_Back___init__ d_step_shape d_shapes d_plan d__law_pool d__law_draw d__law_pick d__law_same d__law_name d__law_fits d__law_step_shape d__law_step d__law_program d__law_shapes d__law_gets d__law_plan d_law d_Back_Back___init__ d_Back_Back_give d_Back_Back_go_back d_Back_Back_first_part d_Back_Back_second_part d_Back_Lines___init__ d_Back_Lines_line) : FnOk P w K mg base CX0 2 f__law_name d__law_name ["_law_pool_here", "_law_index"] (spF K 2 m__law_name) := by
  refine (fn_ok (k := 1) T.F__law_name sc__law_name fun cdv A outer s H E hr => ?_)
  exact (k_cons (k_set (i := 2) sc__law_name.nd (c_ix (c_lst (a_cons c_str (a_cons c_str (a_cons c_str (a_cons c_str (a_cons c_str a_nil)))))) (c_call (ok__law_draw T) (hr.mono (by omega)) rfl T.g__law_draw T.F__law_draw.kp T.b__law_draw (a_cons (c_v 0) (a_cons c_int a_nil)))))
    (k_one (k_ret (c_add (c_add (c_ix c_str (c_call (ok__law_draw T) (hr.mono (by omega)) rfl T.g__law_draw T.F__law_draw.kp T.b__law_draw (a_cons (c_v 0) (a_cons c_int a_nil)))) (c_strc rfl T.n_str (a_cons (c_v 1) a_nil))) (c_v 2)))))
theorem ok__law_fits (T : FTX P K w mg base f_step_shape f_shapes f_plan f__law_pool f__law_draw f__law_pick f__law_same f__law_name f__law_fits f__law_step_shape f__law_step f__law_program f__law_shapes f__law_gets f__law_plan f_law f_Back_Back___init__ f_Back_Back_give f_Back_Back_go_back f_Back_Back_first_part f_Back_Back_second_part f_Back_Lines___init__ f_Back_Lines_line C_Back ca_Back_Back___init__ cc_Back_Back___init__ d_step_shape d_shapes d_plan d__law_pool d__law_draw d__law_pick d__law_same d__law_name d__law_fits d__law_step_shape d__law_step d__law_program d__law_shapes d__law_gets d__law_plan d_law d_Back_Back___init__ d_Back_Back_give d_Back_Back_go_back d_Back_Back_first_part d_Back_Back_second_part d_Back_Lines___init__ d_Back_Lines_line) : FnOk P w K mg base CX0 1 f__law_fits d__law_fits ["_law_kind", "_law_found", "_law_a", "_law_b"] (spF K 4 m__law_fits) := by
  refine (fn_ok (k := 0) T.F__law_fits sc__law_fits fun cdv A outer s H E hr => ?_)
  exact (k_cons (k_if (t_in hr (c_v 0) (c_tup (a_cons c_str (a_cons c_str (a_cons c_str a_nil)))))
    (k_one (k_ret (c_eq hr (c_ix (c_v 1) (c_v 2)) (c_ix (c_v 1) (c_v 3)))))
    k_nil)
    (k_cons (k_if (t_eq hr (c_v 0) c_str)
    (k_one (k_ret (c_eq hr (c_ix (c_ix (c_v 1) (c_v 2)) c_int) (c_ix (c_ix (c_v 1) (c_v 3)) c_int))))
    k_nil)
    (k_one (k_ret (c_eq hr (c_ix (c_ix (c_v 1) (c_v 3)) c_int) c_int)))))
theorem ok__law_step_shape (T : FTX P K w mg base f_step_shape f_shapes f_plan f__law_pool f__law_draw f__law_pick f__law_same f__law_name f__law_fits f__law_step_shape f__law_step f__law_program f__law_shapes f__law_gets f__law_plan f_law f_Back_Back___init__ f_Back_Back_give f_Back_Back_go_back f_Back_Back_first_part f_Back_Back_second_part f_Back_Lines___init__ f_Back_Lines_line C_Back ca_Back_Back___init__ cc_Back_Back___init__ d_step_shape d_shapes d_plan d__law_pool d__law_draw d__law_pick d__law_same d__law_name d__law_fits d__law_step_shape d__law_step d__law_program d__law_shapes d__law_gets d__law_plan d_law d_Back_Back___init__ d_Back_Back_give d_Back_Back_go_back d_Back_Back_first_part d_Back_Back_second_part d_Back_Lines___init__ d_Back_Lines_line) : FnOk P w K mg base CX0 1 f__law_step_shape d__law_step_shape ["_law_kind", "_law_found", "_law_values", "_law_numbers"] (spF K 4 m__law_step_shape) := by
  refine (fn_ok (k := 0) T.F__law_step_shape sc__law_step_shape fun cdv A outer s H E hr => ?_)
  exact (k_cons (k_set (i := 4) sc__law_step_shape.nd (c_ix (c_v 1) (c_ix (c_v 2) c_int)))
    (k_cons (k_if (t_eq hr (c_v 0) c_str)
    (k_one (k_ret (c_tup (a_cons (c_ix (c_v 4) c_int) (a_cons (c_ix (c_ix (c_v 1) (c_ix (c_v 2) c_int)) c_int) a_nil)))))
    k_nil)
    (k_cons (k_if (t_eq hr (c_v 0) c_str)
    (k_one (k_ret (c_tup (a_cons (c_ix (c_ix (c_v 1) (c_ix (c_v 2) c_int)) c_int) (a_cons (c_ix (c_v 4) c_int) a_nil)))))
    k_nil)
    (k_cons (k_if (t_eq hr (c_v 0) c_str)
    (k_one (k_ret (c_tup (a_cons (c_ix (c_v 4) c_int) (a_cons (c_ix (c_v 4) c_int) a_nil)))))
    k_nil)
    (k_cons (k_if (t_eq hr (c_v 0) c_str)
    (k_one (k_ret (c_tup (a_cons c_int (a_cons c_int a_nil)))))
    k_nil)
    (k_cons (k_if (t_eq hr (c_v 0) c_str)
    (k_one (k_ret (c_v 3)))
    k_nil)
    (k_one (k_ret (c_v 4)))))))))
theorem ok__law_step (T : FTX P K w mg base f_step_shape f_shapes f_plan f__law_pool f__law_draw f__law_pick f__law_same f__law_name f__law_fits f__law_step_shape f__law_step f__law_program f__law_shapes f__law_gets f__law_plan f_law f_Back_Back___init__ f_Back_Back_give f_Back_Back_go_back f_Back_Back_first_part f_Back_Back_second_part f_Back_Lines___init__ f_Back_Lines_line C_Back ca_Back_Back___init__ cc_Back_Back___init__ d_step_shape d_shapes d_plan d__law_pool d__law_draw d__law_pick d__law_same d__law_name d__law_fits d__law_step_shape d__law_step d__law_program d__law_shapes d__law_gets d__law_plan d_law d_Back_Back___init__ d_Back_Back_give d_Back_Back_go_back d_Back_Back_first_part d_Back_Back_second_part d_Back_Lines___init__ d_Back_Lines_line) : FnOk P w K mg base CX0 3 f__law_step d__law_step ["_law_pool_here", "_law_found", "_law_own", "_law_leaves"] (spF K 4 m__law_step) := by
  refine (fn_ok (k := 2) T.F__law_step sc__law_step fun cdv A outer s H E hr => ?_)
  exact (k_cons (k_set (i := 4) sc__law_step.nd (c_lst (a_cons c_str (a_cons c_str (a_cons c_str (a_cons c_str (a_cons c_str (a_cons c_str (a_cons c_str (a_cons c_str (a_cons c_str (a_cons c_str (a_cons c_str a_nil)))))))))))))
    (k_cons (k_set (i := 5) sc__law_step.nd (c_call (ok__law_pick T) (hr.mono (by omega)) rfl T.g__law_pick T.F__law_pick.kp T.b__law_pick (a_cons (c_v 0) (a_cons (c_v 4) a_nil))))
    (k_cons (k_set (i := 6) sc__law_step.nd (c_len rfl T.n_len (a_cons (c_v 1) a_nil)))
    (k_cons (k_if (t_in hr (c_v 5) (c_tup (a_cons c_str (a_cons c_str (a_cons c_str (a_cons c_str (a_cons c_str a_nil)))))))
    (k_cons (k_set (i := 7) sc__law_step.nd (c_new a_nil))
    (k_cons (k_for PassesOwn.never rfl (i_rng1 rfl T.n_range (a_cons (c_v 6) a_nil)) (g_nm (i := 8) sc__law_step.nd)
    (k_cons (k_set (i := 9) sc__law_step.nd (c_if (t_eq hr (c_v 5) c_str) (c_v 2) c_int))
    (k_cons (k_set (i := 10) sc__law_step.nd (c_if (t_eq hr (c_v 5) c_str) (c_v 3) (c_v 6)))
    (k_one (k_exp (c_bm PySem.F.plainAttrs_list PySem.F.slot_list_extend PySem.F.type_list_extend mt_extA s_exA (c_v 7) (a_cons (c_cmp_ (own := [("_law_b", 13)]) rfl sc__law_step.nd (i_rng2 rfl T.n_range (a_cons (c_v 9) (a_cons (c_v 10) a_nil))) (blkOk_by (own := [("_law_b", 13)]) (N := N__law_step) (sc := defScope s__law_step) (by decide +kernel)) rfl (fun _ _ _ _ _ => (g_nm (i := 13) sc__law_step.nd)) (fun _ _ _ _ _ => (l_one (t_tru (c_call (ok__law_fits T) (hr.mono (by omega)) rfl T.g__law_fits T.F__law_fits.kp T.b__law_fits (a_cons (c_v 5) (a_cons (c_v 1) (a_cons (c_v 8) (a_cons (c_v 13) a_nil)))))))) (fun _ _ _ _ _ => (c_tup (a_cons (c_v 8) (a_cons (c_v 13) a_nil))))) a_nil)))))))
    (k_cons (k_if (t_gt (c_len rfl T.n_len (a_cons (c_v 7) a_nil)) c_int)
    (k_one (k_ret (c_tup (a_cons (c_v 5) (a_cons (c_call (ok__law_pick T) (hr.mono (by omega)) rfl T.g__law_pick T.F__law_pick.kp T.b__law_pick (a_cons (c_v 0) (a_cons (c_sl (c_v 7) (o_some (c_fdiv (c_len rfl T.n_len (a_cons (c_v 7) a_nil)) c_int)) o_none) a_nil))) (a_cons (c_tup a_nil) a_nil))))))
    k_nil)
    (k_one (k_set (i := 5) sc__law_step.nd c_str)))))
    k_nil)
    (k_cons (k_if (t_eq hr (c_v 5) c_str)
    (k_cons (k_setC (i := 11) (own := [("_law_a", 8)]) rfl sc__law_step.nd (fun _ _ _ h => goCmp (by decide) h) (i_rng1 rfl T.n_range (a_cons (c_v 6) a_nil)) (blkOk_by (own := [("_law_a", 8)]) (N := N__law_step) (sc := defScope s__law_step) (by decide +kernel)) (fun _ _ _ _ _ => (g_nm (i := 8) sc__law_step.nd)) (fun _ _ _ _ _ => (l_one (t_eq hr (c_ix (c_v 1) (c_v 8)) (c_tup (a_cons c_int (a_cons c_int a_nil)))))) (fun _ _ _ _ _ => (c_v 8)) (sw_true rfl rfl rfl (by decide +kernel)))
    (k_cons (k_if (t_gt (c_len rfl T.n_len (a_cons (c_v 11) a_nil)) c_int)
    (k_one (k_ret (c_tup (a_cons (c_v 5) (a_cons (c_tup (a_cons (c_call (ok__law_pick T) (hr.mono (by omega)) rfl T.g__law_pick T.F__law_pick.kp T.b__law_pick (a_cons (c_v 0) (a_cons (c_v 11) a_nil))) a_nil)) (a_cons (c_tup (a_cons (c_add c_int (c_call (ok__law_draw T) (hr.mono (by omega)) rfl T.g__law_draw T.F__law_draw.kp T.b__law_draw (a_cons (c_v 0) (a_cons c_int a_nil)))) (a_cons (c_add c_int (c_call (ok__law_draw T) (hr.mono (by omega)) rfl T.g__law_draw T.F__law_draw.kp T.b__law_draw (a_cons (c_v 0) (a_cons c_int a_nil)))) a_nil))) a_nil))))))
    k_nil)
    (k_one (k_set (i := 5) sc__law_step.nd c_str))))
    k_nil)
    (k_cons (k_set (i := 12) sc__law_step.nd (c_sub (c_sub (c_v 6) c_int) (c_call (ok__law_draw T) (hr.mono (by omega)) rfl T.g__law_draw T.F__law_draw.kp T.b__law_draw (a_cons (c_v 0) (a_cons (c_min2 rfl rfl T.n_min (a_cons (c_v 6) (a_cons c_int a_nil))) a_nil)))))
    (k_cons (k_if (t_eq hr (c_v 5) c_str)
    (k_one (k_ret (c_tup (a_cons (c_v 5) (a_cons (c_tup (a_cons (c_v 12) a_nil)) (a_cons (c_tup (a_cons (c_call (ok__law_pick T) (hr.mono (by omega)) rfl T.g__law_pick T.F__law_pick.kp T.b__law_pick (a_cons (c_v 0) (a_cons (c_lst (a_cons (c_neg c_int) (a_cons (c_neg c_int) (a_cons c_int (a_cons c_int (a_cons c_int (a_cons (c_sub (c_call (ok__law_draw T) (hr.mono (by omega)) rfl T.g__law_draw T.F__law_draw.kp T.b__law_draw (a_cons (c_v 0) (a_cons c_int a_nil))) c_int) a_nil))))))) a_nil))) a_nil)) a_nil))))))
    k_nil)
    (k_one (k_ret (c_tup (a_cons (c_v 5) (a_cons (c_tup (a_cons (c_v 12) a_nil)) (a_cons (c_tup a_nil) a_nil)))))))))))))
theorem ok__law_program (T : FTX P K w mg base f_step_shape f_shapes f_plan f__law_pool f__law_draw f__law_pick f__law_same f__law_name f__law_fits f__law_step_shape f__law_step f__law_program f__law_shapes f__law_gets f__law_plan f_law f_Back_Back___init__ f_Back_Back_give f_Back_Back_go_back f_Back_Back_first_part f_Back_Back_second_part f_Back_Lines___init__ f_Back_Lines_line C_Back ca_Back_Back___init__ cc_Back_Back___init__ d_step_shape d_shapes d_plan d__law_pool d__law_draw d__law_pick d__law_same d__law_name d__law_fits d__law_step_shape d__law_step d__law_program d__law_shapes d__law_gets d__law_plan d_law d_Back_Back___init__ d_Back_Back_give d_Back_Back_go_back d_Back_Back_first_part d_Back_Back_second_part d_Back_Lines___init__ d_Back_Lines_line) : FnOk P w K mg base CX0 4 f__law_program d__law_program ["_law_pool_here", "_law_most"] (spF K 2 m__law_program) := by
  refine (fn_ok (k := 3) T.F__law_program sc__law_program fun cdv A outer s H E hr => ?_)
  exact (k_cons (k_set (i := 2) sc__law_program.nd (c_lst (a_cons c_int (a_cons (c_add c_int (c_call (ok__law_draw T) (hr.mono (by omega)) rfl T.g__law_draw T.F__law_draw.kp T.b__law_draw (a_cons (c_v 0) (a_cons c_int a_nil)))) (a_cons (c_add c_int (c_call (ok__law_draw T) (hr.mono (by omega)) rfl T.g__law_draw T.F__law_draw.kp T.b__law_draw (a_cons (c_v 0) (a_cons c_int a_nil)))) a_nil)))))
    (k_cons (k_set (i := 3) sc__law_program.nd (c_add c_int (c_call (ok__law_draw T) (hr.mono (by omega)) rfl T.g__law_draw T.F__law_draw.kp T.b__law_draw (a_cons (c_v 0) (a_cons c_int a_nil)))))
    (k_cons (k_if (t_eq hr (c_call (ok__law_draw T) (hr.mono (by omega)) rfl T.g__law_draw T.F__law_draw.kp T.b__law_draw (a_cons (c_v 0) (a_cons c_int a_nil))) c_int)
    (k_one (k_set (i := 3) sc__law_program.nd (c_add c_int (c_call (ok__law_draw T) (hr.mono (by omega)) rfl T.g__law_draw T.F__law_draw.kp T.b__law_draw (a_cons (c_v 0) (a_cons c_int a_nil))))))
    k_nil)
    (k_cons (k_set (i := 4) sc__law_program.nd (c_add (c_v 3) (c_call (ok__law_draw T) (hr.mono (by omega)) rfl T.g__law_draw T.F__law_draw.kp T.b__law_draw (a_cons (c_v 0) (a_cons c_int a_nil)))))
    (k_cons (k_set (i := 5) sc__law_program.nd (c_new a_nil))
    (k_cons (k_for PassesOwn.never rfl (i_rng1 rfl T.n_range (a_cons (c_v 4) a_nil)) (g_nm (i := 6) sc__law_program.nd)
    (k_cons (k_set (i := 7) sc__law_program.nd (c_call (ok__law_pick T) (hr.mono (by omega)) rfl T.g__law_pick T.F__law_pick.kp T.b__law_pick (a_cons (c_v 0) (a_cons (c_v 2) a_nil))))
    (k_cons (k_if (PW.pt (w_and (t_ge (c_v 6) (c_v 3)) (w_and1 (t_eq hr (c_call (ok__law_draw T) (hr.mono (by omega)) rfl T.g__law_draw T.F__law_draw.kp T.b__law_draw (a_cons (c_v 0) (a_cons c_int a_nil))) c_int))))
    (k_one (k_set (i := 7) sc__law_program.nd c_int))
    k_nil)
    (k_one (k_exp (c_bm PySem.F.plainAttrs_list PySem.F.slot_list_append PySem.F.type_list_append mt_append s_app (c_v 5) (a_cons (c_tup (a_cons (c_call (ok__law_name T) (hr.mono (by omega)) rfl T.g__law_name T.F__law_name.kp T.b__law_name (a_cons (c_v 0) (a_cons (c_v 6) a_nil))) (a_cons (c_call (ok__law_pick T) (hr.mono (by omega)) rfl T.g__law_pick T.F__law_pick.kp T.b__law_pick (a_cons (c_v 0) (a_cons (c_v 2) a_nil))) (a_cons (c_v 7) a_nil)))) a_nil)))))))
    (k_cons (k_set (i := 8) sc__law_program.nd (c_cmpN (own := [("_law_value", 15)]) rfl sc__law_program.nd (i_seq (c_v 5)) (blkOk_by (own := [("_law_value", 15)]) (N := N__law_program) (sc := defScope s__law_program) (by decide +kernel)) rfl (fun _ _ _ _ _ => (g_nm (i := 15) sc__law_program.nd)) (fun _ _ _ _ _ => l_nil) (fun _ _ _ _ _ => (c_sl (c_v 15) (o_some c_int) o_none))))
    (k_cons (k_set (i := 9) sc__law_program.nd (c_new a_nil))
    (k_cons (k_for PassesOwn.never rfl (i_rng1 rfl T.n_range (a_cons (c_call (ok__law_draw T) (hr.mono (by omega)) rfl T.g__law_draw T.F__law_draw.kp T.b__law_draw (a_cons (c_v 0) (a_cons (c_add (c_min2 rfl rfl T.n_min (a_cons (c_v 1) (a_cons (c_sub c_int (c_v 4)) a_nil))) c_int) a_nil))) a_nil)) (g_nm (i := 6) sc__law_program.nd)
    (k_cons (k_bind (c_call (ok__law_step T) (hr.mono (by omega)) rfl T.g__law_step T.F__law_step.kp T.b__law_step (a_cons (c_v 0) (a_cons (c_v 8) (a_cons (c_v 3) (a_cons (c_v 4) a_nil))))) (g_tp (g_cons (g_nm (i := 10) sc__law_program.nd) (g_cons (g_nm (i := 11) sc__law_program.nd) (g_cons (g_nm (i := 12) sc__law_program.nd) g_nil)))))
    (k_cons (k_exp (c_bm PySem.F.plainAttrs_list PySem.F.slot_list_append PySem.F.type_list_append mt_append s_app (c_v 9) (a_cons (c_tup (a_cons (c_call (ok__law_name T) (hr.mono (by omega)) rfl T.g__law_name T.F__law_name.kp T.b__law_name (a_cons (c_v 0) (a_cons (c_add (c_v 4) (c_v 6)) a_nil))) (a_cons (c_v 10) (a_cons (c_v 11) (a_cons (c_v 12) a_nil))))) a_nil)))
    (k_one (k_exp (c_bm PySem.F.plainAttrs_list PySem.F.slot_list_append PySem.F.type_list_append mt_append s_app (c_v 8) (a_cons (c_call (ok__law_step_shape T) (hr.mono (by omega)) rfl T.g__law_step_shape T.F__law_step_shape.kp T.b__law_step_shape (a_cons (c_v 10) (a_cons (c_v 8) (a_cons (c_v 11) (a_cons (c_v 12) a_nil))))) a_nil)))))))
    (k_cons (k_setC (i := 13) (own := [("_law_k", 6)]) rfl sc__law_program.nd (fun _ _ _ h => goCmp (by decide) h) (i_rng1 rfl T.n_range (a_cons (c_len rfl T.n_len (a_cons (c_v 8) a_nil)) a_nil)) (blkOk_by (own := [("_law_k", 6)]) (N := N__law_program) (sc := defScope s__law_program) (by decide +kernel)) (fun _ _ _ _ _ => (g_nm (i := 6) sc__law_program.nd)) (fun _ _ _ _ _ => (l_one (t_eq hr (c_ix (c_v 8) (c_v 6)) (c_tup (a_cons c_int (a_cons c_int a_nil)))))) (fun _ _ _ _ _ => (c_v 6)) (sw_true rfl rfl rfl (by decide +kernel)))
    (k_cons (k_if (PW.pt (w_or (t_eq hr (c_len rfl T.n_len (a_cons (c_v 13) a_nil)) c_int) (w_or1 (t_gt (c_call (ok__law_draw T) (hr.mono (by omega)) rfl T.g__law_draw T.F__law_draw.kp T.b__law_draw (a_cons (c_v 0) (a_cons c_int a_nil))) c_int))))
    (k_cons (k_exp (c_bm PySem.F.plainAttrs_list PySem.F.slot_list_append PySem.F.type_list_append mt_append s_app (c_v 9) (a_cons (c_tup (a_cons (c_call (ok__law_name T) (hr.mono (by omega)) rfl T.g__law_name T.F__law_name.kp T.b__law_name (a_cons (c_v 0) (a_cons (c_len rfl T.n_len (a_cons (c_v 8) a_nil)) a_nil))) (a_cons c_str (a_cons (c_tup (a_cons (c_sub (c_len rfl T.n_len (a_cons (c_v 8) a_nil)) c_int) a_nil)) (a_cons (c_tup a_nil) a_nil))))) a_nil)))
    (k_cons (k_exp (c_bm PySem.F.plainAttrs_list PySem.F.slot_list_append PySem.F.type_list_append mt_append s_app (c_v 8) (a_cons (c_tup (a_cons c_int (a_cons c_int a_nil))) a_nil)))
    (k_one (k_set (i := 13) sc__law_program.nd (c_lst (a_cons (c_sub (c_len rfl T.n_len (a_cons (c_v 8) a_nil)) c_int) a_nil))))))
    k_nil)
    (k_cons (k_set (i := 14) sc__law_program.nd (c_ix (c_v 13) (c_sub (c_len rfl T.n_len (a_cons (c_v 13) a_nil)) c_int)))
    (k_cons (k_if (t_eq hr (c_call (ok__law_draw T) (hr.mono (by omega)) rfl T.g__law_draw T.F__law_draw.kp T.b__law_draw (a_cons (c_v 0) (a_cons c_int a_nil))) c_int)
    (k_one (k_set (i := 14) sc__law_program.nd (c_call (ok__law_pick T) (hr.mono (by omega)) rfl T.g__law_pick T.F__law_pick.kp T.b__law_pick (a_cons (c_v 0) (a_cons (c_v 13) a_nil)))))
    k_nil)
    (k_one (k_ret (c_tup (a_cons (c_tupc rfl T.n_tuple (a_cons (c_sl (c_v 5) o_none (o_some (c_v 3))) a_nil)) (a_cons (c_tupc rfl T.n_tuple (a_cons (c_sl (c_v 5) (o_some (c_v 3)) o_none) a_nil)) (a_cons (c_tupc rfl T.n_tuple (a_cons (c_v 9) a_nil)) (a_cons (c_v 14) a_nil))))))))))))))))))))
theorem ok__law_shapes (T : FTX P K w mg base f_step_shape f_shapes f_plan f__law_pool f__law_draw f__law_pick f__law_same f__law_name f__law_fits f__law_step_shape f__law_step f__law_program f__law_shapes f__law_gets f__law_plan f_law f_Back_Back___init__ f_Back_Back_give f_Back_Back_go_back f_Back_Back_first_part f_Back_Back_second_part f_Back_Lines___init__ f_Back_Lines_line C_Back ca_Back_Back___init__ cc_Back_Back___init__ d_step_shape d_shapes d_plan d__law_pool d__law_draw d__law_pick d__law_same d__law_name d__law_fits d__law_step_shape d__law_step d__law_program d__law_shapes d__law_gets d__law_plan d_law d_Back_Back___init__ d_Back_Back_give d_Back_Back_go_back d_Back_Back_first_part d_Back_Back_second_part d_Back_Lines___init__ d_Back_Lines_line) : FnOk P w K mg base CX0 2 f__law_shapes d__law_shapes ["_law_program_here"] (spF K 1 m__law_shapes) := by
  refine (fn_ok (k := 1) T.F__law_shapes sc__law_shapes fun cdv A outer s H E hr => ?_)
  exact (k_cons (k_setC (i := 1) (own := [("_law_value", 3)]) rfl sc__law_shapes.nd (fun _ _ _ h => goCmpN (by decide) h) (i_seq (c_add (c_ix (c_v 0) c_int) (c_ix (c_v 0) c_int))) (blkOk_by (own := [("_law_value", 3)]) (N := N__law_shapes) (sc := defScope s__law_shapes) (by decide +kernel)) (fun _ _ _ _ _ => (g_nm (i := 3) sc__law_shapes.nd)) (fun _ _ _ _ _ => l_nil) (fun _ _ _ _ _ => (c_sl (c_v 3) (o_some c_int) o_none)) (sw_true rfl rfl rfl (by decide +kernel)))
    (k_cons (k_for PassesOwn.never rfl (i_seq (c_ix (c_v 0) c_int)) (g_nm (i := 2) sc__law_shapes.nd)
    (k_one (k_exp (c_bm PySem.F.plainAttrs_list PySem.F.slot_list_append PySem.F.type_list_append mt_append s_app (c_v 1) (a_cons (c_call (ok__law_step_shape T) (hr.mono (by omega)) rfl T.g__law_step_shape T.F__law_step_shape.kp T.b__law_step_shape (a_cons (c_ix (c_v 2) c_int) (a_cons (c_v 1) (a_cons (c_ix (c_v 2) c_int) (a_cons (c_ix (c_v 2) c_int) a_nil))))) a_nil)))))
    (k_one (k_ret (c_v 1)))))
theorem ok__law_gets (T : FTX P K w mg base f_step_shape f_shapes f_plan f__law_pool f__law_draw f__law_pick f__law_same f__law_name f__law_fits f__law_step_shape f__law_step f__law_program f__law_shapes f__law_gets f__law_plan f_law f_Back_Back___init__ f_Back_Back_give f_Back_Back_go_back f_Back_Back_first_part f_Back_Back_second_part f_Back_Lines___init__ f_Back_Lines_line C_Back ca_Back_Back___init__ cc_Back_Back___init__ d_step_shape d_shapes d_plan d__law_pool d__law_draw d__law_pick d__law_same d__law_name d__law_fits d__law_step_shape d__law_step d__law_program d__law_shapes d__law_gets d__law_plan d_law d_Back_Back___init__ d_Back_Back_give d_Back_Back_go_back d_Back_Back_first_part d_Back_Back_second_part d_Back_Lines___init__ d_Back_Lines_line) : FnOk P w K mg base CX0 1 f__law_gets d__law_gets ["_law_kind", "_law_numbers", "_law_values", "_law_found", "_law_g", "_law_base"] (spF K 6 m__law_gets) := by
  refine (fn_ok (k := 0) T.F__law_gets sc__law_gets fun cdv A outer s H E hr => ?_)
  exact (k_cons (k_set (i := 6) sc__law_gets.nd (c_ix (c_v 2) c_int))
    (k_cons (k_set (i := 7) sc__law_gets.nd (c_ix (c_v 2) (c_sub (c_len rfl T.n_len (a_cons (c_v 2) a_nil)) c_int)))
    (k_cons (k_if (t_eq hr (c_v 0) c_str)
    (k_one (k_ret (c_lst (a_cons (c_tup (a_cons (c_lst a_nil) (a_cons (c_v 4) a_nil))) (a_cons (c_tup (a_cons (c_lst a_nil) (a_cons (c_v 4) a_nil))) a_nil)))))
    k_nil)
    (k_cons (k_if (t_eq hr (c_v 0) c_str)
    (k_one (k_ret (c_lst (a_cons (c_tup (a_cons (c_lst a_nil) (a_cons (c_v 4) a_nil))) (a_cons (c_tup (a_cons (c_lst (a_cons (c_tup (a_cons c_str (a_cons (c_tup (a_cons (c_neg c_int) a_nil)) (a_cons (c_tup (a_cons (c_v 4) a_nil)) a_nil)))) a_nil)) (a_cons (c_v 5) a_nil))) a_nil)))))
    k_nil)
    (k_cons (k_if (t_eq hr (c_v 0) c_str)
    (k_one (k_ret (c_lst (a_cons (c_tup (a_cons (c_lst (a_cons (c_tup (a_cons c_str (a_cons (c_tup a_nil) (a_cons (c_tup (a_cons (c_v 4) (a_cons (c_v 7) a_nil))) a_nil)))) a_nil)) (a_cons (c_v 5) a_nil))) (a_cons (c_tup (a_cons (c_lst (a_cons (c_tup (a_cons c_str (a_cons (c_tup a_nil) (a_cons (c_tup (a_cons (c_v 4) (a_cons (c_v 6) a_nil))) a_nil)))) a_nil)) (a_cons (c_v 5) a_nil))) a_nil)))))
    k_nil)
    (k_cons (k_if (t_eq hr (c_v 0) c_str)
    (k_cons (k_set (i := 8) sc__law_gets.nd (c_tup (a_cons (c_lst (a_cons (c_tup (a_cons c_str (a_cons (c_tup a_nil) (a_cons (c_tup (a_cons (c_v 7) a_nil)) a_nil)))) (a_cons (c_tup (a_cons c_str (a_cons (c_tup a_nil) (a_cons (c_tup (a_cons (c_v 4) (a_cons (c_v 5) a_nil))) a_nil)))) a_nil))) (a_cons (c_add (c_v 5) c_int) a_nil))))
    (k_one (k_ret (c_lst (a_cons (c_v 8) (a_cons (c_tup (a_cons (c_lst (a_cons (c_tup (a_cons c_str (a_cons (c_tup a_nil) (a_cons (c_tup (a_cons (c_v 6) a_nil)) a_nil)))) (a_cons (c_tup (a_cons c_str (a_cons (c_tup a_nil) (a_cons (c_tup (a_cons (c_v 5) (a_cons (c_v 4) a_nil))) a_nil)))) a_nil))) (a_cons (c_add (c_v 5) c_int) a_nil))) a_nil))))))
    k_nil)
    (k_cons (k_if (t_eq hr (c_v 0) c_str)
    (k_one (k_ret (c_lst (a_cons (c_tup (a_cons (c_lst (a_cons (c_tup (a_cons c_str (a_cons (c_tup a_nil) (a_cons (c_tup (a_cons (c_v 4) a_nil)) a_nil)))) a_nil)) (a_cons (c_v 5) a_nil))) a_nil))))
    k_nil)
    (k_cons (k_if (t_eq hr (c_v 0) c_str)
    (k_one (k_ret (c_lst (a_cons (c_tup (a_cons (c_lst (a_cons (c_tup (a_cons c_str (a_cons (c_tup a_nil) (a_cons (c_tup (a_cons (c_v 6) (a_cons (c_v 4) a_nil))) a_nil)))) a_nil)) (a_cons (c_v 5) a_nil))) a_nil))))
    k_nil)
    (k_cons (k_if (t_eq hr (c_v 0) c_str)
    (k_one (k_ret (c_lst (a_cons (c_tup (a_cons (c_lst (a_cons (c_tup (a_cons c_str (a_cons (c_ix (c_v 3) (c_v 6)) (a_cons (c_tup (a_cons (c_v 4) a_nil)) a_nil)))) a_nil)) (a_cons (c_v 5) a_nil))) a_nil))))
    k_nil)
    (k_cons (k_if (t_eq hr (c_v 0) c_str)
    (k_one (k_ret (c_lst (a_cons (c_tup (a_cons (c_lst (a_cons (c_tup (a_cons c_str (a_cons (c_tup a_nil) (a_cons (c_tup (a_cons (c_v 4) a_nil)) a_nil)))) a_nil)) (a_cons (c_v 5) a_nil))) a_nil))))
    k_nil)
    (k_cons (k_if (t_eq hr (c_v 0) c_str)
    (k_one (k_ret (c_lst (a_cons (c_tup (a_cons (c_lst (a_cons (c_tup (a_cons c_str (a_cons (c_v 1) (a_cons (c_tup (a_cons (c_v 4) a_nil)) a_nil)))) a_nil)) (a_cons (c_v 5) a_nil))) a_nil))))
    k_nil)
    (k_one (k_ret (c_lst (a_cons (c_tup (a_cons (c_lst (a_cons (c_tup (a_cons c_str (a_cons (c_tup (a_cons (c_ix (c_ix (c_v 3) (c_v 6)) c_int) a_nil)) (a_cons (c_tup (a_cons (c_v 7) (a_cons (c_v 4) a_nil))) a_nil)))) a_nil)) (a_cons (c_v 5) a_nil))) a_nil)))))))))))))))
theorem ok__law_plan (T : FTX P K w mg base f_step_shape f_shapes f_plan f__law_pool f__law_draw f__law_pick f__law_same f__law_name f__law_fits f__law_step_shape f__law_step f__law_program f__law_shapes f__law_gets f__law_plan f_law f_Back_Back___init__ f_Back_Back_give f_Back_Back_go_back f_Back_Back_first_part f_Back_Back_second_part f_Back_Lines___init__ f_Back_Lines_line C_Back ca_Back_Back___init__ cc_Back_Back___init__ d_step_shape d_shapes d_plan d__law_pool d__law_draw d__law_pick d__law_same d__law_name d__law_fits d__law_step_shape d__law_step d__law_program d__law_shapes d__law_gets d__law_plan d_law d_Back_Back___init__ d_Back_Back_give d_Back_Back_go_back d_Back_Back_first_part d_Back_Back_second_part d_Back_Lines___init__ d_Back_Lines_line) : FnOk P w K mg base CX0 3 f__law_plan d__law_plan ["_law_program_here"] (spF K 1 m__law_plan) := by
  refine sp_gc (fn_ok (k := 2) T.F__law_plan sc__law_plan fun cdv A outer s H E hr => ?_)
  exact (k_cons (k_set (i := 1) sc__law_plan.nd (c_call (ok__law_shapes T) (hr.mono (by omega)) rfl T.g__law_shapes T.F__law_shapes.kp T.b__law_shapes (a_cons (c_v 0) a_nil)))
    (k_cons (k_set (i := 2) sc__law_plan.nd (c_add (c_len rfl T.n_len (a_cons (c_ix (c_v 0) c_int) a_nil)) (c_len rfl T.n_len (a_cons (c_ix (c_v 0) c_int) a_nil))))
    (k_cons (k_setC (i := 3) (own := [("_law_step_here", 7)]) rfl sc__law_plan.nd (fun _ _ _ h => goCmpN (by decide) h) (i_seq (c_ix (c_v 0) c_int)) (blkOk_by (own := [("_law_step_here", 7)]) (N := N__law_plan) (sc := defScope s__law_plan) (by decide +kernel)) (fun _ _ _ _ _ => (g_nm (i := 7) sc__law_plan.nd)) (fun _ _ _ _ _ => l_nil) (fun _ _ _ _ _ => (c_tup (a_cons (c_ix (c_v 7) c_int) (a_cons (c_ix (c_v 7) c_int) (a_cons (c_ix (c_v 7) c_int) a_nil))))) (sw_true rfl rfl rfl (by decide +kernel)))
    (k_cons (k_set (i := 4) sc__law_plan.nd c_newD)
    (k_cons (k_exp (c_bm PySem.F.plainAttrs_list PySem.F.slot_list_append PySem.F.type_list_append mt_append s_app (c_v 3) (a_cons (c_tup (a_cons c_str (a_cons (c_tup (a_cons c_int (a_cons c_int (a_cons c_int a_nil)))) (a_cons (c_tup a_nil) a_nil)))) a_nil)))
    (k_cons (k_setD (hu1 hr) (c_v 4) (c_ix (c_v 0) c_int) (c_sub (c_add (c_v 2) (c_len rfl T.n_len (a_cons (c_v 3) a_nil))) c_int))
    (k_cons (k_for PassesOwn.never rfl (i_rng1 rfl T.n_range (a_cons (c_len rfl T.n_len (a_cons (c_ix (c_v 0) c_int) a_nil)) a_nil)) (g_nm (i := 5) sc__law_plan.nd)
    (k_cons (k_set (i := 6) sc__law_plan.nd (c_sub (c_sub (c_len rfl T.n_len (a_cons (c_ix (c_v 0) c_int) a_nil)) c_int) (c_v 5)))
    (k_cons (k_set (i := 7) sc__law_plan.nd (c_ix (c_ix (c_v 0) c_int) (c_v 6)))
    (k_one (k_if (t_dinT (hu1 hr) (c_add (c_v 2) (c_v 6)) (c_v 4))
    (k_cons (k_set (i := 8) sc__law_plan.nd (c_dget (hu1 hr) (c_v 4) (c_add (c_v 2) (c_v 6)) (fun _ _ => rfl)))
    (k_one (k_for PassesOwn.never rfl (i_rng1 rfl T.n_range (a_cons (c_len rfl T.n_len (a_cons (c_call (ok__law_gets T) (hr.mono (by omega)) rfl T.g__law_gets T.F__law_gets.kp T.b__law_gets (a_cons (c_ix (c_v 7) c_int) (a_cons (c_ix (c_v 7) c_int) (a_cons (c_ix (c_v 7) c_int) (a_cons (c_v 1) (a_cons (c_v 8) (a_cons c_int a_nil))))))) a_nil)) a_nil)) (g_nm (i := 9) sc__law_plan.nd)
    (k_cons (k_bind (c_ix (c_call (ok__law_gets T) (hr.mono (by omega)) rfl T.g__law_gets T.F__law_gets.kp T.b__law_gets (a_cons (c_ix (c_v 7) c_int) (a_cons (c_ix (c_v 7) c_int) (a_cons (c_ix (c_v 7) c_int) (a_cons (c_v 1) (a_cons (c_v 8) (a_cons (c_add (c_v 2) (c_len rfl T.n_len (a_cons (c_v 3) a_nil))) a_nil))))))) (c_v 9)) (g_tp (g_cons (g_nm (i := 10) sc__law_plan.nd) (g_cons (g_nm (i := 11) sc__law_plan.nd) g_nil))))
    (k_cons (k_set (i := 3) sc__law_plan.nd (c_addN (c_v 3) (c_v 10)))
    (k_cons (k_set (i := 12) sc__law_plan.nd (c_ix (c_ix (c_v 7) c_int) (c_v 9)))
    (k_cons (k_if (t_dinT (hu1 hr) (c_v 12) (c_v 4))
    (k_cons (k_exp (c_bm PySem.F.plainAttrs_list PySem.F.slot_list_append PySem.F.type_list_append mt_append s_app (c_v 3) (a_cons (c_tup (a_cons c_str (a_cons (c_tup a_nil) (a_cons (c_tup (a_cons (c_dget (hu1 hr) (c_v 4) (c_v 12) (fun _ _ => rfl)) (a_cons (c_v 11) a_nil))) a_nil)))) a_nil)))
    (k_one (k_set (i := 11) sc__law_plan.nd (c_sub (c_add (c_v 2) (c_len rfl T.n_len (a_cons (c_v 3) a_nil))) c_int))))
    k_nil)
    (k_one (k_setD (hu1 hr) (c_v 4) (c_v 12) (c_v 11))))))))))
    k_nil)))))
    (k_cons (k_for PassesOwn.never rfl (i_rng1 rfl T.n_range (a_cons (c_len rfl T.n_len (a_cons (c_ix (c_v 0) c_int) a_nil)) a_nil)) (g_nm (i := 5) sc__law_plan.nd)
    (k_one (k_if (t_dninT (hu1 hr) (c_v 5) (c_v 4))
    (k_cons (k_exp (c_bm PySem.F.plainAttrs_list PySem.F.slot_list_append PySem.F.type_list_append mt_append s_app (c_v 3) (a_cons (c_tup (a_cons c_str (a_cons (c_tup (a_cons (c_ix (c_ix (c_ix (c_v 0) c_int) (c_v 5)) c_int) (a_cons (c_ix (c_ix (c_ix (c_v 0) c_int) (c_v 5)) c_int) (a_cons c_int a_nil)))) (a_cons (c_tup a_nil) a_nil)))) a_nil)))
    (k_one (k_setD (hu1 hr) (c_v 4) (c_v 5) (c_sub (c_add (c_v 2) (c_len rfl T.n_len (a_cons (c_v 3) a_nil))) c_int))))
    k_nil)))
    (k_one (k_ret (c_tup (a_cons (c_v 2) (a_cons (c_tupc rfl T.n_tuple (a_cons (c_v 3) a_nil)) (a_cons (c_ix (c_v 0) c_int) (a_cons (c_tupc rfl T.n_tuple (a_cons (c_cmp_ (own := [("_law_k", 5)]) rfl sc__law_plan.nd (i_rng1 rfl T.n_range (a_cons (c_len rfl T.n_len (a_cons (c_ix (c_v 0) c_int) a_nil)) a_nil)) (blkOk_by (own := [("_law_k", 5)]) (N := N__law_plan) (sc := defScope s__law_plan) (by decide +kernel)) rfl (fun _ _ _ _ _ => (g_nm (i := 5) sc__law_plan.nd)) (fun _ _ _ _ _ => l_nil) (fun _ _ _ _ _ => (c_dget (hu1 hr) (c_v 4) (c_v 5) (fun _ _ => rfl)))) a_nil)) a_nil)))))))))))))))
theorem ok_law (T : FTX P K w mg base f_step_shape f_shapes f_plan f__law_pool f__law_draw f__law_pick f__law_same f__law_name f__law_fits f__law_step_shape f__law_step f__law_program f__law_shapes f__law_gets f__law_plan f_law f_Back_Back___init__ f_Back_Back_give f_Back_Back_go_back f_Back_Back_first_part f_Back_Back_second_part f_Back_Lines___init__ f_Back_Lines_line C_Back ca_Back_Back___init__ cc_Back_Back___init__ d_step_shape d_shapes d_plan d__law_pool d__law_draw d__law_pick d__law_same d__law_name d__law_fits d__law_step_shape d__law_step d__law_program d__law_shapes d__law_gets d__law_plan d_law d_Back_Back___init__ d_Back_Back_give d_Back_Back_go_back d_Back_Back_first_part d_Back_Back_second_part d_Back_Lines___init__ d_Back_Lines_line) : FnOk P w K mg base CX0 9 f_law d_law ["_law_script"] (spF K 1 m_law) := by
  refine (fn_ok (k := 8) T.F_law sc_law fun cdv A outer s H E hr => ?_)
  exact (k_cons (k_set (i := 1) sc_law.nd (c_call (ok__law_pool T) (hr.mono (by omega)) rfl T.g__law_pool T.F__law_pool.kp T.b__law_pool (a_cons (c_v 0) a_nil)))
    (k_cons (k_set (i := 2) sc_law.nd (c_call (ok__law_program T) (hr.mono (by omega)) rfl T.g__law_program T.F__law_program.kp T.b__law_program (a_cons (c_v 1) (a_cons (c_call (ok__law_pick T) (hr.mono (by omega)) rfl T.g__law_pick T.F__law_pick.kp T.b__law_pick (a_cons (c_v 1) (a_cons (c_lst (a_cons c_int (a_cons c_int (a_cons c_int a_nil)))) a_nil))) a_nil))))
    (k_one (k_ret (c_call (ok__law_same T 8) (hr.mono (by omega)) rfl T.g__law_same T.F__law_same.kp T.b__law_same (a_cons (c_call (ok_plan T) (hr.mono (by omega)) rfl T.g_plan T.F_plan.kp T.b_plan (a_cons (c_v 2) a_nil)) (a_cons (c_call (ok__law_plan T) (hr.mono (by omega)) rfl T.g__law_plan T.F__law_plan.kp T.b__law_plan (a_cons (c_v 2) a_nil)) a_nil)))))))
end
instance tbs0 : Tbs := ⟨[]⟩
theorem all_mk {l : PySem.W.OpenLaw} {w : World} {K : Frag} {h : Heap} {mg : PySem.Str → Option Value} {fa f_step_shape f_shapes f_plan f__law_pool f__law_draw f__law_pick f__law_same f__law_name f__law_fits f__law_step_shape f__law_step f__law_program f__law_shapes f__law_gets f__law_plan f_law f_Back_Back___init__ f_Back_Back_give f_Back_Back_go_back f_Back_Back_first_part f_Back_Back_second_part f_Back_Lines___init__ f_Back_Lines_line C_Back ca_Back_Back___init__ cc_Back_Back___init__ : Addr} (X : K.In h) (G : h.Ns mainGlobals mg) (hfa : mg "law" = some (.ref fa))
    {od0 an0 od1 an1 od2 an2 od3 an3 od4 an4 od5 an5 od6 an6 od7 an7 od8 an8 od9 an9 od10 an10 od11 an11 od12 an12 od13 an13 od14 an14 od15 an15 od17 an17 od18 an18 od19 an19 od20 an20 od21 an21 od22 an22 : Option Addr} {sl0 sl1 sl2 sl3 sl4 sl5 sl6 sl7 sl8 sl9 sl10 sl11 sl12 sl13 sl14 sl15 sl17 sl18 sl19 sl20 sl21 sl22 : Array (Option Value)} {oc0 kV0 dc0 pm0 cd0 ct0 oc1 kV1 dc1 pm1 cd1 ct1 oc2 kV2 dc2 pm2 cd2 ct2 oc3 kV3 dc3 pm3 cd3 ct3 oc4 kV4 dc4 pm4 cd4 ct4 oc5 kV5 dc5 pm5 cd5 ct5 oc6 kV6 dc6 pm6 cd6 ct6 oc7 kV7 dc7 pm7 cd7 ct7 oc8 kV8 dc8 pm8 cd8 ct8 oc9 kV9 dc9 pm9 cd9 ct9 oc10 kV10 dc10 pm10 cd10 ct10 oc11 kV11 dc11 pm11 cd11 ct11 oc12 kV12 dc12 pm12 cd12 ct12 oc13 kV13 dc13 pm13 cd13 ct13 oc14 kV14 dc14 pm14 cd14 ct14 oc15 kV15 dc15 pm15 cd15 ct15 oc17 kV17 dc17 pm17 cd17 ct17 oc18 kV18 dc18 pm18 cd18 ct18 oc19 kV19 dc19 pm19 cd19 ct19 oc20 kV20 dc20 pm20 cd20 ct20 oc21 kV21 dc21 pm21 cd21 ct21 oc22 kV22 dc22 pm22 cd22 ct22 : Value}
    (aC_Back : PySem.W.nsIn K mainGlobals "Back" = some (some (.ref C_Back)))
    (pgC_Back : PySem.W.plainGet K C_Back PySem.Str.empty = true)
    (hdC_Back : PySem.W.hasDictIn K C_Back = true)
    (poC_Back : PySem.W.plainOver K C_Back = true)
    (saC_Back : PySem.W.findIn K (.ref C_Back) "__setattr__" = some (some (.builtin "object.__setattr__")))
    (mkC_Back : PySem.W.makesIn K C_Back = true)
    (kpC_Back : PySem.W.keepIn K (.ref C_Back) = true)
    (naF_Back_got : PySem.W.findIn K (.ref C_Back) "got" = some none)
    (naF_Back_leaves : PySem.W.findIn K (.ref C_Back) "leaves" = some none)
    (naF_Back_lines : PySem.W.findIn K (.ref C_Back) "lines" = some none)
    (naF_Back_shapes : PySem.W.findIn K (.ref C_Back) "shapes" = some none)
    (mtM_Back_Back___init__ : PySem.W.findIn K (.ref C_Back) "__init__" = some (some (.ref f_Back_Back___init__))) (fnM_Back_Back___init__ : PySem.W.isFn K (.ref f_Back_Back___init__) = true)
    {kVS_Back_Back___init__ dcS_Back_Back___init__ pmS_Back_Back___init__ ctS_Back_Back___init__ ocS_Back_Back___init__ cclS_Back_Back___init__ clS_Back_Back___init__ : Value} {odS_Back_Back___init__ anS_Back_Back___init__ cddS_Back_Back___init__ cldS_Back_Back___init__ : Option Addr} {slS_Back_Back___init__ ccsS_Back_Back___init__ cslS_Back_Back___init__ : Array (Option Value)} {vsS_Back_Back___init__ : Array Value} {fileS_Back_Back___init__ : PySem.Str} {tfS_Back_Back___init__ : Tok}
    (lkS_Back_Back___init__ : K.lookup f_Back_Back___init__ = some ⟨ocS_Back_Back___init__, odS_Back_Back___init__, .func (PySem.W.fnX "__init__" "Back.__init__" (defArgs s_Back_Back___init__) (defBody s_Back_Back___init__) (defScope s_Back_Back___init__) [(("__class__" : PySem.Str), cc_Back_Back___init__)] .none kVS_Back_Back___init__ dcS_Back_Back___init__ pmS_Back_Back___init__ anS_Back_Back___init__ (.ref ca_Back_Back___init__) ctS_Back_Back___init__), slS_Back_Back___init__⟩)
    (hcS_Back_Back___init__ : PySem.W.codeIn K (.ref ca_Back_Back___init__) "Back.__init__" = true)
    (coS_Back_Back___init__ : K.lookup ca_Back_Back___init__ = some ⟨cclS_Back_Back___init__, cddS_Back_Back___init__, .fields vsS_Back_Back___init__, ccsS_Back_Back___init__⟩)
    (vsSS_Back_Back___init__ : vsS_Back_Back___init__[2]? = some (.str fileS_Back_Back___init__ tfS_Back_Back___init__))
    (flS_Back_Back___init__ : ((l.prog.main.file : PySem.Str) == fileS_Back_Back___init__) = true)
    (ceS_Back_Back___init__ : K.lookup cc_Back_Back___init__ = some ⟨clS_Back_Back___init__, cldS_Back_Back___init__, .cell (some (.ref C_Back)), cslS_Back_Back___init__⟩)
    (seS_Back_Back___init__ : PySem.W.mroIn K C_Back (.ref C_Back) = some true)
    (suS_Back_Back___init__ : PySem.W.ks_superIn K C_Back C_Back "__init__" = some (some (.ref f_Back_Lines___init__)))
    (tgS_Back_Back___init__ : PySem.W.typeIn K (.ref f_Back_Lines___init__) = some (.type "function"))
    (giS_Back_Back___init__ : PySem.W.fnIn K f_Back_Lines___init__ = true)
    (zsS_Back_Back___init__ : PySem.W.nsIn K mainGlobals "super" = some none)
    (toS_Back_Back___init__ : (l.prog.main.scope.names.lookup ("super" : PySem.Str)).isSome = false)
    (opS_Back_Back___init__ : PySem.W.nsIn K cStatics "thirdparty.any" = some none)
    (mtM_Back_Back_give : PySem.W.findIn K (.ref C_Back) "give" = some (some (.ref f_Back_Back_give))) (fnM_Back_Back_give : PySem.W.isFn K (.ref f_Back_Back_give) = true)
    (mtM_Back_Back_go_back : PySem.W.findIn K (.ref C_Back) "go_back" = some (some (.ref f_Back_Back_go_back))) (fnM_Back_Back_go_back : PySem.W.isFn K (.ref f_Back_Back_go_back) = true)
    (mtM_Back_Back_first_part : PySem.W.findIn K (.ref C_Back) "first_part" = some (some (.ref f_Back_Back_first_part))) (fnM_Back_Back_first_part : PySem.W.isFn K (.ref f_Back_Back_first_part) = true)
    (mtM_Back_Back_second_part : PySem.W.findIn K (.ref C_Back) "second_part" = some (some (.ref f_Back_Back_second_part))) (fnM_Back_Back_second_part : PySem.W.isFn K (.ref f_Back_Back_second_part) = true)
    (mtM_Back_Lines_line : PySem.W.findIn K (.ref C_Back) "line" = some (some (.ref f_Back_Lines_line))) (fnM_Back_Lines_line : PySem.W.isFn K (.ref f_Back_Lines_line) = true)
    (gfM_Back_Lines_line : PySem.W.specialIn K (.ref f_Back_Lines_line) "__get__" = some (some (.builtin "function.__get__"))) (tkM_Back_Lines_line : PySem.W.takesIn K (.ref f_Back_Lines_line) = some false) (fiM_Back_Lines_line : PySem.W.fnIn K f_Back_Lines_line = true)
    (a0 : PySem.W.nsIn K mainGlobals "step_shape" = some (some (.ref f_step_shape))) (l0 : K.lookup f_step_shape = some ⟨oc0, od0, .func (PySem.W.fnOf "step_shape" "step_shape" (defArgs s_step_shape) (defBody s_step_shape) (defScope s_step_shape) .none kV0 dc0 pm0 an0 cd0 ct0), sl0⟩) (c0 : PySem.W.codeIn K cd0 "step_shape" = true) (k0 : PySem.W.keepIn K (.ref f_step_shape) = true)
    (a1 : PySem.W.nsIn K mainGlobals "shapes" = some (some (.ref f_shapes))) (l1 : K.lookup f_shapes = some ⟨oc1, od1, .func (PySem.W.fnOf "shapes" "shapes" (defArgs s_shapes) (defBody s_shapes) (defScope s_shapes) .none kV1 dc1 pm1 an1 cd1 ct1), sl1⟩) (c1 : PySem.W.codeIn K cd1 "shapes" = true) (k1 : PySem.W.keepIn K (.ref f_shapes) = true)
    (a2 : PySem.W.nsIn K mainGlobals "plan" = some (some (.ref f_plan))) (l2 : K.lookup f_plan = some ⟨oc2, od2, .func (PySem.W.fnOf "plan" "plan" (defArgs s_plan) (defBody s_plan) (defScope s_plan) .none kV2 dc2 pm2 an2 cd2 ct2), sl2⟩) (c2 : PySem.W.codeIn K cd2 "plan" = true) (k2 : PySem.W.keepIn K (.ref f_plan) = true)
    (a3 : PySem.W.nsIn K mainGlobals "_law_pool" = some (some (.ref f__law_pool))) (l3 : K.lookup f__law_pool = some ⟨oc3, od3, .func (PySem.W.fnOf "_law_pool" "_law_pool" (defArgs s__law_pool) (defBody s__law_pool) (defScope s__law_pool) .none kV3 dc3 pm3 an3 cd3 ct3), sl3⟩) (c3 : PySem.W.codeIn K cd3 "_law_pool" = true) (k3 : PySem.W.keepIn K (.ref f__law_pool) = true)
    (a4 : PySem.W.nsIn K mainGlobals "_law_draw" = some (some (.ref f__law_draw))) (l4 : K.lookup f__law_draw = some ⟨oc4, od4, .func (PySem.W.fnOf "_law_draw" "_law_draw" (defArgs s__law_draw) (defBody s__law_draw) (defScope s__law_draw) .none kV4 dc4 pm4 an4 cd4 ct4), sl4⟩) (c4 : PySem.W.codeIn K cd4 "_law_draw" = true) (k4 : PySem.W.keepIn K (.ref f__law_draw) = true)
    (a5 : PySem.W.nsIn K mainGlobals "_law_pick" = some (some (.ref f__law_pick))) (l5 : K.lookup f__law_pick = some ⟨oc5, od5, .func (PySem.W.fnOf "_law_pick" "_law_pick" (defArgs s__law_pick) (defBody s__law_pick) (defScope s__law_pick) .none kV5 dc5 pm5 an5 cd5 ct5), sl5⟩) (c5 : PySem.W.codeIn K cd5 "_law_pick" = true) (k5 : PySem.W.keepIn K (.ref f__law_pick) = true)
    (a6 : PySem.W.nsIn K mainGlobals "_law_same" = some (some (.ref f__law_same))) (l6 : K.lookup f__law_same = some ⟨oc6, od6, .func (PySem.W.fnOf "_law_same" "_law_same" (defArgs s__law_same) (defBody s__law_same) (defScope s__law_same) .none kV6 dc6 pm6 an6 cd6 ct6), sl6⟩) (c6 : PySem.W.codeIn K cd6 "_law_same" = true) (k6 : PySem.W.keepIn K (.ref f__law_same) = true)
    (a7 : PySem.W.nsIn K mainGlobals "_law_name" = some (some (.ref f__law_name))) (l7 : K.lookup f__law_name = some ⟨oc7, od7, .func (PySem.W.fnOf "_law_name" "_law_name" (defArgs s__law_name) (defBody s__law_name) (defScope s__law_name) .none kV7 dc7 pm7 an7 cd7 ct7), sl7⟩) (c7 : PySem.W.codeIn K cd7 "_law_name" = true) (k7 : PySem.W.keepIn K (.ref f__law_name) = true)
    (a8 : PySem.W.nsIn K mainGlobals "_law_fits" = some (some (.ref f__law_fits))) (l8 : K.lookup f__law_fits = some ⟨oc8, od8, .func (PySem.W.fnOf "_law_fits" "_law_fits" (defArgs s__law_fits) (defBody s__law_fits) (defScope s__law_fits) .none kV8 dc8 pm8 an8 cd8 ct8), sl8⟩) (c8 : PySem.W.codeIn K cd8 "_law_fits" = true) (k8 : PySem.W.keepIn K (.ref f__law_fits) = true)
    (a9 : PySem.W.nsIn K mainGlobals "_law_step_shape" = some (some (.ref f__law_step_shape))) (l9 : K.lookup f__law_step_shape = some ⟨oc9, od9, .func (PySem.W.fnOf "_law_step_shape" "_law_step_shape" (defArgs s__law_step_shape) (defBody s__law_step_shape) (defScope s__law_step_shape) .none kV9 dc9 pm9 an9 cd9 ct9), sl9⟩) (c9 : PySem.W.codeIn K cd9 "_law_step_shape" = true) (k9 : PySem.W.keepIn K (.ref f__law_step_shape) = true)
    (a10 : PySem.W.nsIn K mainGlobals "_law_step" = some (some (.ref f__law_step))) (l10 : K.lookup f__law_step = some ⟨oc10, od10, .func (PySem.W.fnOf "_law_step" "_law_step" (defArgs s__law_step) (defBody s__law_step) (defScope s__law_step) .none kV10 dc10 pm10 an10 cd10 ct10), sl10⟩) (c10 : PySem.W.codeIn K cd10 "_law_step" = true) (k10 : PySem.W.keepIn K (.ref f__law_step) = true)
    (a11 : PySem.W.nsIn K mainGlobals "_law_program" = some (some (.ref f__law_program))) (l11 : K.lookup f__law_program = some ⟨oc11, od11, .func (PySem.W.fnOf "_law_program" "_law_program" (defArgs s__law_program) (defBody s__law_program) (defScope s__law_program) .none kV11 dc11 pm11 an11 cd11 ct11), sl11⟩) (c11 : PySem.W.codeIn K cd11 "_law_program" = true) (k11 : PySem.W.keepIn K (.ref f__law_program) = true)
    (a12 : PySem.W.nsIn K mainGlobals "_law_shapes" = some (some (.ref f__law_shapes))) (l12 : K.lookup f__law_shapes = some ⟨oc12, od12, .func (PySem.W.fnOf "_law_shapes" "_law_shapes" (defArgs s__law_shapes) (defBody s__law_shapes) (defScope s__law_shapes) .none kV12 dc12 pm12 an12 cd12 ct12), sl12⟩) (c12 : PySem.W.codeIn K cd12 "_law_shapes" = true) (k12 : PySem.W.keepIn K (.ref f__law_shapes) = true)
    (a13 : PySem.W.nsIn K mainGlobals "_law_gets" = some (some (.ref f__law_gets))) (l13 : K.lookup f__law_gets = some ⟨oc13, od13, .func (PySem.W.fnOf "_law_gets" "_law_gets" (defArgs s__law_gets) (defBody s__law_gets) (defScope s__law_gets) .none kV13 dc13 pm13 an13 cd13 ct13), sl13⟩) (c13 : PySem.W.codeIn K cd13 "_law_gets" = true) (k13 : PySem.W.keepIn K (.ref f__law_gets) = true)
    (a14 : PySem.W.nsIn K mainGlobals "_law_plan" = some (some (.ref f__law_plan))) (l14 : K.lookup f__law_plan = some ⟨oc14, od14, .func (PySem.W.fnOf "_law_plan" "_law_plan" (defArgs s__law_plan) (defBody s__law_plan) (defScope s__law_plan) .none kV14 dc14 pm14 an14 cd14 ct14), sl14⟩) (c14 : PySem.W.codeIn K cd14 "_law_plan" = true) (k14 : PySem.W.keepIn K (.ref f__law_plan) = true)
    (a15 : PySem.W.nsIn K mainGlobals "law" = some (some (.ref f_law))) (l15 : K.lookup f_law = some ⟨oc15, od15, .func (PySem.W.fnOf "law" "law" (defArgs s_law) (defBody s_law) (defScope s_law) .none kV15 dc15 pm15 an15 cd15 ct15), sl15⟩) (c15 : PySem.W.codeIn K cd15 "law" = true) (k15 : PySem.W.keepIn K (.ref f_law) = true)
    (l17 : K.lookup f_Back_Back_give = some ⟨oc17, od17, .func (PySem.W.fnOf "give" "Back.give" (defArgs s_Back_Back_give) (defBody s_Back_Back_give) (defScope s_Back_Back_give) .none kV17 dc17 pm17 an17 cd17 ct17), sl17⟩) (c17 : PySem.W.codeIn K cd17 "Back.give" = true) (k17 : PySem.W.keepIn K (.ref f_Back_Back_give) = true)
    (l18 : K.lookup f_Back_Back_go_back = some ⟨oc18, od18, .func (PySem.W.fnOf "go_back" "Back.go_back" (defArgs s_Back_Back_go_back) (defBody s_Back_Back_go_back) (defScope s_Back_Back_go_back) .none kV18 dc18 pm18 an18 cd18 ct18), sl18⟩) (c18 : PySem.W.codeIn K cd18 "Back.go_back" = true) (k18 : PySem.W.keepIn K (.ref f_Back_Back_go_back) = true)
    (l19 : K.lookup f_Back_Back_first_part = some ⟨oc19, od19, .func (PySem.W.fnOf "first_part" "Back.first_part" (defArgs s_Back_Back_first_part) (defBody s_Back_Back_first_part) (defScope s_Back_Back_first_part) .none kV19 dc19 pm19 an19 cd19 ct19), sl19⟩) (c19 : PySem.W.codeIn K cd19 "Back.first_part" = true) (k19 : PySem.W.keepIn K (.ref f_Back_Back_first_part) = true)
    (l20 : K.lookup f_Back_Back_second_part = some ⟨oc20, od20, .func (PySem.W.fnOf "second_part" "Back.second_part" (defArgs s_Back_Back_second_part) (defBody s_Back_Back_second_part) (defScope s_Back_Back_second_part) .none kV20 dc20 pm20 an20 cd20 ct20), sl20⟩) (c20 : PySem.W.codeIn K cd20 "Back.second_part" = true) (k20 : PySem.W.keepIn K (.ref f_Back_Back_second_part) = true)
    (l21 : K.lookup f_Back_Lines___init__ = some ⟨oc21, od21, .func (PySem.W.fnOf "__init__" "Lines.__init__" (defArgs s_Back_Lines___init__) (defBody s_Back_Lines___init__) (defScope s_Back_Lines___init__) .none kV21 dc21 pm21 an21 cd21 ct21), sl21⟩) (c21 : PySem.W.codeIn K cd21 "Lines.__init__" = true) (k21 : PySem.W.keepIn K (.ref f_Back_Lines___init__) = true)
    (l22 : K.lookup f_Back_Lines_line = some ⟨oc22, od22, .func (PySem.W.fnOf "line" "Lines.line" (defArgs s_Back_Lines_line) (defBody s_Back_Lines_line) (defScope s_Back_Lines_line) .none kV22 dc22 pm22 an22 cd22 ct22), sl22⟩) (c22 : PySem.W.codeIn K cd22 "Lines.line" = true) (k22 : PySem.W.keepIn K (.ref f_Back_Lines_line) = true)
    (z_abs : PySem.W.nsIn K mainGlobals "abs" = some none)
    (z_bool : PySem.W.nsIn K mainGlobals "bool" = some none)
    (z_enumerate : PySem.W.nsIn K mainGlobals "enumerate" = some none)
    (z_int : PySem.W.nsIn K mainGlobals "int" = some none)
    (z_isinstance : PySem.W.nsIn K mainGlobals "isinstance" = some none)
    (z_len : PySem.W.nsIn K mainGlobals "len" = some none)
    (z_list : PySem.W.nsIn K mainGlobals "list" = some none)
    (z_min : PySem.W.nsIn K mainGlobals "min" = some none)
    (z_range : PySem.W.nsIn K mainGlobals "range" = some none)
    (z_str : PySem.W.nsIn K mainGlobals "str" = some none)
    (z_tuple : PySem.W.nsIn K mainGlobals "tuple" = some none)
    : ∃ fd : FuncData, (∀ (s : Shared) (v : Value), BindsTo s fd ⟨[v], []⟩ [("_law_script", v)]) ∧ ∀ base : Heap, K.In base → base.Ns mainGlobals mg → FnOk l.prog w K mg base CX0 9 fa fd ["_law_script"] (spLaw K) := by
  have e := hfa.symm.trans (PySem.W.mg_of X G a15)
  cases e
  have F0 := fun_mk (st := s_step_shape) l0 c0 k0
  have b0 := F0.binds (ps := ["kind", "found", "numbers"]) fun _ _ _ _ _ _ us hl => match us, hl with | [_, _, _], _ => rfl
  have F1 := fun_mk (st := s_shapes) l1 c1 k1
  have b1 := F1.binds (ps := ["program"]) fun _ _ _ _ _ _ us hl => match us, hl with | [_], _ => rfl
  have F2 := fun_mk (st := s_plan) l2 c2 k2
  have b2 := F2.binds (ps := ["program"]) fun _ _ _ _ _ _ us hl => match us, hl with | [_], _ => rfl
  have F3 := fun_mk (st := s__law_pool) l3 c3 k3
  have b3 := F3.binds (ps := ["_law_script"]) fun _ _ _ _ _ _ us hl => match us, hl with | [_], _ => rfl
  have F4 := fun_mk (st := s__law_draw) l4 c4 k4
  have b4 := F4.binds (ps := ["_law_pool_here", "_law_many"]) fun _ _ _ _ _ _ us hl => match us, hl with | [_, _], _ => rfl
  have F5 := fun_mk (st := s__law_pick) l5 c5 k5
  have b5 := F5.binds (ps := ["_law_pool_here", "_law_rows"]) fun _ _ _ _ _ _ us hl => match us, hl with | [_, _], _ => rfl
  have F6 := fun_mk (st := s__law_same) l6 c6 k6
  have b6 := F6.binds (ps := ["_law_actual", "_law_due"]) fun _ _ _ _ _ _ us hl => match us, hl with | [_, _], _ => rfl
  have F7 := fun_mk (st := s__law_name) l7 c7 k7
  have b7 := F7.binds (ps := ["_law_pool_here", "_law_index"]) fun _ _ _ _ _ _ us hl => match us, hl with | [_, _], _ => rfl
  have F8 := fun_mk (st := s__law_fits) l8 c8 k8
  have b8 := F8.binds (ps := ["_law_kind", "_law_found", "_law_a", "_law_b"]) fun _ _ _ _ _ _ us hl => match us, hl with | [_, _, _, _], _ => rfl
  have F9 := fun_mk (st := s__law_step_shape) l9 c9 k9
  have b9 := F9.binds (ps := ["_law_kind", "_law_found", "_law_values", "_law_numbers"]) fun _ _ _ _ _ _ us hl => match us, hl with | [_, _, _, _], _ => rfl
  have F10 := fun_mk (st := s__law_step) l10 c10 k10
  have b10 := F10.binds (ps := ["_law_pool_here", "_law_found", "_law_own", "_law_leaves"]) fun _ _ _ _ _ _ us hl => match us, hl with | [_, _, _, _], _ => rfl
  have F11 := fun_mk (st := s__law_program) l11 c11 k11
  have b11 := F11.binds (ps := ["_law_pool_here", "_law_most"]) fun _ _ _ _ _ _ us hl => match us, hl with | [_, _], _ => rfl
  have F12 := fun_mk (st := s__law_shapes) l12 c12 k12
  have b12 := F12.binds (ps := ["_law_program_here"]) fun _ _ _ _ _ _ us hl => match us, hl with | [_], _ => rfl
  have F13 := fun_mk (st := s__law_gets) l13 c13 k13
  have b13 := F13.binds (ps := ["_law_kind", "_law_numbers", "_law_values", "_law_found", "_law_g", "_law_base"]) fun _ _ _ _ _ _ us hl => match us, hl with | [_, _, _, _, _, _], _ => rfl
  have F14 := fun_mk (st := s__law_plan) l14 c14 k14
  have b14 := F14.binds (ps := ["_law_program_here"]) fun _ _ _ _ _ _ us hl => match us, hl with | [_], _ => rfl
  have F15 := fun_mk (st := s_law) l15 c15 k15
  have b15 := F15.binds (ps := ["_law_script"]) fun _ _ _ _ _ _ us hl => match us, hl with | [_], _ => rfl
  have b16 : Binds K (PySem.W.fnX "__init__" "Back.__init__" (defArgs s_Back_Back___init__) (defBody s_Back_Back___init__) (defScope s_Back_Back___init__) [(("__class__" : PySem.Str), cc_Back_Back___init__)] .none kVS_Back_Back___init__ dcS_Back_Back___init__ pmS_Back_Back___init__ anS_Back_Back___init__ (.ref ca_Back_Back___init__) ctS_Back_Back___init__) ["self", "program"] [] := .all fun us hl => match us, hl with | [_, _], _ => rfl
  have F17 := fun_mk (st := s_Back_Back_give) l17 c17 k17
  have b17 := F17.binds (ps := ["self", "value", "given"]) fun _ _ _ _ _ _ us hl => match us, hl with | [_, _, _], _ => rfl
  have F18 := fun_mk (st := s_Back_Back_go_back) l18 c18 k18
  have b18 := F18.binds (ps := ["self", "step", "own"]) fun _ _ _ _ _ _ us hl => match us, hl with | [_, _, _], _ => rfl
  have F19 := fun_mk (st := s_Back_Back_first_part) l19 c19 k19
  have b19 := F19.binds (ps := ["self", "kind", "values", "numbers", "given"]) fun _ _ _ _ _ _ us hl => match us, hl with | [_, _, _, _, _], _ => rfl
  have F20 := fun_mk (st := s_Back_Back_second_part) l20 c20 k20
  have b20 := F20.binds (ps := ["self", "kind", "values", "given"]) fun _ _ _ _ _ _ us hl => match us, hl with | [_, _, _, _], _ => rfl
  have F21 := fun_mk (st := s_Back_Lines___init__) l21 c21 k21
  have b21 := F21.binds (ps := ["self", "leaves"]) fun _ _ _ _ _ _ us hl => match us, hl with | [_, _], _ => rfl
  have F22 := fun_mk (st := s_Back_Lines_line) l22 c22 k22
  have T : ∀ base : Heap, FTX l.prog K w mg base _ _ _ _ _ _ _ _ _ _ _ _ _ _ _ _ _ _ _ _ _ _ _ _ _ _ _ _ _ _ _ _ _ _ _ _ _ _ _ _ _ _ _ _ _ _ _ _ _ := fun base => ⟨F0, PySem.W.mg_of X G a0, b0, F1, PySem.W.mg_of X G a1, b1, F2, PySem.W.mg_of X G a2, b2, F3, PySem.W.mg_of X G a3, b3, F4, PySem.W.mg_of X G a4, b4, F5, PySem.W.mg_of X G a5, b5, F6, PySem.W.mg_of X G a6, b6, F7, PySem.W.mg_of X G a7, b7, F8, PySem.W.mg_of X G a8, b8, F9, PySem.W.mg_of X G a9, b9, F10, PySem.W.mg_of X G a10, b10, F11, PySem.W.mg_of X G a11, b11, F12, PySem.W.mg_of X G a12, b12, F13, PySem.W.mg_of X G a13, b13, F14, PySem.W.mg_of X G a14, b14, F15, PySem.W.mg_of X G a15, b15, ⟨_, _, _, _, _, _, _, _, _, rfl, lkS_Back_Back___init__⟩, hcS_Back_Back___init__, { lk := ⟨_, _, _, _, _, lkS_Back_Back___init__, rfl, rfl⟩, code := ⟨_, _, _, _, _, _, coS_Back_Back___init__, vsSS_Back_Back___init__, flS_Back_Back___init__⟩, cell := ⟨_, _, _, ceS_Back_Back___init__⟩, cl := rfl, cls := by have h0 := poC_Back; unfold PySem.W.plainOver at h0; cases e0 : PySem.W.clsIn K C_Back with | none => (rw [e0] at h0; cases h0) | some cd => exact ⟨cd, rfl⟩, self := seS_Back_Back___init__, sup := suS_Back_Back___init__, tg := tgS_Back_Back___init__, fi := giS_Back_Back___init__, zs := zsS_Back_Back___init__, top := toS_Back_Back___init__, opq := opS_Back_Back___init__, nm := by decide, ks := (by decide +kernel : (defScope s_Back_Back___init__).names.lookup ("super" : PySem.Str) = some .globalImplicit), kc := (by decide +kernel : (defScope s_Back_Back___init__).names.lookup ("__class__" : PySem.Str) = some .free), kd := rfl }, b16, F17, b17, ⟨mtM_Back_Back_give, fnM_Back_Back_give, k17⟩, F18, b18, ⟨mtM_Back_Back_go_back, fnM_Back_Back_go_back, k18⟩, F19, b19, ⟨mtM_Back_Back_first_part, fnM_Back_Back_first_part, k19⟩, F20, b20, ⟨mtM_Back_Back_second_part, fnM_Back_Back_second_part, k20⟩, F21, b21, F22, ⟨mtM_Back_Lines_line, fnM_Back_Lines_line, k22⟩, ⟨⟨mtM_Back_Lines_line, fnM_Back_Lines_line, k22⟩, gfM_Back_Lines_line, tkM_Back_Lines_line, by decide, fiM_Back_Lines_line⟩, PySem.W.mg_of X G aC_Back, aC_Back, ⟨pgC_Back, hdC_Back, poC_Back, saC_Back⟩, ⟨mkC_Back, mtM_Back_Back___init__, fnM_Back_Back___init__, kpC_Back⟩, clsF_of aC_Back ⟨pgC_Back, hdC_Back, poC_Back, saC_Back⟩ naF_Back_got, clsF_of aC_Back ⟨pgC_Back, hdC_Back, poC_Back, saC_Back⟩ naF_Back_leaves, clsF_of aC_Back ⟨pgC_Back, hdC_Back, poC_Back, saC_Back⟩ naF_Back_lines, clsF_of aC_Back ⟨pgC_Back, hdC_Back, poC_Back, saC_Back⟩ naF_Back_shapes, PySem.W.mg_none_of X G z_abs, PySem.W.mg_none_of X G z_bool, PySem.W.mg_none_of X G z_enumerate, PySem.W.mg_none_of X G z_int, PySem.W.mg_none_of X G z_isinstance, PySem.W.mg_none_of X G z_len, PySem.W.mg_none_of X G z_list, PySem.W.mg_none_of X G z_min, PySem.W.mg_none_of X G z_range, PySem.W.mg_none_of X G z_str, PySem.W.mg_none_of X G z_tuple⟩
  exact ⟨_, fun s v => .of_eq rfl, fun base _ _ => law_of (ok_law (T base)) law_true⟩
end LW
open PySem PySem.W PyProof.Rows
set_option maxRecDepth 100000 in
set_option maxHeartbeats 0 in
theorem PySem.Challenge.cw_lasttext_k11_plan_of_a_program_holds : PySem.Challenge.rw_lasttext_k11_plan_of_a_program.Holds := by
  w_on; o_law; k_head; (case hw => w_witness2)
  k_fill
  refine L2.walk_ofK (l := PySem.Challenge.rw_lasttext_k11_plan_of_a_program) (n := 63) (k := 9) (x := "_law_script") (CX := L2.CX0) (sp := ML.spLaw) rfl (by decide) rfl ⟨rfl, by decide, by decide⟩ (fun w h Y => PySem.W.kIn_of Y) ?F (fun _ _ a ns hl _ hS => ⟨a, ns, rfl, hS, hl, fun _ => rfl⟩) (fun _ _ _ _ h => h)
  case F =>
    intro w mg fa h KX G hmg
    refine' LW.all_mk KX G hmg ?aC_Back ?pgC_Back ?hdC_Back ?poC_Back ?saC_Back ?mkC_Back ?kpC_Back ?naF_Back_got ?naF_Back_leaves ?naF_Back_lines ?naF_Back_shapes ?mtM_Back_Back___init__ ?fnM_Back_Back___init__ ?lkS_Back_Back___init__ ?hcS_Back_Back___init__ ?coS_Back_Back___init__ ?vsSS_Back_Back___init__ ?flS_Back_Back___init__ ?ceS_Back_Back___init__ ?seS_Back_Back___init__ ?suS_Back_Back___init__ ?tgS_Back_Back___init__ ?giS_Back_Back___init__ ?zsS_Back_Back___init__ ?toS_Back_Back___init__ ?opS_Back_Back___init__ ?mtM_Back_Back_give ?fnM_Back_Back_give ?mtM_Back_Back_go_back ?fnM_Back_Back_go_back ?mtM_Back_Back_first_part ?fnM_Back_Back_first_part ?mtM_Back_Back_second_part ?fnM_Back_Back_second_part ?mtM_Back_Lines_line ?fnM_Back_Lines_line ?gfM_Back_Lines_line ?tkM_Back_Lines_line ?fiM_Back_Lines_line ?a0 ?l0 ?c0 ?k0 ?a1 ?l1 ?c1 ?k1 ?a2 ?l2 ?c2 ?k2 ?a3 ?l3 ?c3 ?k3 ?a4 ?l4 ?c4 ?k4 ?a5 ?l5 ?c5 ?k5 ?a6 ?l6 ?c6 ?k6 ?a7 ?l7 ?c7 ?k7 ?a8 ?l8 ?c8 ?k8 ?a9 ?l9 ?c9 ?k9 ?a10 ?l10 ?c10 ?k10 ?a11 ?l11 ?c11 ?k11 ?a12 ?l12 ?c12 ?k12 ?a13 ?l13 ?c13 ?k13 ?a14 ?l14 ?c14 ?k14 ?a15 ?l15 ?c15 ?k15 ?l17 ?c17 ?k17 ?l18 ?c18 ?k18 ?l19 ?c19 ?k19 ?l20 ?c20 ?k20 ?l21 ?c21 ?k21 ?l22 ?c22 ?k22 ?z_abs ?z_bool ?z_enumerate ?z_int ?z_isinstance ?z_len ?z_list ?z_min ?z_range ?z_str ?z_tuple
    (case aC_Back => k_is)
    (case pgC_Back => k_is)
    (case hdC_Back => k_is)
    (case poC_Back => k_is)
    (case saC_Back => k_is)
    (case mkC_Back => k_is)
    (case kpC_Back => k_is)
    (case naF_Back_got => k_is)
    (case naF_Back_leaves => k_is)
    (case naF_Back_lines => k_is)
    (case naF_Back_shapes => k_is)
    (case mtM_Back_Back___init__ => k_is)
    (case fnM_Back_Back___init__ => k_is)
    (case lkS_Back_Back___init__ => k_is)
    (case hcS_Back_Back___init__ => k_is)
    (case coS_Back_Back___init__ => k_is)
    (case vsSS_Back_Back___init__ => rfl)
    (case flS_Back_Back___init__ => decide +kernel)
    (case ceS_Back_Back___init__ => k_is)
    (case seS_Back_Back___init__ => k_is)
    (case suS_Back_Back___init__ => ks_is)
    (case tgS_Back_Back___init__ => k_is)
    (case giS_Back_Back___init__ => k_is)
    (case zsS_Back_Back___init__ => k_is)
    (case toS_Back_Back___init__ => decide +kernel)
    (case opS_Back_Back___init__ => k_is)
    (case mtM_Back_Back_give => k_is)
    (case fnM_Back_Back_give => k_is)
    (case mtM_Back_Back_go_back => k_is)
    (case fnM_Back_Back_go_back => k_is)
    (case mtM_Back_Back_first_part => k_is)
    (case fnM_Back_Back_first_part => k_is)
    (case mtM_Back_Back_second_part => k_is)
    (case fnM_Back_Back_second_part => k_is)
    (case mtM_Back_Lines_line => k_is)
    (case fnM_Back_Lines_line => k_is)
    (case gfM_Back_Lines_line => k_is)
    (case tkM_Back_Lines_line => k_is)
    (case fiM_Back_Lines_line => k_is)
    (case a0 => k_is)
    (case l0 => k_is)
    (case c0 => k_is)
    (case k0 => k_is)
    (case a1 => k_is)
    (case l1 => k_is)
    (case c1 => k_is)
    (case k1 => k_is)
    (case a2 => k_is)
    (case l2 => k_is)
    (case c2 => k_is)
    (case k2 => k_is)
    (case a3 => k_is)
    (case l3 => k_is)
    (case c3 => k_is)
    (case k3 => k_is)
    (case a4 => k_is)
    (case l4 => k_is)
    (case c4 => k_is)
    (case k4 => k_is)
    (case a5 => k_is)
    (case l5 => k_is)
    (case c5 => k_is)
    (case k5 => k_is)
    (case a6 => k_is)
    (case l6 => k_is)
    (case c6 => k_is)
    (case k6 => k_is)
    (case a7 => k_is)
    (case l7 => k_is)
    (case c7 => k_is)
    (case k7 => k_is)
    (case a8 => k_is)
    (case l8 => k_is)
    (case c8 => k_is)
    (case k8 => k_is)
    (case a9 => k_is)
    (case l9 => k_is)
    (case c9 => k_is)
    (case k9 => k_is)
    (case a10 => k_is)
    (case l10 => k_is)
    (case c10 => k_is)
    (case k10 => k_is)
    (case a11 => k_is)
    (case l11 => k_is)
    (case c11 => k_is)
    (case k11 => k_is)
    (case a12 => k_is)
    (case l12 => k_is)
    (case c12 => k_is)
    (case k12 => k_is)
    (case a13 => k_is)
    (case l13 => k_is)
    (case c13 => k_is)
    (case k13 => k_is)
    (case a14 => k_is)
    (case l14 => k_is)
    (case c14 => k_is)
    (case k14 => k_is)
    (case a15 => k_is)
    (case l15 => k_is)
    (case c15 => k_is)
    (case k15 => k_is)
    (case l17 => k_is)
    (case c17 => k_is)
    (case k17 => k_is)
    (case l18 => k_is)
    (case c18 => k_is)
    (case k18 => k_is)
    (case l19 => k_is)
    (case c19 => k_is)
    (case k19 => k_is)
    (case l20 => k_is)
    (case c20 => k_is)
    (case k20 => k_is)
    (case l21 => k_is)
    (case c21 => k_is)
    (case k21 => k_is)
    (case l22 => k_is)
    (case c22 => k_is)
    (case k22 => k_is)
    (case z_abs => k_is)
    (case z_bool => k_is)
    (case z_enumerate => k_is)
    (case z_int => k_is)
    (case z_isinstance => k_is)
    (case z_len => k_is)
    (case z_list => k_is)
    (case z_min => k_is)
    (case z_range => k_is)
    (case z_str => k_is)
    (case z_tuple => k_is)
