/- EditBack: for every scene and node, the law EditBack returns true, and what it was given reads as before. Part 2 of 6. -/
import Derived.Test.YtocechkkeadgkaaGreatT00
import Derived.IntWalk
import Derived.Orders
import Derived.Test.YtocechkkeadgkaaGreatProg
set_option linter.unusedVariables false
set_option linter.unusedSimpArgs false
namespace Go.Pv
open Go

/-- The state of a function under way: its temporaries, the store, where new keys come from. -/
structure PS where
  env : Env
  st : St
  act : Key
  n : Nat

/-- Which keys are free. -/
structure Fresh (U : Key → Prop) (root act : Key) (n : Nat) : Prop where
  here : ∀ m, n ≤ m → ∀ l, ¬ U (l ++ m :: act)
  up : ∀ pre x rest, act = pre ++ x :: rest → root <:+ rest → ∀ m, x < m → ∀ l, ¬ U (l ++ m :: rest)
  root : root <:+ act

theorem Fresh.grow {U U' : Key → Prop} {root act : Key} {n : Nat} (h : Fresh U root act n) (hu : ∀ k, U' k → U k ∨ (n :: act) <:+ k) : Fresh U' root act (n + 1) := by
  refine ⟨fun m hm l hk => ?_, fun pre x rest he hr m hm l hk => ?_, h.root⟩
  · rcases hu _ hk with hk | ⟨t, ht⟩
    · exact h.here m (by omega) l hk
    · have := List.append_inj_right' (s₁ := t) (s₂ := l) (t₁ := n :: act) (t₂ := m :: act) ht (by simp)
      simp at this
      omega
  · rcases hu _ hk with hk | ⟨t, ht⟩
    · exact h.up pre x rest he hr m hm l hk
    · rw [he] at ht
      have : t ++ (n :: pre) ++ x :: rest = l ++ m :: rest := by simpa using ht
      have := List.append_inj_right' this (by simp)
      simp at this
      omega

theorem Fresh.mono {U U' : Key → Prop} {root act : Key} {n : Nat} (h : Fresh U root act n) (hu : ∀ k, U' k → U k) : Fresh U' root act n :=
  ⟨fun m hm l hk => h.here m hm l (hu _ hk), fun pre x rest he hr m hm l hk => h.up pre x rest he hr m hm l (hu _ hk), h.root⟩

theorem Fresh.le {U : Key → Prop} {root act : Key} {n n' : Nat} (h : Fresh U root act n) (hn : n ≤ n') : Fresh U root act n' :=
  ⟨fun m hm l hk => h.here m (by omega) l hk, h.up, h.root⟩

/-- Function f can be entered. -/
def enters (P : Program) (f : FuncId) : Bool :=
  match P.funcs[f]? with
  | some fn => fn.name != "runtime.NumGoroutine" && fn.body.isSome
  | none => false

theorem run_callFunc {P : Program} {f : FuncId} (h : enters P f = true) (args : Array Value) (w : World) : (callFunc f args).run P w = .ok (.enter f args) w := by
  unfold enters at h
  split at h
  · rename_i fn hf
    simp only [Bool.and_eq_true, bne_iff_ne, ne_eq] at h
    obtain ⟨h1, h2⟩ := h
    have h3 : fn.body.isNone = false := by cases hb : fn.body <;> simp_all
    have h4 : (fn.name == "runtime.NumGoroutine") = false := by simpa using h1
    have h5 : ¬ (fn.body = none) := by cases hb : fn.body <;> simp_all
    simp [callFunc, hf]
    rw [if_neg h1, if_neg h5]
  · cases h

/-- The arguments, one by one. -/
def LRel (w : World) (K : KMap) (U : Key → Prop) (F : Nat → Prop) (ps : List PV) (vs : Array Value) : Prop :=
  ps.length = vs.size ∧ ∀ i, (hi : i < ps.length) → Rel w K U F ps[i] (vs.getD i undef)

/-- What is left behind a call that was made over S, a part of the store T, and did 'ups'. -/
structure Done (w : World) (K : KMap) (U : Key → Prop) (F : Nat → Prop) (A : Key) (S T : St) (v : PV) (ups : Ups) (u : Value) (w' : World) (K' : KMap) (U' : Key → Prop) (T' : St) : Prop where
  after : After w K U F A v T' u w' K' U'
  sub : Sub (St.apply S ups) T'
  frame : ∀ k ob, St.find T k = some ob → St.find S k = none → St.find T' k = some ob

/-- Called with the arguments ps over the store S, f comes back with v, and does 'ups' to the store; whatever else there is stays. -/
def Runs (P : Program) (A : Key) (f : FuncId) (ps : List PV) (S : St) (v : PV) (ups : Ups) : Prop :=
  enters P f = true ∧ (∀ x ∈ ups, A <:+ x.1 ∨ ∃ ob, St.find S x.1 = some ob) ∧ ∀ (w : World) (K : KMap) (U : Key → Prop) (F : Nat → Prop) (T : St) (vs : Array Value), Sim w K U F T → Sub S T → LRel w K U F ps vs → (∀ l, ¬ U (l ++ A)) →
    Calls P f vs w fun e w' => ∃ u K' U' T', e = .returned u ∧ Done w K U F A S T v ups u w' K' U' T'

/-- Is the guard met? -/
def pguard (ops : List Oper) (env : Env) (o : Oper) : Option Bool :=
  match o.guard with
  | none => some true
  | some (j, want) =>
    match (ops[j]?).bind (·.dst) with
    | some d => if d < env.length then (match env.getD d .undef with
      | .bool b => some (b == want)
      | .tup [] => some false
      | _ => none) else none
    | none => some false

def pput' (env : Env) (dst : Option Tmp) (v : PV) : Env :=
  match dst with
  | some d => env.set d v
  | none => env

/-- The function that an operation calls, and its arguments. -/
def pcall (env : Env) : Op → Option (FuncId × List PV)
  | .call c => match c.callee with
    | .value f => match ev env f with
      | .func (.func g) first captured => some (g, first ++ (c.args.toList.map (ev env)) ++ captured)
      | _ => none
    | _ => none
  | _ => none

/-- A region's operations, in the order of the text. -/
def pops (P : Program) (ops : List Oper) (act : Key) (n : Nat) (Q : Env → St → Prop) : List Oper → Nat → Env → St → Prop
  | [], _, env, S => Q env S
  | o :: r, i, env, S =>
    match pguard ops env o with
    | none => False
    | some false => pops P ops act n Q r (i + 1) (pput' env o.dst .undef) S
    | some true =>
      match pcall env o.op with
      | some (f, args) => ∃ S0 v ups, Sub S0 S ∧ Runs P ((n + i) :: act) f args S0 v ups ∧ pops P ops act n Q r (i + 1) (pput' env o.dst v) (S.apply ups)
      | none =>
        match pstep P ((n + i) :: act) S env o.op with
        | some (v, ups) => pops P ops act n Q r (i + 1) (pput' env o.dst v) (S.apply ups)
        | none => False

section
variable {P : Program} {w : World} {K : KMap} {U : Key → Prop} {F : Nat → Prop} {S : St}

theorem erel_put {env : Env} {a : Act} {v : PV} {u : Value} (h : ERel w K U F env a.tmps) (hv : Rel w K U F v u) (dst : Option Tmp) : ERel w K U F (pput' env dst v) (a.put dst u).tmps := by
  cases dst with
  | none => exact h
  | some d =>
    refine ⟨by simp [pput', Act.put, h.1], fun t => ?_⟩
    simp only [pput', Act.put, List.getD_eq_getElem?_getD, Array.getD_eq_getD_getElem?, List.getElem?_set, Array.getElem?_setIfInBounds]
    have ht := h.2 t
    simp only [List.getD_eq_getElem?_getD, Array.getD_eq_getD_getElem?] at ht
    by_cases e : d = t
    · subst e
      by_cases hd : d < env.length
      · rw [if_pos rfl, if_pos hd, if_pos rfl, if_pos (by rw [← h.1]; exact hd)]
        exact hv
      · rw [if_pos rfl, if_neg hd, if_pos rfl, if_neg (by rw [← h.1]; exact hd)]
        exact rel_undef
    · rw [if_neg e, if_neg e]
      exact ht

theorem ERel.mono {w' : World} {K' : KMap} {U' : Key → Prop} {env : Env} {tmps : Array Value} (s : Step w K U F w' K' U' F) (h : ERel w K U F env tmps) : ERel w' K' U' F env tmps :=
  ⟨h.1, fun t => (h.2 t).mono s⟩

theorem pguard_wanted {ops : Array Oper} {env : Env} {a : Act} {o : Oper} {b : Bool} (he : ERel w K U F env a.tmps) (h : pguard ops.toList env o = some b) : Region.wanted o (yielded ops a.tmps) = b := by
  unfold pguard at h
  unfold Region.wanted
  cases hg : o.guard with
  | none => rw [hg] at h; simpa using h
  | some jw =>
    obtain ⟨j, want⟩ := jw
    rw [hg] at h
    simp only at h ⊢
    simp only [Array.getElem?_toList] at h
    unfold yielded
    cases hd : (ops[j]?).bind (·.dst) with
    | none => rw [hd] at h; simp at h; subst h; simp
    | some d =>
      rw [hd] at h
      simp only at h
      split at h
      · rename_i hlt
        have hr := he.2 d
        have hlt' : d < a.tmps.size := by rw [← he.1]; exact hlt
        have hget : a.tmps.getD d undef = a.tmps[d] := by simp [Array.getD, hlt']
        rw [hget] at hr
        simp only [Option.bind_some, Array.getElem?_eq_getElem hlt']
        split at h
        · rename_i b' hb
          rw [hb] at hr
          rw [rel_bool hr]
          simp only [Option.some.injEq] at h
          rw [← h]
          cases b' <;> cases want <;> rfl
        · rename_i hb
          rw [hb] at hr
          simp only [Option.some.injEq] at h
          subst h
          generalize a.tmps[d] = x at hr
          cases hr
          rfl
        · cases h
      · cases h

theorem After.trans_used {A : Key} {v : PV} {S' : St} {u : Value} {w' : World} {K' : KMap} {U' : Key → Prop} (h : After w K U F A v S' u w' K' U') : ∀ k, U k → U' k := h.step.used


theorem erel_args {env : Env} {a : Act} (he : ERel w K U F env a.tmps) (xs : Array Operand) : LRel w K U F (xs.toList.map (ev env)) (xs.map a.eval) := by
  refine ⟨by simp, fun i hi => ?_⟩
  have hi' : i < xs.size := by simpa using hi
  have := rel_ev he xs[i]
  simpa [Array.getD_eq_getD_getElem?, hi'] using this

theorem LRel.append {ps qs : List PV} {vs us : Array Value} (h : LRel w K U F ps vs) (k : LRel w K U F qs us) : LRel w K U F (ps ++ qs) (vs ++ us) := by
  refine ⟨by simp [h.1, k.1], fun i hi => ?_⟩
  by_cases hlt : i < ps.length
  · have e1 : (ps ++ qs)[i] = ps[i] := List.getElem_append_left hlt
    have e2 : (vs ++ us).getD i undef = vs.getD i undef := by
      have : i < vs.size := by rw [← h.1]; exact hlt
      simp [Array.getD_eq_getD_getElem?, Array.getElem?_append, this]
    rw [e1, e2]
    exact h.2 i hlt
  · have hi2 : i - ps.length < qs.length := by simp at hi; omega
    have e1 : (ps ++ qs)[i] = qs[i - ps.length] := List.getElem_append_right (by omega)
    have e2 : (vs ++ us).getD i undef = us.getD (i - ps.length) undef := by
      have : ¬ i < vs.size := by rw [← h.1]; exact hlt
      simp [Array.getD_eq_getD_getElem?, Array.getElem?_append, this, h.1]
    rw [e1, e2]
    exact k.2 _ hi2

theorem pcall_exec {env : Env} {a : Act} {o : Oper} {f : FuncId} {args : List PV} (he : ERel w K U F env a.tmps) (h : pcall env o.op = some (f, args)) (hent : enters P f = true) :
    ∃ vs, (execOp a.eval o).run P w = .ok (.enter f vs) w ∧ LRel w K U F args vs := by
  unfold pcall at h
  split at h
  · rename_i c hop
    split at h
    · rename_i x hc
      split at h
      · rename_i g first captured hx
        simp only [Option.some.injEq, Prod.mk.injEq] at h
        obtain ⟨rfl, rfl⟩ := h
        have hr := rel_ev he x
        rw [hx] at hr
        cases hv : a.eval x <;> rw [hv] at hr <;> cases hr
        rename_i fa ca h1 h2 h3 h4
        refine ⟨fa ++ c.args.map a.eval ++ ca, ?_, ?_⟩
        · have := run_callFunc hent (fa ++ c.args.map a.eval ++ ca) w
          simp only [execOp, hop, resolve, hc, hv, Deferred.ofValue, Sem.run_bind, Sem.run_pure, Result.andThen_ok, invoke]
          exact this
        · refine LRel.append (LRel.append ⟨?_, ?_⟩ (erel_args he c.args)) ⟨?_, ?_⟩ <;> assumption
      · cases h
    · cases h
  · cases h

/-- What is known on the way: T: the whole store; S: what is told of it. T0: the store when the function began, S0: what was told of it then. -/
structure Good (w0 : World) (K0 : KMap) (U0 : Key → Prop) (F : Nat → Prop) (S0 T0 : St) (root act : Key) (n : Nat) (env : Env) (S : St) (a : Act) (w : World) (K : KMap) (U : Key → Prop) (T : St) : Prop where
  sim : Sim w K U F T
  sub : Sub S T
  frame : ∀ k ob, St.find T0 k = some ob → St.find S0 k = none → St.find T k = some ob
  keys : ∀ k ob, St.find S k = some ob → (∃ ob', St.find S0 k = some ob') ∨ root <:+ k
  clear : ∀ k ob, St.find T0 k = some ob → ¬ root <:+ k
  env : ERel w K U F env a.tmps
  fresh : Fresh U root act n
  defers : a.defers = []
  fr : Fr w0 K0 w K
  step : Step w0 K0 U0 F w K U F
  root : ∀ k, U k → U0 k ∨ root <:+ k

theorem find_apply_some : ∀ (ups : Ups) (S : St) (k : Key) (ob : Ob), St.find (St.apply S ups) k = some ob → (∃ x ∈ ups, x.1 = k) ∨ St.find S k = some ob := by
  intro ups S k ob h
  by_cases hx : ∃ x ∈ ups, x.1 = k
  · exact .inl hx
  · right
    rw [find_apply_other ups S k (fun x hx' e => hx ⟨x, hx', e⟩)] at h
    exact h

theorem Good.next {w0 : World} {K0 : KMap} {U0 : Key → Prop} {S0 T0 : St} {root act : Key} {n : Nat} {env : Env} {a : Act} {v : PV} {T T' : St} {ups : Ups} {u : Value} {w' : World} {K' : KMap} {U' : Key → Prop}
    (g : Good w0 K0 U0 F S0 T0 root act n env S a w K U T) (h : After w K U F (n :: act) v T' u w' K' U') (dst : Option Tmp) (hsub : Sub (St.apply S ups) T')
    (hk : ∀ x ∈ ups, (n :: act) <:+ x.1 ∨ ∃ ob, St.find S x.1 = some ob) (hf : ∀ k ob, St.find T k = some ob → (∀ x ∈ ups, x.1 ≠ k) → St.find T' k = some ob) :
    Good w0 K0 U0 F S0 T0 root act (n + 1) (pput' env dst v) (St.apply S ups) (a.put dst u) w' K' U' T' where
  sim := h.sim
  sub := hsub
  frame := fun k ob h0 h1 => hf k ob (g.frame k ob h0 h1) fun x hx e => by
    subst e
    rcases hk x hx with hs | ⟨ob', hs⟩
    · exact g.clear _ _ h0 (g.fresh.root.trans ((List.suffix_cons n act).trans hs))
    · rcases g.keys _ _ hs with ⟨ob2, h2⟩ | h2
      · rw [h1] at h2; cases h2
      · exact g.clear _ _ h0 h2
  keys := fun k ob hkk => by
    rcases find_apply_some _ _ _ _ hkk with ⟨x, hx, rfl⟩ | h1
    · rcases hk x hx with hs | ⟨ob', hs⟩
      · exact .inr (g.fresh.root.trans ((List.suffix_cons n act).trans hs))
      · exact g.keys _ _ hs
    · exact g.keys _ _ h1
  clear := g.clear
  env := erel_put (g.env.mono h.step) h.rel dst
  fresh := g.fresh.grow h.used
  defers := by cases dst <;> exact g.defers
  fr := g.fr.trans h.fr
  step := g.step.trans h.step
  root := fun k hk => by
    rcases h.used k hk with hk | hk
    · exact g.root k hk
    · exact .inr (g.fresh.root.trans ((List.suffix_cons n act).trans hk))

theorem pops_sound {ops : Array Oper} {root act : Key} {n : Nat} {Q : Exit → Act → World → Prop} {w0 : World} {K0 : KMap} {U0 : Key → Prop} {S0 T0 : St} :
    ∀ (r : List Oper) (i : Nat) (env : Env) (S : St) (a : Act) (w : World) (K : KMap) (U : Key → Prop) (T : St) (R : Env → St → Prop), i ≤ ops.size → ops.toList.drop i = r → pops P ops.toList act n R r i env S → Good w0 K0 U0 F S0 T0 root act (n + i) env S a w K U T →
      (∀ env' S' a' w' K' U' T', R env' S' → Good w0 K0 U0 F S0 T0 root act (n + ops.size) env' S' a' w' K' U' T' → Q .normal a' w') → wpOps P ops Q (List.range' i r.length) a w
  | [], i, env, S, a, w, K, U, T, R, hle, hr, h, g, hQ => by
    have hi : ops.size ≤ i := by
      have := congrArg List.length hr
      simp at this
      omega
    simp only [List.length_nil, List.range'_zero, wpOps]
    obtain rfl : i = ops.size := by omega
    exact hQ env S a w K U T h g
  | o :: r, i, env, S, a, w, K, U, T, R, hle, hr, h, g, hQ => by
    have hi : i < ops.size := by
      have := congrArg List.length hr
      simp at this
      omega
    have ho : ops[i]? = some o := by
      have : (ops.toList.drop i)[0]? = some o := by rw [hr]; rfl
      simpa using this
    have hr' : ops.toList.drop (i + 1) = r := by
      have := congrArg List.tail hr
      simpa using this
    simp only [List.length_cons, List.range'_succ, wpOps, ho]
    simp only [pops] at h
    split at h
    · exact h.elim
    · rename_i hgd
      rw [pguard_wanted g.env hgd]
      simp only [Bool.false_eq_true, if_false]
      have h0 : After w K U F ((n + i) :: act) .undef T undef w K U := After.refl g.sim rel_undef
      exact pops_sound r (i + 1) _ S _ w K U T R hi hr' h (g.next (ups := []) h0 o.dst g.sub (fun x hx => by cases hx) (fun k ob h _ => h)) hQ
    · rename_i hgd
      rw [pguard_wanted g.env hgd]
      simp only [if_true]
      left
      split at h
      · rename_i f args hcall
        obtain ⟨S1, v, ups, hsub, hruns, hrest⟩ := h
        obtain ⟨vs, h1, h2⟩ := pcall_exec g.env hcall hruns.1
        unfold Oper.wp
        rw [h1, Oper.upon_enter]
        refine (hruns.2.2 w K U F T vs g.sim (fun k ob hk => g.sub k ob (hsub k ob hk)) h2 (fun l => g.fresh.here (n + i) (Nat.le_refl _) l)).mono fun e w' hh => ?_
        obtain ⟨u, K', U', T', rfl, hD⟩ := hh
        have hkeys : ∀ x ∈ ups, ((n + i) :: act) <:+ x.1 ∨ ∃ ob, St.find S x.1 = some ob := fun x hx => (hruns.2.1 x hx).imp id fun ⟨ob, hb⟩ => ⟨ob, hsub _ _ hb⟩
        have hother : ∀ k ob, St.find T k = some ob → (∀ x ∈ ups, x.1 ≠ k) → St.find T' k = some ob := by
          intro k ob hk hx
          cases hs1 : St.find S1 k with
          | none => exact hD.frame k ob hk hs1
          | some ob1 =>
            have e1 : St.find (St.apply S1 ups) k = some ob1 := by rw [find_apply_other ups S1 k hx]; exact hs1
            have e2 := hD.sub k ob1 e1
            have e3 := g.sub k ob1 (hsub k ob1 hs1)
            rw [hk] at e3
            cases e3
            exact e2
        refine pops_sound r (i + 1) _ _ _ w' K' U' T' R hi hr' hrest (g.next hD.after o.dst (fun k ob hk => ?_) hkeys hother) hQ
        by_cases hx : ∃ x ∈ ups, x.1 = k
        · -- touched: as over S1
          have : St.find (St.apply S1 ups) k = St.find (St.apply S ups) k := by
            clear hk hother hkeys hrest hD hruns
            have key : ∀ (ups : Ups) (A B : St), (∃ x ∈ ups, x.1 = k) → St.find (St.apply A ups) k = St.find (St.apply B ups) k := by
              intro ups
              induction ups with
              | nil => rintro A B ⟨x, hx, _⟩; cases hx
              | cons y r ih =>
                obtain ⟨k', o⟩ := y
                rintro A B ⟨x, hx, e⟩
                by_cases hr : ∃ x ∈ r, x.1 = k
                · cases o <;> exact ih _ _ hr
                · have hr' : ∀ x ∈ r, x.1 ≠ k := fun x hx e => hr ⟨x, hx, e⟩
                  rcases List.mem_cons.1 hx with rfl | hx
                  · simp only at e
                    subst e
                    cases o with
                    | some o => rw [St.apply, St.apply, find_apply_other r _ _ hr', find_apply_other r _ _ hr', St.find_set, St.find_set, if_pos rfl, if_pos rfl]
                    | none => rw [St.apply, St.apply, find_apply_other r _ _ hr', find_apply_other r _ _ hr', St.find_del, St.find_del, if_pos rfl, if_pos rfl]
                  · exact absurd e (hr' x hx)
            exact key ups S1 S hx
          exact hD.sub k ob (this.trans hk)
        · have hx' : ∀ x ∈ ups, x.1 ≠ k := fun x hx' e => hx ⟨x, hx', e⟩
          rw [find_apply_other ups S k hx'] at hk
          exact hother k ob (g.sub k ob hk) hx'
      · split at h
        · rename_i v ups hst
          have hA : ¬ U ((n + i) :: act) := fun hk => g.fresh.here (n + i) (Nat.le_refl _) [] hk
          obtain ⟨u, w', K', U', h1, h2⟩ := pstep_sound g.sim g.env hA (pstep_sub g.sub hst)
          refine opRun_wp h1 (pops_sound r (i + 1) _ _ _ w' K' U' _ R hi hr' h (g.next h2 o.dst (g.sub.apply ups) (fun x hx => (pstep_keys hst x hx).imp (fun (e : x.1 = _) => by rw [e]; exact List.suffix_refl _) id) (fun k ob hk hx => ?_)) hQ)
          rw [find_apply_other ups T k hx]
          exact hk
        · exact h.elim

end
end Go.Pv

set_option linter.unusedVariables false
set_option linter.unusedSimpArgs false
namespace Go.Pv
open Go

/-- The machine goes on to a state that is told by Q. -/
def Ends (P : Program) (F : Nat → Prop) (S0 T0 : St) (root : Key) (w0 : World) (K0 : KMap) (U0 : Key → Prop) (Q : Exit → PS → Prop) : Exit → Act → World → Prop :=
  fun e a w => ∃ s K U T, Q e s ∧ Good w0 K0 U0 F S0 T0 root s.act s.n s.env s.st a w K U T

/-- Abstract weakest precondition. -/
def Pwp (P : Program) (root : Key) (c : Code) (Q : Exit → PS → Prop) (s : PS) : Prop :=
  ∀ (w0 : World) (K0 : KMap) (U0 : Key → Prop) (F : Nat → Prop) (S0 T0 : St) (a : Act) (w : World) (K : KMap) (U : Key → Prop) (T : St),
    Good w0 K0 U0 F S0 T0 root s.act s.n s.env s.st a w K U T → c.wp P (Ends P F S0 T0 root w0 K0 U0 Q) a w

section
variable {P : Program} {root : Key} {Q Q' : Exit → PS → Prop} {s : PS}

theorem Pwp.mono {c : Code} (h : Pwp P root c Q s) (hq : ∀ e s, Q e s → Q' e s) : Pwp P root c Q' s :=
  fun w0 K0 U0 F S0 T0 a w K U T g => wp_mono (h w0 K0 U0 F S0 T0 a w K U T g) fun _ _ _ ⟨s', K', U', T', q, g'⟩ => ⟨s', K', U', T', hq _ _ q, g'⟩

theorem Pwp.skip (h : Q .normal s) : Pwp P root .skip Q s :=
  fun w0 K0 U0 F S0 T0 a w K U T g => wp_skip ⟨s, K, U, T, h, g⟩

theorem Pwp.exit {id : Nat} (h : Q (.exit id) s) : Pwp P root (.exit id) Q s :=
  fun w0 K0 U0 F S0 T0 a w K U T g => wp_exit ⟨s, K, U, T, h, g⟩

theorem Pwp.ret (h : Q .ret s) : Pwp P root .ret Q s :=
  fun w0 K0 U0 F S0 T0 a w K U T g => wp_ret ⟨s, K, U, T, h, g⟩

/-- What is asked of x, where y follows. -/
def thenP (P : Program) (root : Key) (y : Code) (Q : Exit → PS → Prop) : Exit → PS → Prop
  | .normal, s => Pwp P root y Q s
  | e, s => Q e s

theorem Pwp.seq {x y : Code} (h : Pwp P root x (thenP P root y Q) s) : Pwp P root (.seq x y) Q s := by
  intro w0 K0 U0 F S0 T0 a w K U T g
  refine wp_seq (wp_mono (h w0 K0 U0 F S0 T0 a w K U T g) fun e a' w' ⟨s', K', U', T', q, g'⟩ => ?_)
  cases e with
  | normal => exact q w0 K0 U0 F S0 T0 a' w' K' U' T' g'
  | _ => exact ⟨s', K', U', T', q, g'⟩

theorem Pwp.cond {c : Operand} {x y : Code} {t : Bool} (hc : ev s.env c = .bool t) (h : Pwp P root (if t then x else y) Q s) : Pwp P root (.cond c x y) Q s := by
  intro w0 K0 U0 F S0 T0 a w K U T g
  have hr := rel_ev g.env c
  rw [hc] at hr
  exact wp_cond (rel_bool hr) (h w0 K0 U0 F S0 T0 a w K U T g)

def blockP (id : Nat) (Q : Exit → PS → Prop) : Exit → PS → Prop
  | .exit id', s => if id' = id then Q .normal s else Q (.exit id') s
  | e, s => Q e s

theorem Pwp.block {id : Nat} {c : Code} (h : Pwp P root c (blockP id Q) s) : Pwp P root (.block id c) Q s := by
  intro w0 K0 U0 F S0 T0 a w K U T g
  refine wp_block (wp_mono (h w0 K0 U0 F S0 T0 a w K U T g) fun e a' w' ⟨s', K', U', T', q, g'⟩ => ?_)
  cases e with
  | exit id' =>
    simp only [blockP] at q
    simp only [Exit.inBlock]
    split at q
    · rename_i e; rw [if_pos e]; exact ⟨s', K', U', T', q, g'⟩
    · rename_i e; rw [if_neg e]; exact ⟨s', K', U', T', q, g'⟩
  | _ => exact ⟨s', K', U', T', q, g'⟩

theorem Pwp.region {id : Nat} {ops : Array Oper} (h : pops P ops.toList s.act s.n (fun env st => Q .normal { env, st, act := s.act, n := s.n + ops.size }) ops.toList 0 s.env s.st) :
    Pwp P root (.region id ops false) Q s := by
  intro w0 K0 U0 F S0 T0 a w K U T g
  refine wp_region ?_
  have := pops_sound (P := P) (F := F) (ops := ops) (root := root) (act := s.act) (n := s.n) (Q := Ends P F S0 T0 root w0 K0 U0 Q) (w0 := w0) (K0 := K0) (U0 := U0) (S0 := S0) (T0 := T0) ops.toList 0 s.env s.st a w K U T _ (Nat.zero_le _) rfl h g
    (fun env' S' a' w' K' U' T' hR g' => ⟨_, K', U', T', hR, g'⟩)
  rw [List.range_eq_range']
  simpa using this

/-- s may be told as s'. -/
def PLe (root : Key) (s s' : PS) : Prop :=
  ∀ (w0 : World) (K0 : KMap) (U0 : Key → Prop) (F : Nat → Prop) (S0 T0 : St) (a : Act) (w : World) (K : KMap) (U : Key → Prop) (T : St),
    Good w0 K0 U0 F S0 T0 root s.act s.n s.env s.st a w K U T → ∃ K' U' T', Good w0 K0 U0 F S0 T0 root s'.act s'.n s'.env s'.st a w K' U' T'

theorem PLe.refl : PLe root s s := fun _ _ _ _ _ _ _ _ K U T g => ⟨K, U, T, g⟩

theorem PLe.trans {s1 s2 s3 : PS} (h : PLe root s1 s2) (k : PLe root s2 s3) : PLe root s1 s3 := fun w0 K0 U0 F S0 T0 a w K U T g =>
  let ⟨K', U', T', g'⟩ := h w0 K0 U0 F S0 T0 a w K U T g
  k w0 K0 U0 F S0 T0 a w K' U' T' g'

theorem Pwp.weaken {c : Code} {s' : PS} (hle : PLe root s s') (h : Pwp P root c Q s') : Pwp P root c Q s :=
  fun w0 K0 U0 F S0 T0 a w K U T g =>
    let ⟨K', U', T', g'⟩ := hle w0 K0 U0 F S0 T0 a w K U T g
    h w0 K0 U0 F S0 T0 a w K' U' T' g'

/-- The round's end: a state that meets the invariant, with a lower measure. -/
def roundP (root : Key) (I : PS → Prop) (μ : PS → Nat) (m : Nat) (Q : Exit → PS → Prop) : Exit → PS → Prop
  | .normal, s => ∃ s', PLe root s s' ∧ I s' ∧ μ s' < m
  | e, s => Q e s

theorem Pwp.loop {c : Code} (I : PS → Prop) (μ : PS → Nat) (s0 : PS) (hle : PLe root s s0) (h0 : I s0) (round : ∀ s', I s' → Pwp P root c (roundP root I μ (μ s') Q) s') : Pwp P root (.loop c) Q s := by
  intro w0 K0 U0 F S0 T0 a w K U T g b k cs
  obtain ⟨K', U', T', g'⟩ := hle w0 K0 U0 F S0 T0 a w K U T g
  have key : ∀ n (s' : PS) a w K U T, μ s' = n → I s' → Good w0 K0 U0 F S0 T0 root s'.act s'.n s'.env s'.st a w K U T →
      ∃ e a' w', Ends P F S0 T0 root w0 K0 U0 Q e a' w' ∧ Arrives P (lone (b.at a (.code c :: .inLoop c :: k)) cs w) b k cs e a' w' := by
    intro n
    induction n using Nat.strongRecOn with
    | _ n ih =>
      intro s' a w K U T hn hI g
      obtain ⟨e, a₁, w₁, ⟨s1, K1, U1, T1, hq, g1⟩, harr⟩ := round s' hI w0 K0 U0 F S0 T0 a w K U T g b (.inLoop c :: k) cs
      cases e with
      | normal =>
        obtain ⟨s2, hle2, hI2, hlt⟩ := hq
        obtain ⟨K2, U2, T2, g2⟩ := hle2 w0 K0 U0 F S0 T0 a₁ w₁ K1 U1 T1 g1
        obtain ⟨e₂, a₂, w₂, hq₂, harr₂⟩ := ih (μ s2) (hn ▸ hlt) s2 a₁ w₁ K2 U2 T2 rfl hI2 g2
        exact ⟨e₂, a₂, w₂, hq₂, .of_steps (Steps.trans harr (.one step_inLoop)) harr₂⟩
      | exit id => exact ⟨_, a₁, w₁, ⟨s1, K1, U1, T1, hq, g1⟩, .pass (x := .inLoop c) rfl (fun _ _ => .inl (by simp)) harr⟩
      | goto l => exact ⟨_, a₁, w₁, ⟨s1, K1, U1, T1, hq, g1⟩, .pass (x := .inLoop c) rfl (fun _ _ => .inl (by simp)) harr⟩
      | ret => exact ⟨_, a₁, w₁, ⟨s1, K1, U1, T1, hq, g1⟩, .pass (x := .inLoop c) rfl (fun _ _ => .inl (by simp)) harr⟩
      | panic ch => exact ⟨_, a₁, w₁, ⟨s1, K1, U1, T1, hq, g1⟩, .pass (x := .inLoop c) rfl (fun _ _ => .inl (by simp)) harr⟩
      | outgrown => exact ⟨_, a₁, w₁, ⟨s1, K1, U1, T1, hq, g1⟩, .pass (x := .inLoop c) rfl (fun _ _ => .inl (by simp)) harr⟩
  obtain ⟨e, a', w', hq, harr⟩ := key _ s0 a w K' U' T' rfl h0 g'
  exact ⟨e, a', w', hq, .of_steps (.one step_loop) harr⟩

/-! ### A function's body -/

def presult1 (P : Program) (s : PS) : ResultVar → Option PV
  | .tmp t => some (s.env.getD t .undef)
  | .cell a t => match tyOf P t, pelem s.st (s.env.getD a .undef) with
    | some ty, some (e, off) => pload ty e off
    | _, _ => none

def presults (P : Program) (s : PS) : List ResultVar → Option (List PV)
  | [] => some []
  | r :: rs => match presult1 P s r, presults P s rs with
    | some v, some vs => some (v :: vs)
    | _, _ => none

/-- What a function hands back. -/
def presult (P : Program) (fn : Func) (s : PS) : Option PV :=
  match presults P s fn.results.toList with
  | some [v] => some v
  | some vs => some (.tup vs)
  | none => none

def resF (tmps : Array Value) : ResultVar → Sem Value
  | .tmp t => pure (tmps.getD t undef)
  | .cell a t => do loadVar t (← asAddr (tmps.getD a undef))

theorem results_eq (fn : Func) (tmps : Array Value) : results fn tmps = (do
    let vs ← fn.results.mapM (resF tmps)
    pure (if h : vs.size = 1 then vs[0] else .tuple vs)) := by
  unfold results
  congr 1

theorem presult1_sub {s : PS} {T : St} (h : Sub s.st T) (r : ResultVar) (v : PV) (hv : presult1 P s r = some v) : presult1 P { s with st := T } r = some v := by
  cases r with
  | tmp t => exact hv
  | cell a t =>
    simp only [presult1] at hv ⊢
    cases he : pelem s.st (s.env.getD a .undef) with
    | none => rw [he] at hv; split at hv <;> simp_all
    | some e => rw [he] at hv; rw [pelem_sub h he]; exact hv

theorem presults_sub {s : PS} {T : St} (h : Sub s.st T) : ∀ (rs : List ResultVar) (vs : List PV), presults P s rs = some vs → presults P { s with st := T } rs = some vs
  | [], vs, hv => hv
  | r :: rs, vs, hv => by
    simp only [presults] at hv ⊢
    split at hv
    · rename_i v vs' h1 h2
      rw [presult1_sub h r v h1, presults_sub h rs vs' h2]
      exact hv
    · cases hv

theorem run_results {w : World} {K : KMap} {U : Key → Prop} {F : Nat → Prop} {s : PS} {tmps : Array Value} (hs : Sim w K U F s.st) (he : ERel w K U F s.env tmps) :
    ∀ (rs : List ResultVar) (vs : List PV), presults P s rs = some vs → ∃ us : List Value, (rs.mapM (resF tmps)).run P w = .ok us w ∧ vs.length = us.length ∧ ∀ i, (hi : i < vs.length) → Rel w K U F vs[i] (us.getD i undef)
  | [], vs, h => by
    simp only [presults, Option.some.injEq] at h
    subst h
    exact ⟨[], rfl, rfl, fun i hi => by simp at hi⟩
  | r :: rs, vs, h => by
    simp only [presults] at h
    split at h
    · rename_i v vs' h1 h2
      simp only [Option.some.injEq] at h
      subst h
      obtain ⟨us, g1, g2, g3⟩ := run_results hs he rs vs' h2
      have one : ∃ u, (resF tmps r).run P w = .ok u w ∧ Rel w K U F v u := by
        cases r with
        | tmp t =>
          simp only [presult1, Option.some.injEq] at h1
          subst h1
          exact ⟨_, rfl, he.2 t⟩
        | cell a t =>
          simp only [presult1] at h1
          split at h1
          · rename_i ty e off hty hel
            obtain ⟨r, o, sz, i, es, hv, hrow, hi⟩ := pelem_row hs hel (he.2 a)
            obtain ⟨u, k1, k2⟩ := run_loadVar_of hty hrow hi h1
            exact ⟨u, by simp [resF, hv, asAddr, k1], k2⟩
          · cases h1
      obtain ⟨u, k1, k2⟩ := one
      refine ⟨u :: us, ?_, by simp [g2], fun i hi => ?_⟩
      · rw [List.mapM_cons]
        simp only [Sem.run_bind, k1, Result.andThen_ok, g1, Sem.run_pure]
      · cases i with
        | zero => exact k2
        | succ i => exact g3 i (by simpa using hi)
    · cases h

/-- A function's body does as is told. -/
theorem Runs.of_pwp {A : Key} {f : FuncId} {fn : Func} {c : Code} {ps : List PV} {S : St} {v : PV} {ups : Ups} (hent : enters P f = true) (hf : P.funcs[f]? = some fn) (hb : fn.body = some c)
    (hups : ∀ x ∈ ups, A <:+ x.1 ∨ ∃ ob, St.find S x.1 = some ob)
    (h : Pwp P A c (fun e s => match e with
      | .normal | .ret => ∃ s', PLe A s s' ∧ presult P fn s' = some v ∧ Sub (St.apply S ups) s'.st
      | _ => False) { env := ps ++ List.replicate (fn.ntmps - ps.length) .undef, st := S, act := A, n := 0 }) : Runs P A f ps S v ups := by
  refine ⟨hent, hups, fun w K U F T vs hs hsub hl hA => ?_⟩
  refine calls_of_wp hf hb ?_
  have hclear : ∀ k ob, St.find T k = some ob → ¬ A <:+ k := by
    rintro k ob hk ⟨t, rfl⟩
    obtain ⟨ro, hK⟩ := find_of_K hs hk
    exact hA t (hs.used _ _ hK)
  have g0 : Good w K U F S T A A 0 (ps ++ List.replicate (fn.ntmps - ps.length) .undef) S { tmps := vs ++ Array.replicate (fn.ntmps - vs.size) undef, defers := [] } w K U T := by
    refine ⟨hs, hsub, fun k ob h1 _ => h1, fun k ob h1 => .inl ⟨ob, h1⟩, hclear, ⟨by simp [hl.1], fun t => ?_⟩, ⟨fun m _ l hk => ?_, fun pre x rest he hr m hm l hk => ?_, List.suffix_refl _⟩, rfl, Fr.refl w K, (After.refl (A := A) hs rel_undef).step, fun k hk => .inl hk⟩
    · by_cases h1 : t < ps.length
      · have e1 : (ps ++ List.replicate (fn.ntmps - ps.length) PV.undef).getD t .undef = ps[t] := by
          simp [List.getD_eq_getElem?_getD, List.getElem?_append, h1]
        have e2 : (vs ++ Array.replicate (fn.ntmps - vs.size) undef).getD t undef = vs.getD t undef := by
          have : t < vs.size := by rw [← hl.1]; exact h1
          simp [Array.getD_eq_getD_getElem?, Array.getElem?_append, this]
        rw [e1, e2]
        exact hl.2 t h1
      · have e1 : (ps ++ List.replicate (fn.ntmps - ps.length) PV.undef).getD t .undef = .undef := by
          simp only [List.getD_eq_getElem?_getD, List.getElem?_append, if_neg h1, List.getElem?_replicate]
          split <;> rfl
        have e2 : (vs ++ Array.replicate (fn.ntmps - vs.size) undef).getD t undef = undef := by
          have : ¬ t < vs.size := by rw [← hl.1]; exact h1
          simp only [Array.getD_eq_getD_getElem?, Array.getElem?_append, if_neg this, Array.getElem?_replicate]
          split <;> rfl
        rw [e1, e2]
        exact rel_undef
    · exact hA (l ++ [m]) (by simpa using hk)
    · exfalso
      have h1 := congrArg List.length he
      have h2 := hr.length_le
      simp at h1
      omega
  refine wp_mono (h w K U F S T _ w K U T g0) fun e a' w' ⟨s', K', U', T', q, g'⟩ => ?_
  have fin : (∃ s2, PLe A s' s2 ∧ presult P fn s2 = some v ∧ Sub (St.apply S ups) s2.st) → a'.defers = [] ∧ ∃ x, (results fn a'.tmps).run P w' = .ok x w' ∧ ∃ u K' U' T', Ending.returned x = .returned u ∧ Done w K U F A S T v ups u w' K' U' T' := by
    rintro ⟨s2, hle, hres, hst⟩
    obtain ⟨K2, U2, T2, g2⟩ := hle w K U F S T a' w' K' U' T' g'
    refine ⟨g2.defers, ?_⟩
    have hr : ∃ x, (results fn a'.tmps).run P w' = .ok x w' ∧ Rel w' K2 U2 F v x := by
      unfold presult at hres
      cases hp : presults P s2 fn.results.toList with
      | none => rw [hp] at hres; cases hres
      | some vs =>
        obtain ⟨us, k1, k2, k3⟩ := run_results (s := { s2 with st := T2 }) g2.sim g2.env _ _ (presults_sub g2.sub _ _ hp)
        have hrun : (results fn a'.tmps).run P w' = .ok (if h : us.length = 1 then us[0] else .tuple us.toArray) w' := by
          rw [results_eq, Array.mapM_eq_mapM_toList]
          simp only [Sem.run_bind, Sem.run_map, k1, Result.andThen_ok, Sem.run_pure]
          congr 1
        rw [hp] at hres
        refine ⟨_, hrun, ?_⟩
        cases vs with
        | nil =>
          cases us with
          | nil =>
            simp only [Option.some.injEq] at hres
            subst hres
            exact .tup [] _ rfl (fun i hi => by simp at hi)
          | cons _ _ => simp at k2
        | cons v0 vs =>
          cases us with
          | nil => simp at k2
          | cons u0 us =>
            cases vs with
            | nil =>
              cases us with
              | nil =>
                simp only [Option.some.injEq] at hres
                subst hres
                exact k3 0 (by simp)
              | cons _ _ => simp at k2
            | cons v1 vs =>
              simp only [Option.some.injEq] at hres
              subst hres
              have k4 : us.length = vs.length + 1 := by simpa using k2.symm
              rw [dif_neg (by simp only [List.length_cons]; omega)]
              refine .tup _ _ (by simpa using k2) fun i hi => ?_
              have := k3 i hi
              simpa [Array.getD_eq_getD_getElem?] using this
    obtain ⟨x, h1, h2⟩ := hr
    exact ⟨x, h1, x, K2, U2, T2, rfl, ⟨⟨h2, g2.sim, g2.step, g2.fr, g2.root⟩, fun k ob hk => g2.sub k ob (hst k ob hk), g2.frame⟩⟩
  cases e with
  | normal => exact fin q
  | ret => exact fin q
  | _ => exact q.elim

end
end Go.Pv

set_option linter.unusedVariables false
set_option linter.unusedSimpArgs false
namespace Go.Pv
open Go

attribute [simp] isNilS pnil pwin pcopy pclear keyOk pentries plookup pupdate pops pcall pstep peff pput' ev PV.known PV.isAgg PV.one pval toPV sPV St.apply St.set St.del St.find PV.cells pelem pload plen pbin pArith pset pint plow phigh ppart pfill pput pelems pappend pguard pEqL pEqS

section
variable {P : Program} {root : Key} {Q Q' : Exit → PS → Prop} {s : PS}

/-- A region; what follows it is out of sight. -/
theorem Pwp.regionK {id : Nat} {ops : Array Oper} (h : ∀ K : PS → Prop, (∀ s, Q .normal s → K s) → pops P ops.toList s.act s.n (fun env st => K ⟨env, st, s.act, s.n + ops.size⟩) ops.toList 0 s.env s.st) :
    Pwp P root (.region id ops false) Q s :=
  .region (h _ fun _ h => h)

theorem Pwp.condT {c : Operand} {x y : Code} (hc : ev s.env c = .bool true) (h : Pwp P root x Q s) : Pwp P root (.cond c x y) Q s := .cond hc h
theorem Pwp.condF {c : Operand} {x y : Code} (hc : ev s.env c = .bool false) (h : Pwp P root y Q s) : Pwp P root (.cond c x y) Q s := .cond hc h

end
end Go.Pv

set_option linter.unusedVariables false
set_option linter.unusedSimpArgs false
namespace Go.Pv
open Go

/-- x is there, and f holds of it. -/
def ob (x : Option (PV × Ups)) (f : PV → Ups → Prop) : Prop := ∃ v ups, x = some (v, ups) ∧ f v ups

theorem ob_some (v : PV) (ups : Ups) (f : PV → Ups → Prop) : ob (some (v, ups)) f ↔ f v ups := by
  constructor
  · rintro ⟨v', u', h, k⟩; cases h; exact k
  · intro h; exact ⟨v, ups, rfl, h⟩

theorem ob_none (f : PV → Ups → Prop) : ob none f ↔ False := by
  constructor
  · rintro ⟨v', u', h, k⟩; cases h
  · intro h; exact h.elim

theorem ob_ite {c : Prop} [Decidable c] (x y : Option (PV × Ups)) (f : PV → Ups → Prop) : ob (if c then x else y) f ↔ (c → ob x f) ∧ (¬c → ob y f) := by
  by_cases h : c <;> simp [h]

theorem ob_congr {x x' : Option (PV × Ups)} {f : PV → Ups → Prop} (h : x = x') : ob x f = ob x' f := by rw [h]

/-- A call of f, and what follows. -/
def vcall (P : Program) (A : Key) (f : FuncId) (args : List PV) (S : St) (k : PV → St → Prop) : Prop :=
  ∃ S0 v ups, Sub S0 S ∧ Runs P A f args S0 v ups ∧ k v (S.apply ups)

theorem vcall_congr {P : Program} {A : Key} {f : FuncId} {args args' : List PV} {S S' : St} {k : PV → St → Prop} (h : args = args') (h2 : S = S') : vcall P A f args S k = vcall P A f args' S' k := by rw [h, h2]

theorem Sub.nil (S : St) : Sub [] S := fun _ _ h => by cases h

theorem vcall_pure {P : Program} {A : Key} {f : FuncId} {args : List PV} {S : St} {k : PV → St → Prop} {v : PV} (h : Runs P A f args [] v []) (hk : k v S) : vcall P A f args S k :=
  ⟨[], v, [], Sub.nil S, h, hk⟩

theorem vcall_new {P : Program} {A : Key} {f : FuncId} {args : List PV} {S S0 : St} {k : PV → St → Prop} {v : PV} {ups : Ups} (h : Runs P A f args S0 v ups) (hs : Sub S0 S) (hk : k v (S.apply ups)) : vcall P A f args S k :=
  ⟨S0, v, ups, hs, h, hk⟩

/-- Two ways. -/
def gsplit (b want : Bool) (yes no : Prop) : Prop := (b = want → yes) ∧ (b ≠ want → no)

theorem gsplit_same (b : Bool) (yes no : Prop) : gsplit b b yes no ↔ yes := by simp [gsplit]
theorem gsplit_tf (yes no : Prop) : gsplit true false yes no ↔ no := by simp [gsplit]
theorem gsplit_ft (yes no : Prop) : gsplit false true yes no ↔ no := by simp [gsplit]
theorem gsplit_congr {b b' want : Bool} {yes no : Prop} (h : b = b') : gsplit b want yes no = gsplit b' want yes no := by rw [h]
theorem gsplit_pT {p : Prop} [Decidable p] {yes no : Prop} (h1 : p → yes) (h2 : ¬p → no) : gsplit (decide p) true yes no := by
  by_cases h : p <;> simp_all [gsplit]
theorem gsplit_pF {p : Prop} [Decidable p] {yes no : Prop} (h1 : p → no) (h2 : ¬p → yes) : gsplit (decide p) false yes no := by
  by_cases h : p <;> simp_all [gsplit]
theorem gsplit_bT {b : Bool} {yes no : Prop} (h1 : b = true → yes) (h2 : b = false → no) : gsplit b true yes no := by
  cases b <;> simp_all [gsplit]
theorem gsplit_bF {b : Bool} {yes no : Prop} (h1 : b = true → no) (h2 : b = false → yes) : gsplit b false yes no := by
  cases b <;> simp_all [gsplit]

/-- An operation is carried out, or passed over. -/
def vguard (ops : List Oper) (env : Env) (o : Oper) (yes no : Prop) : Prop :=
  match o.guard with
  | none => yes
  | some (j, want) =>
    match (ops[j]?).bind (·.dst) with
    | some d => d < env.length ∧ (match env.getD d .undef with
      | .bool b => gsplit b want yes no
      | .tup [] => no
      | _ => False)
    | none => no

/-- A region's operations in the order of the text, as conditions. -/
def vops (P : Program) (ops : List Oper) (act : Key) (n : Nat) (Q : Env → St → Prop) : List Oper → Nat → Env → St → Prop
  | [], _, env, S => Q env S
  | o :: r, i, env, S =>
    vguard ops env o
      (match pcall env o.op with
      | some (f, args) => vcall P ((n + i) :: act) f args S fun v S' => vops P ops act n Q r (i + 1) (pput' env o.dst v) S'
      | none => ob (pstep P ((n + i) :: act) S env o.op) fun v ups => vops P ops act n Q r (i + 1) (pput' env o.dst v) (S.apply ups))
      (vops P ops act n Q r (i + 1) (pput' env o.dst .undef) S)

theorem vguard_pguard {ops : List Oper} {env : Env} {o : Oper} {yes no : Prop} (h : vguard ops env o yes no) : ∃ b, pguard ops env o = some b ∧ (if b then yes else no) := by
  unfold vguard at h
  unfold pguard
  split at h
  · rename_i hg
    simp only [hg]
    exact ⟨true, rfl, by simpa using h⟩
  · rename_i j want hg
    simp only [hg]
    split at h
    · rename_i d hd
      simp only [hd]
      obtain ⟨h1, h2⟩ := h
      rw [if_pos h1]
      split at h2
      · rename_i b hb
        simp only [hb]
        refine ⟨_, rfl, ?_⟩
        by_cases e : b = want
        · subst e; simpa using h2.1 rfl
        · have : (b == want) = false := by simpa using e
          rw [this]; simpa using h2.2 e
      · rename_i hb
        simp only [hb]
        exact ⟨_, rfl, by simpa using h2⟩
      · exact h2.elim
    · rename_i hd
      simp only [hd]
      exact ⟨false, rfl, by simpa using h⟩

theorem vops_pops {P : Program} {ops : List Oper} {act : Key} {n : Nat} {Q : Env → St → Prop} : ∀ (r : List Oper) (i : Nat) (env : Env) (S : St), vops P ops act n Q r i env S → pops P ops act n Q r i env S
  | [], _, _, _, h => h
  | o :: r, i, env, S, h => by
    simp only [vops] at h
    obtain ⟨b, hb, h⟩ := vguard_pguard h
    simp only [pops, hb]
    cases b with
    | false => exact vops_pops r _ _ _ (by simpa using h)
    | true =>
      simp only [if_true] at h
      simp only
      split at h
      · rename_i f args hc
        simp only [hc]
        obtain ⟨S0, v, ups, h1, h2, h3⟩ := h
        exact ⟨S0, v, ups, h1, h2, vops_pops r _ _ _ h3⟩
      · rename_i hc
        simp only [hc]
        obtain ⟨v, ups, h1, h2⟩ := h
        simp only [h1]
        exact vops_pops r _ _ _ h2

/-- Kept out of the simplifier's sight. -/
structure Hid (p : Prop) : Prop where
  of : p

section
variable {P : Program} {root : Key} {Q : Exit → PS → Prop} {s : PS}

theorem Pwp.reg {id : Nat} {ops : Array Oper} (h : ∀ K : PS → Prop, Hid (∀ s, Q .normal s → K s) → vops P ops.toList s.act s.n (fun env st => K ⟨env, st, s.act, s.n + ops.size⟩) ops.toList 0 s.env s.st) :
    Pwp P root (.region id ops false) Q s :=
  .regionK fun K hK => vops_pops _ _ _ _ (h K ⟨hK⟩)

theorem Hid.go {K : PS → Prop} (h : Hid (∀ s, Q .normal s → K s)) {s : PS} (hq : Q .normal s) : K s := h.of s hq

theorem Pwp.ite {c : Operand} {x y : Code} {t : Bool} (hc : ev s.env c = .bool t) (h1 : t = true → Pwp P root x Q s) (h2 : t = false → Pwp P root y Q s) : Pwp P root (.cond c x y) Q s := by
  refine .cond hc ?_
  cases t
  · exact h2 rfl
  · exact h1 rfl
end

section
variable {P : Program} {ops : List Oper} {act : Key} {n : Nat} {Q : Env → St → Prop} {o : Oper} {r : List Oper} {i : Nat} {env : Env} {S : St}

def obk (P : Program) (ops : List Oper) (act : Key) (n : Nat) (Q : Env → St → Prop) (dst : Option Tmp) (r : List Oper) (i : Nat) (env : Env) (S : St) (x : Option (PV × Ups)) : Prop :=
  ob x fun v ups => vops P ops act n Q r i (pput' env dst v) (S.apply ups)

def vcallk (P : Program) (ops : List Oper) (act : Key) (n : Nat) (Q : Env → St → Prop) (dst : Option Tmp) (r : List Oper) (i : Nat) (env : Env) (S : St) (A : Key) (f : FuncId) (args : List PV) : Prop :=
  vcall P A f args S fun v S' => vops P ops act n Q r i (pput' env dst v) S'

def vrun (P : Program) (ops : List Oper) (act : Key) (n : Nat) (Q : Env → St → Prop) (o : Oper) (r : List Oper) (i : Nat) (env : Env) (S : St) : Prop :=
  match pcall env o.op with
  | some (f, args) => vcallk P ops act n Q o.dst r (i + 1) env S ((n + i) :: act) f args
  | none => obk P ops act n Q o.dst r (i + 1) env S (pstep P ((n + i) :: act) S env o.op)

def vsel (P : Program) (ops : List Oper) (act : Key) (n : Nat) (Q : Env → St → Prop) (o : Oper) (r : List Oper) (i : Nat) (env : Env) (S : St) (b want : Bool) : Prop :=
  gsplit b want (vrun P ops act n Q o r i env S) (vops P ops act n Q r (i + 1) (pput' env o.dst .undef) S)

theorem vops_nil : vops P ops act n Q [] i env S = Q env S := by cases S <;> rfl

theorem vops_cons : vops P ops act n Q (o :: r) i env S =
    match o.guard with
    | none => vrun P ops act n Q o r i env S
    | some (j, want) =>
      match (ops[j]?).bind (·.dst) with
      | some d => d < env.length ∧ (match env.getD d .undef with
        | .bool b => vsel P ops act n Q o r i env S b want
        | .tup [] => vops P ops act n Q r (i + 1) (pput' env o.dst .undef) S
        | _ => False)
      | none => vops P ops act n Q r (i + 1) (pput' env o.dst .undef) S := by cases o; rfl

theorem vrun_eq : vrun P ops act n Q o r i env S = (match pcall env o.op with
  | some (f, args) => vcallk P ops act n Q o.dst r (i + 1) env S ((n + i) :: act) f args
  | none => obk P ops act n Q o.dst r (i + 1) env S (pstep P ((n + i) :: act) S env o.op)) := by cases o; rfl

theorem obk_some (dst : Option Tmp) (v : PV) (ups : Ups) : obk P ops act n Q dst r i env S (some (v, ups)) = vops P ops act n Q r i (pput' env dst v) (S.apply ups) := by
  simp only [obk, eq_iff_iff]; exact ob_some _ _ _
theorem obk_none (dst : Option Tmp) : obk P ops act n Q dst r i env S none = False := by
  simp only [obk, eq_iff_iff]; exact ob_none _
theorem obk_ite (dst : Option Tmp) {c : Prop} [Decidable c] (x : Option (PV × Ups)) : obk P ops act n Q dst r i env S (if c then x else none) = (c ∧ obk P ops act n Q dst r i env S x) := by
  simp only [obk, eq_iff_iff, ob_ite, ob_none]
  constructor
  · rintro ⟨h1, h2⟩
    by_cases h : c
    · exact ⟨h, h1 h⟩
    · exact (h2 h).elim
  · rintro ⟨h1, h2⟩
    exact ⟨fun _ => h2, fun h => h h1⟩
theorem obk_map_ite (dst : Option Tmp) {c : Prop} [Decidable c] {α : Type} (g : α → PV × Ups) (x : Option α) : obk P ops act n Q dst r i env S (Option.map g (if c then x else none)) = (c ∧ obk P ops act n Q dst r i env S (Option.map g x)) := by
  rw [← obk_ite]
  congr 1
  split <;> rfl
theorem obk_map_map (dst : Option Tmp) {α β : Type} (g : α → PV × Ups) (f : β → α) (x : Option β) : obk P ops act n Q dst r i env S (Option.map g (Option.map f x)) = obk P ops act n Q dst r i env S (Option.map (fun y => g (f y)) x) := by
  congr 1; cases x <;> rfl

theorem vsel_TT : vsel P ops act n Q o r i env S true true = vrun P ops act n Q o r i env S := by simp only [vsel, eq_iff_iff]; exact gsplit_same _ _ _
theorem vsel_FF : vsel P ops act n Q o r i env S false false = vrun P ops act n Q o r i env S := by simp only [vsel, eq_iff_iff]; exact gsplit_same _ _ _
theorem vsel_TF : vsel P ops act n Q o r i env S true false = vops P ops act n Q r (i + 1) (pput' env o.dst .undef) S := by simp only [vsel, eq_iff_iff]; exact gsplit_tf _ _
theorem vsel_FT : vsel P ops act n Q o r i env S false true = vops P ops act n Q r (i + 1) (pput' env o.dst .undef) S := by simp only [vsel, eq_iff_iff]; exact gsplit_ft _ _

theorem vsel_pT {p : Prop} [Decidable p] (h1 : p → vrun P ops act n Q o r i env S) (h2 : ¬p → vops P ops act n Q r (i + 1) (pput' env o.dst .undef) S) : vsel P ops act n Q o r i env S (decide p) true := gsplit_pT h1 h2
theorem vsel_pF {p : Prop} [Decidable p] (h1 : p → vops P ops act n Q r (i + 1) (pput' env o.dst .undef) S) (h2 : ¬p → vrun P ops act n Q o r i env S) : vsel P ops act n Q o r i env S (decide p) false := gsplit_pF h1 h2
theorem vsel_bT {b : Bool} (h1 : b = true → vrun P ops act n Q o r i env S) (h2 : b = false → vops P ops act n Q r (i + 1) (pput' env o.dst .undef) S) : vsel P ops act n Q o r i env S b true := gsplit_bT h1 h2
theorem vsel_bF {b : Bool} (h1 : b = true → vops P ops act n Q r (i + 1) (pput' env o.dst .undef) S) (h2 : b = false → vrun P ops act n Q o r i env S) : vsel P ops act n Q o r i env S b false := gsplit_bF h1 h2

theorem vops_go (h : vops P ops act n Q r i env S) : vops P ops act n Q r i env S := h
theorem vrun_go (h : vrun P ops act n Q o r i env S) : vrun P ops act n Q o r i env S := h
theorem obk_go {dst : Option Tmp} {x : Option (PV × Ups)} (h : obk P ops act n Q dst r i env S x) : obk P ops act n Q dst r i env S x := h
theorem vcallk_pure {dst : Option Tmp} {A : Key} {f : FuncId} {args : List PV} {v : PV} (h : Runs P A f args [] v []) (hk : vops P ops act n Q r i (pput' env dst v) S) : vcallk P ops act n Q dst r i env S A f args := vcall_pure h hk
theorem vcallk_new {dst : Option Tmp} {A : Key} {f : FuncId} {args : List PV} {v : PV} {S0 : St} {ups : Ups} (h : Runs P A f args S0 v ups) (hs : Sub S0 S) (hk : vops P ops act n Q r i (pput' env dst v) (S.apply ups)) : vcallk P ops act n Q dst r i env S A f args := vcall_new h hs hk
end

attribute [simp] vops_nil vops_cons vrun_eq obk_some obk_none obk_ite obk_map_ite vsel_TT vsel_FF vsel_TF vsel_FT

end Go.Pv

set_option linter.unusedVariables false
set_option linter.unusedSimpArgs false
namespace Go.Pv
open Go

/-- A value told as p may be told as q, where the rows fs are frozen, and gs are rows without memory. -/
inductive VLe (fs : St) (gs : Key → Prop) : PV → PV → Prop
  | refl (p : PV) : VLe fs gs p p
  | any (p : PV) : VLe fs gs p .any
  | cap (c : Option Nat) (es : List PV) : VLe fs gs (.islice c es) (.islice none es)
  | slice (k : Key) (len sz : Nat) (es es' : List PV) (hf : St.find fs k = some (.row sz es)) (hl : es.length = len) (hl' : es'.length = es.length)
      (hc : ∀ i, (h : i < es.length) → (h' : i < es'.length) → (es'[i]).cells.length = (es[i]).cells.length)
      (h : ∀ i m, (h : i < es.length) → (h' : i < es'.length) → (hm : m < (es[i]).cells.length) → (hm' : m < (es'[i]).cells.length) → VLe fs gs ((es[i]).cells[m]) ((es'[i]).cells[m])) :
      VLe fs gs (.slice k len) (.islice none es')
  | ptr (k : Key) (n i off sz : Nat) (es es' : List PV) (hf : St.find fs k = some (.row sz es)) (hl : es.length = n) (hl' : es'.length = es.length)
      (hc : ∀ i, (h : i < es.length) → (h' : i < es'.length) → (es'[i]).cells.length = (es[i]).cells.length)
      (h : ∀ i m, (h : i < es.length) → (h' : i < es'.length) → (hm : m < (es[i]).cells.length) → (hm' : m < (es'[i]).cells.length) → VLe fs gs ((es[i]).cells[m]) ((es'[i]).cells[m])) :
      VLe fs gs (.ptr k n i off) (.iptr es' i off)
  | part (k : Key) (n esz lo hi sz : Nat) (es es' : List PV) (hf : St.find fs k = some (.row sz es)) (he : sz = esz) (hl : es.length = n) (hl' : es'.length = es.length)
      (hc : ∀ i, (h : i < es.length) → (h' : i < es'.length) → (es'[i]).cells.length = (es[i]).cells.length)
      (h : ∀ i m, (h : i < es.length) → (h' : i < es'.length) → (hm : m < (es[i]).cells.length) → (hm' : m < (es'[i]).cells.length) → VLe fs gs ((es[i]).cells[m]) ((es'[i]).cells[m])) :
      VLe fs gs (.part k esz n lo hi) (.islice none ((es'.take hi).drop lo))
  | ghost (g : Key) (hg : gs g) : VLe fs gs (.islice (some 0) []) (.slice g 0)
  | agg (cs cs' : List PV) (hl : cs.length = cs'.length) (h : ∀ i, (h : i < cs.length) → (h' : i < cs'.length) → VLe fs gs cs[i] cs'[i]) : VLe fs gs (.agg cs) (.agg cs')
  | tup (cs cs' : List PV) (hl : cs.length = cs'.length) (h : ∀ i, (h : i < cs.length) → (h' : i < cs'.length) → VLe fs gs cs[i] cs'[i]) : VLe fs gs (.tup cs) (.tup cs')

def VLeL (fs : St) (gs : Key → Prop) (l l' : List PV) : Prop := l.length = l'.length ∧ ∀ i, (h : i < l.length) → (h' : i < l'.length) → VLe fs gs l[i] l'[i]

/-- Rows' elements. -/
def ELe (fs : St) (gs : Key → Prop) (es es' : List PV) : Prop :=
  es'.length = es.length ∧ (∀ i, (h : i < es.length) → (h' : i < es'.length) → (es'[i]).cells.length = (es[i]).cells.length) ∧
  ∀ i m, (h : i < es.length) → (h' : i < es'.length) → (hm : m < (es[i]).cells.length) → (hm' : m < (es'[i]).cells.length) → VLe fs gs ((es[i]).cells[m]) ((es'[i]).cells[m])

inductive ObLe (fs : St) (gs : Key → Prop) : Ob → Ob → Prop
  | refl (o : Ob) : ObLe fs gs o o
  | row (sz : Nat) (es es' : List PV) (h : ELe fs gs es es') : ObLe fs gs (.row sz es) (.row sz es')

section
variable {fs : St} {gs : Key → Prop}

theorem VLeL.nil : VLeL fs gs [] [] := ⟨rfl, fun i h => by simp at h⟩
theorem VLeL.cons {p q : PV} {l l' : List PV} (h : VLe fs gs p q) (k : VLeL fs gs l l') : VLeL fs gs (p :: l) (q :: l') :=
  ⟨by simp [k.1], fun i h1 h2 => by
    cases i with
    | zero => exact h
    | succ i => exact k.2 i (Nat.lt_of_succ_lt_succ h1) (Nat.lt_of_succ_lt_succ h2)⟩
theorem VLeL.refl (l : List PV) : VLeL fs gs l l := ⟨rfl, fun i _ _ => .refl _⟩
theorem VLe.aggL {l l' : List PV} (h : VLeL fs gs l l') : VLe fs gs (.agg l) (.agg l') := .agg _ _ h.1 h.2
theorem VLe.tupL {l l' : List PV} (h : VLeL fs gs l l') : VLe fs gs (.tup l) (.tup l') := .tup _ _ h.1 h.2
theorem VLe.row {k : Key} {len sz : Nat} {es es' : List PV} (hf : St.find fs k = some (.row sz es)) (hl : es.length = len) (h : ELe fs gs es es') : VLe fs gs (.slice k len) (.islice none es') :=
  .slice k len sz es es' hf hl h.1 h.2.1 h.2.2
theorem VLe.prt {k : Key} {n lo hi sz : Nat} {es es' : List PV} (hf : St.find fs k = some (.row sz es)) (hl : es.length = n) (h : ELe fs gs es es') : VLe fs gs (.part k sz n lo hi) (.islice none ((es'.take hi).drop lo)) :=
  .part k n sz lo hi sz es es' hf rfl hl h.1 h.2.1 h.2.2
theorem VLe.prow {k : Key} {n i off sz : Nat} {es es' : List PV} (hf : St.find fs k = some (.row sz es)) (hl : es.length = n) (h : ELe fs gs es es') : VLe fs gs (.ptr k n i off) (.iptr es' i off) :=
  .ptr k n i off sz es es' hf hl h.1 h.2.1 h.2.2
theorem ELe.refl (l : List PV) : ELe fs gs l l := ⟨rfl, fun _ _ _ => rfl, fun _ _ _ _ _ _ => .refl _⟩
theorem ELe.nil : ELe fs gs [] [] := .refl _
theorem ELe.cons {e e' : PV} {l l' : List PV} (h1 : e'.cells.length = e.cells.length) (h2 : VLeL fs gs e.cells e'.cells) (k : ELe fs gs l l') : ELe fs gs (e :: l) (e' :: l') := by
  obtain ⟨k1, k2, k3⟩ := k
  refine ⟨by simp [k1], fun i a b => ?_, fun i m a b c d => ?_⟩
  · cases i with
    | zero => exact h1
    | succ i => exact k2 i (Nat.lt_of_succ_lt_succ a) (Nat.lt_of_succ_lt_succ b)
  · cases i with
    | zero => exact h2.2 m c d
    | succ i => exact k3 i m (Nat.lt_of_succ_lt_succ a) (Nat.lt_of_succ_lt_succ b) c d
theorem ELe.of_all {l l' : List PV} (h : l'.length = l.length) (k : ∀ i, (h : i < l.length) → (h' : i < l'.length) → (l'[i]).cells.length = (l[i]).cells.length ∧ VLeL fs gs (l[i]).cells (l'[i]).cells) : ELe fs gs l l' :=
  ⟨h, fun i a b => (k i a b).1, fun i m a b c d => (k i a b).2.2 m c d⟩

/-- The keys that live on, as they are told then. -/
def kmap (K : KMap) (fs S' : St) : KMap := fun k =>
  match St.find S' k with
  | some ob => some ((K k).bind (·.1), ob)
  | none => if (St.find fs k).isSome then none else K k

theorem VLe.rel {w : World} {K K' : KMap} {U U' : Key → Prop} {F F' : Nat → Prop} {T : St} (hs : Sim w K U F T) (hsub : Sub fs T) (st : Step w K U F w K' U' F')
    (hg : ∀ g, gs g → U' g ∧ ∀ x, K' g = some x → ∃ sz, x = (none, .row sz [])) (hfo : ∀ k r ob, St.find fs k ≠ none → K k = some (some r, ob) → ¬ own K' r ∧ ¬ F' r) {p q : PV} (h : VLe fs gs p q) :
    ∀ v, Rel w K U F p v → Rel w K' U' F' q v := by
  induction h with
  | refl p => exact fun v hr => hr.mono st
  | any p => exact fun v _ => .any v
  | cap c es =>
    intro v hr
    cases hr with
    | inil _ a c' hc ha => exact .inil _ _ _ (fun _ h => by cases h) ha
    | islice _ _ r o sz cp cc e fr hne hcap hle hF hK hb hsz hin hc =>
      exact (Rel.islice none es r o sz cp cc e fr hne (fun _ h => by cases h) hle hF hK hb hsz hin hc).mono st
  | slice k len sz es es' hf hl hl' hcl hh ih =>
    intro v hr
    cases hr with
    | slice _ _ a l cp hu h0 h1 =>
    obtain ⟨ro, hk⟩ := find_of_K hs (hsub _ _ hf)
    cases ro with
    | none =>
      have := hs.row0 k sz es hk
      subst this
      obtain ⟨_, h3⟩ := h0 sz [] hk
      obtain ⟨rfl, rfl⟩ := h3 hl
      have : es' = [] := List.eq_nil_of_length_eq_zero hl'
      subst this
      exact .inil _ _ _ (fun _ h => by cases h) (fun _ => rfl)
    | some r =>
      obtain ⟨_, h3⟩ := h1 r sz es hk
      obtain ⟨rfl, rfl, hcp, h6⟩ := h3 hl
      obtain ⟨g1, c, e, g2, g3, g4⟩ := hs.row k r sz es hk
      by_cases hne : es' = []
      · subst hne
        have : es.length = 0 := hl'.symm
        rw [hl] at this
        subst this
        exact .inil _ _ _ (fun _ h => by cases h) (fun h => by cases h)
      · have hsz' : ∀ x ∈ es', x.cells.length = sz := by
          intro x hx
          obtain ⟨i, hi, rfl⟩ := List.getElem_of_mem hx
          rw [hcl i (hl' ▸ hi) hi]
          exact g1 _ (List.getElem_mem _)
        obtain ⟨hown, hF'⟩ := hfo k r _ (by rw [hf]; simp) hk
        have hrel := Rel.islice none es' r 0 sz cp c e (0, 0) hne (fun _ h => by cases h) (by omega) hF' hown g2 hsz' (by rw [hl']; omega) (fun j m hj hm => by
          have hj' : j < es.length := hl' ▸ hj
          have hm' : m < (es[j]).cells.length := by rw [← hcl j hj' hj]; exact hm
          have := ih j m hj' hj hm' hm _ (g4 j m hj' hm')
          rw [Nat.zero_add]
          exact this)
        rw [hl', hl] at hrel
        exact hrel
  | ptr k n i off sz es es' hf hl hl' hcl hh ih =>
    intro v hr
    cases hr with
    | ptr _ _ _ _ a hu hsp h0 h1 =>
    obtain ⟨ro, hk⟩ := find_of_K hs (hsub _ _ hf)
    cases ro with
    | none => exact absurd hk (h0 _ _)
    | some r =>
      obtain ⟨_, h3⟩ := h1 r sz es hk
      obtain ⟨g1, c, e, g2, g3, g4⟩ := hs.row k r sz es hk
      obtain ⟨hown, hF'⟩ := hfo k r _ (by rw [hf]; simp) hk
      have hsz' : ∀ x ∈ es', x.cells.length = sz := by
        intro x hx
        obtain ⟨i, hi, rfl⟩ := List.getElem_of_mem hx
        rw [hcl i (hl' ▸ hi) hi]
        exact g1 _ (List.getElem_mem _)
      have hrel := Rel.iptr es' i off r 0 sz c e (0, 0) hF' hown g2 hsz' (by rw [hl']; omega) (fun j m hj hm => by
        have hj' : j < es.length := hl' ▸ hj
        have hm' : m < (es[j]).cells.length := by rw [← hcl j hj' hj]; exact hm
        have := ih j m hj' hj hm' hm _ (g4 j m hj' hm')
        rw [Nat.zero_add]
        exact this)
      rw [h3 hl]
      rw [Nat.zero_add] at hrel
      exact hrel
  | part k n esz lo hi sz es es' hf hesz hl hl' hcl hh ih =>
    intro v hr
    subst hesz
    have hw : pwin T sz (.part k sz n lo hi) = some (k, lo, hi, es) := by simp [pwin, hsub _ _ hf, hl]
    obtain ⟨_, hlh, hhn, hU, ro, a, cp, hK, rfl, hno, hso⟩ := pwin_val hs hw hr
    have hlen : ((es'.take hi).drop lo).length = hi - lo := by simp; omega
    rw [← hlen]
    by_cases hne : (es'.take hi).drop lo = []
    · rw [hne]
      refine .inil _ _ _ (fun _ h => by cases h) (fun h => ?_)
      cases ro with
      | none => exact (hno rfl).1
      | some r =>
        obtain ⟨_, h2, _⟩ := hso r rfl
        by_cases h0 : 0 < cp
        · rw [h2 h0] at h; cases h
        · omega
    · have hpos : 0 < hi - lo := by rw [← hlen]; exact List.length_pos_iff.2 hne
      cases ro with
      | none => obtain ⟨_, h2⟩ := hno rfl; omega
      | some r =>
        obtain ⟨h1, h2, h3⟩ := hso r rfl
        have ha := h2 (by omega)
        subst ha
        obtain ⟨g1, c, e, g2, g3, g4⟩ := hs.row k r sz es hK
        have hsz' : ∀ x ∈ es', x.cells.length = sz := by
          intro x hx
          obtain ⟨i, hi, rfl⟩ := List.getElem_of_mem hx
          rw [hcl i (hl' ▸ hi) hi]
          exact g1 _ (List.getElem_mem _)
        obtain ⟨hown, hF'⟩ := hfo k r _ (by rw [hf]; simp) hK
        have hsz2 : lo * sz + (hi - lo) * sz ≤ es.length * sz := by
          rw [← Nat.add_mul]
          exact Nat.mul_le_mul_right _ (by omega)
        refine Rel.islice none _ r (lo * sz) sz cp c e (0, 0) hne (fun _ h => by cases h) (by omega) hF' hown g2 (fun x hx => hsz' x (List.mem_of_mem_take (List.mem_of_mem_drop hx))) (by rw [hlen]; omega) (fun j m hj hm => ?_)
        have hjl : lo + j < es'.length := by rw [hlen] at hj; omega
        have e1 : ((es'.take hi).drop lo)[j] = es'[lo + j] := by simp
        have hm1 : m < (es'[lo + j]).cells.length := by rw [e1] at hm; exact hm
        have hj' : lo + j < es.length := hl' ▸ hjl
        have hm' : m < (es[lo + j]).cells.length := by rw [← hcl _ hj' hjl]; exact hm1
        have := ih (lo + j) m hj' hjl hm' hm1 _ (g4 (lo + j) m hj' hm')
        rw [Nat.add_mul] at this
        simp only [e1]
        exact this
  | ghost g hgg =>
    intro v hr
    cases hr with
    | inil _ a c hc ha =>
      have : c = 0 := hc 0 rfl
      subst this
      obtain ⟨h1, h2⟩ := hg g hgg
      refine .slice g 0 a 0 0 h1 (fun sz es hk => ⟨Nat.zero_le _, fun _ => ⟨rfl, rfl⟩⟩) (fun r sz es hk => ?_)
      obtain ⟨sz', e⟩ := h2 _ hk
      cases e
    | islice _ _ r o sz cp cc e fr hne => exact absurd rfl hne
  | agg cs cs' hl hh ih =>
    intro v hr
    cases hr with
    | agg _ a ha h1 =>
    refine .agg cs' a (by omega) fun i hi => ih i (by omega) hi _ (h1 i (by omega))
  | tup cs cs' hl hh ih =>
    intro v hr
    cases hr with
    | tup _ a ha h1 =>
    refine .tup cs' a (by omega) fun i hi => ih i (by omega) hi _ (h1 i (by omega))

theorem St.find_mem {S : St} {k : Key} {ob : Ob} (h : St.find S k = some ob) : (k, ob) ∈ S := by
  induction S with
  | nil => cases h
  | cons x S ih =>
    obtain ⟨k', o⟩ := x
    simp only [St.find] at h
    split at h
    · rename_i e; cases h; subst e; simp
    · exact List.mem_cons_of_mem _ (ih h)

theorem St.find_append (a b : St) (k : Key) : St.find (a ++ b) k = (St.find a k).or (St.find b k) := by
  induction a with
  | nil => rfl
  | cons x a ih =>
    obtain ⟨k', o⟩ := x
    simp only [List.cons_append, St.find]
    split
    · rfl
    · exact ih

def delAll : St → St → St
  | T, [] => T
  | T, (k, _) :: r => delAll (T.del k) r

theorem find_delAll : ∀ (fs T : St) (k : Key), St.find (delAll T fs) k = if (St.find fs k).isSome then none else St.find T k
  | [], T, k => rfl
  | (k', o) :: r, T, k => by
    rw [delAll, find_delAll r, St.find_del]
    simp only [St.find]
    by_cases h : k' = k
    · subst h
      simp
    · have : ¬ k = k' := fun e => h e.symm
      simp [h, this]

/-- **A state told anew**: rows frozen, rows forgotten, values weakened, rows without memory brought in. -/
theorem PLe.tell {root : Key} {s s' : PS} (fs : St) (hact : s'.act = s.act) (hn : s.n ≤ s'.n) (hfs : Sub fs s.st)
    (hst : ∀ x ∈ s'.st, St.find fs x.1 = none ∧ ((∃ ob, St.find s.st x.1 = some ob ∧ ObLe fs (fun g => ∃ m, g = m :: s.act ∧ s.n ≤ m ∧ m < s'.n) ob x.2) ∨ (∃ m sz, x.1 = m :: s.act ∧ s.n ≤ m ∧ m < s'.n ∧ x.2 = .row sz [])))
    (henv : VLeL fs (fun g => ∃ m, g = m :: s.act ∧ s.n ≤ m ∧ m < s'.n) s.env s'.env) : PLe root s s' := by
  intro w0 K0 U0 F S0 T0 a w K U T g
  obtain ⟨env, st, act, n⟩ := s
  obtain ⟨env', st', act', n'⟩ := s'
  simp only at hact hn hfs hst henv g ⊢
  subst hact
  let gs : Key → Prop := fun g => ∃ m, g = m :: act' ∧ n ≤ m ∧ m < n'
  let K' := kmap K fs st'
  let U' : Key → Prop := fun k => U k ∨ gs k
  have hgU : ∀ k, gs k → ¬ U k := by
    rintro k ⟨m, rfl, h1, h2⟩ hu
    exact g.fresh.here m h1 [] hu
  have hgK : ∀ k, gs k → K k = none := by
    intro k hk
    cases hkk : K k with
    | none => rfl
    | some x => exact absurd (g.sim.used k x hkk) (hgU k hk)
  have hst' : ∀ k ob', St.find st' k = some ob' → St.find fs k = none ∧ ((∃ ob, St.find st k = some ob ∧ ObLe fs gs ob ob') ∨ (gs k ∧ ∃ sz, ob' = .row sz [])) := by
    intro k ob' hk
    obtain ⟨h1, h2⟩ := hst _ (St.find_mem hk)
    refine ⟨h1, h2.imp id ?_⟩
    rintro ⟨m, sz, e1, e2, e3, e4⟩
    exact ⟨⟨m, e1, e2, e3⟩, sz, e4⟩
  have hK' : ∀ k ro ob', K' k = some (ro, ob') → (∃ ob, K k = some (ro, ob) ∧ St.find fs k = none ∧ ObLe fs gs ob ob') ∨ (gs k ∧ ro = none ∧ ∃ sz, ob' = .row sz []) := by
    intro k ro ob' hk
    simp only [K', kmap] at hk
    split at hk
    · rename_i ob2 hf
      simp only [Option.some.injEq, Prod.mk.injEq] at hk
      obtain ⟨rfl, rfl⟩ := hk
      obtain ⟨h1, h2⟩ := hst' k _ hf
      rcases h2 with ⟨ob, h3, h4⟩ | ⟨h3, h4⟩
      · left
        obtain ⟨ro, h5⟩ := find_of_K g.sim (g.sub _ _ h3)
        exact ⟨ob, by rw [h5]; rfl, h1, h4⟩
      · right
        refine ⟨h3, ?_, h4⟩
        rw [hgK k h3]; rfl
    · split at hk
      · cases hk
      · rename_i hf
        left
        exact ⟨ob', hk, by simpa using hf, .refl _⟩
  have hown : ∀ r, own K' r → own K r := by
    rintro r ⟨k, ob, hk⟩
    rcases hK' k _ _ hk with ⟨ob2, h1, _⟩ | ⟨_, h1, _⟩
    · exact ⟨k, ob2, h1⟩
    · cases h1
  have hlen : ∀ {sz : Nat} {es' : List PV} {ob : Ob}, ObLe fs gs ob (.row sz es') → ∃ es, ob = .row sz es ∧ es.length = es'.length := by
    intro sz es' ob h
    cases h with
    | refl => exact ⟨es', rfl, rfl⟩
    | row _ es _ h => exact ⟨es, rfl, h.1.symm⟩
  have hstep : Step w K U F w K' U' F := by
    refine ⟨fun k h => .inl h, fun r c e fr hb hf hk => ⟨hb, hf, fun ho => hk (hown r ho)⟩, fun k sz es' hu hk => ?_, fun k r sz es' hu hk => ?_, fun k r es' hu hk => ?_⟩
    · rcases hK' k _ _ hk with ⟨ob, h1, _, h3⟩ | ⟨h1, _⟩
      · obtain ⟨es, rfl, hl⟩ := hlen h3
        exact ⟨es, h1, hl⟩
      · exact absurd hu (hgU k h1)
    · rcases hK' k _ _ hk with ⟨ob, h1, _, h3⟩ | ⟨h1, _⟩
      · obtain ⟨es, rfl, hl⟩ := hlen h3
        exact ⟨some r, es, h1, by omega, fun _ => ⟨rfl, fun c' e fr hc => ⟨c', e, fr, hc, Nat.le_refl _⟩⟩⟩
      · exact absurd hu (hgU k h1)
    · rcases hK' k _ _ hk with ⟨ob, h1, _, h3⟩ | ⟨h1, _⟩
      · cases h3; exact ⟨es', h1⟩
      · exact absurd hu (hgU k h1)
  have hrel : ∀ {p q : PV}, VLe fs gs p q → ∀ v, Rel w K U F p v → Rel w K' U' F q v := by
    intro p q h
    refine VLe.rel g.sim (fun k ob hk => g.sub _ _ (hfs _ _ hk)) hstep (fun k hk => ⟨.inr hk, fun x hx => ?_⟩) (fun k r ob hf hk => ⟨fun ho => ?_, g.sim.foreign r ⟨k, ob, hk⟩⟩) h
    · obtain ⟨ro, ob⟩ := x
      rcases hK' k _ _ hx with ⟨ob2, h1, _⟩ | ⟨_, rfl, sz, rfl⟩
      · rw [hgK k hk] at h1; cases h1
      · exact ⟨sz, rfl⟩
    · obtain ⟨k2, ob2, h2⟩ := ho
      rcases hK' k2 _ _ h2 with ⟨ob3, h3, h4, _⟩ | ⟨_, h3, _⟩
      · have := g.sim.inj _ _ _ _ _ hk h3
        subst this
        exact hf h4
      · cases h3
  refine ⟨K', U', st' ++ delAll T fs, ?_⟩
  have hfind : ∀ k, St.find (st' ++ delAll T fs) k = (K' k).map (·.2) := by
    intro k
    rw [St.find_append, find_delAll]
    simp only [K', kmap]
    cases hf : St.find st' k with
    | some ob => rfl
    | none =>
      simp only [Option.none_or]
      split
      · rfl
      · exact (g.sim.key k).symm
  have hsim : Sim w K' U' F (st' ++ delAll T fs) := by
    refine .of_holds (fun k => (hfind k).symm) (fun k x hk => ?_) (fun k k' r ob ob' h h' => ?_) (fun r ho => g.sim.foreign r (hown r ho)) g.sim.fdom (fun k ro ob' hk => ?_)
    · obtain ⟨ro, ob⟩ := x
      rcases hK' k _ _ hk with ⟨ob2, h1, _⟩ | ⟨h1, _⟩
      · exact .inl (g.sim.used k _ h1)
      · exact .inr h1
    · rcases hK' k _ _ h with ⟨ob2, h1, _⟩ | ⟨_, h1, _⟩
      · rcases hK' k' _ _ h' with ⟨ob3, h3, _⟩ | ⟨_, h3, _⟩
        · exact g.sim.inj _ _ _ _ _ h1 h3
        · cases h3
      · cases h1
    · rcases hK' k _ _ hk with ⟨ob, h1, _, h3⟩ | ⟨_, rfl, sz, rfl⟩
      · have hh := g.sim.holds h1
        cases h3 with
        | refl => exact hh.mono hstep (fun _ _ => rfl)
        | row sz es es' hE =>
          refine ⟨fun e => ?_, fun r hr => ?_⟩
          · have := hh.1 e
            subst this
            exact List.eq_nil_of_length_eq_zero hE.1
          · obtain ⟨h4, c, e, h5, h6, h7⟩ := hh.2 r hr
            refine ⟨fun x hx => ?_, c, e, h5, by rw [hE.1]; exact h6, fun j m hj hm => ?_⟩
            · obtain ⟨i, hi, rfl⟩ := List.getElem_of_mem hx
              rw [hE.2.1 i (hE.1 ▸ hi) hi]
              exact h4 _ (List.getElem_mem _)
            · have hj' : j < es.length := hE.1 ▸ hj
              have hm' : m < (es[j]).cells.length := by rw [← hE.2.1 j hj' hj]; exact hm
              exact hrel (hE.2.2 j m hj' hj hm' hm) _ (h7 j m hj' hm')
      · exact ⟨fun _ => rfl, fun r hr => by cases hr⟩
  refine ⟨hsim, fun k ob hk => ?_, fun k ob h0 h1 => ?_, fun k ob' hk => ?_, g.clear, ⟨henv.1.symm.trans g.env.1, fun t => ?_⟩, ⟨fun m hm l hu => ?_, fun pre x rest he hr m hm l hu => ?_, g.fresh.root⟩, g.defers, ?_, g.step.trans hstep, ?_⟩
  · show St.find (st' ++ delAll T fs) k = some ob
    rw [St.find_append, hk]; rfl
  · have hT := g.frame k ob h0 h1
    have hnst : St.find st k = none := by
      cases hs : St.find st k with
      | none => rfl
      | some o =>
        rcases g.keys k o hs with ⟨o2, h2⟩ | h2
        · rw [h1] at h2; cases h2
        · exact absurd h2 (g.clear _ _ h0)
    have hnfs : St.find fs k = none := by
      cases hs : St.find fs k with
      | none => rfl
      | some o => rw [hfs _ _ hs] at hnst; cases hnst
    have hnst' : St.find st' k = none := by
      cases hs : St.find st' k with
      | none => rfl
      | some o =>
        rcases (hst' k o hs).2 with ⟨o2, h2, _⟩ | ⟨h2, _⟩
        · rw [hnst] at h2; cases h2
        · obtain ⟨ro, h3⟩ := find_of_K g.sim hT
          rw [hgK k h2] at h3; cases h3
    rw [St.find_append, hnst', find_delAll, hnfs]
    exact hT
  · rcases (hst' k ob' hk).2 with ⟨o2, h2, _⟩ | ⟨⟨m, rfl, _⟩, _⟩
    · exact g.keys k o2 h2
    · exact .inr (g.fresh.root.trans (List.suffix_cons m act'))
  · have ht := g.env.2 t
    by_cases hlt : t < env.length
    · have hlt' : t < env'.length := by rw [← henv.1]; exact hlt
      have := hrel (henv.2 t hlt hlt') (a.tmps.getD t undef) (by simpa [List.getD_eq_getElem?_getD, hlt] using ht)
      simpa [List.getD_eq_getElem?_getD, hlt'] using this
    · have hlt' : ¬ t < env'.length := by rw [← henv.1]; exact hlt
      have e1 : env'.getD t .undef = .undef := by simp [List.getD_eq_getElem?_getD, List.getElem?_eq_none (Nat.le_of_not_lt hlt')]
      have e2 : env.getD t .undef = .undef := by simp [List.getD_eq_getElem?_getD, List.getElem?_eq_none (Nat.le_of_not_lt hlt)]
      rw [e1]
      rw [e2] at ht
      exact ht.mono hstep
  · rcases hu with hu | ⟨m', e, h1, h2⟩
    · exact g.fresh.here m (Nat.le_trans hn hm) l hu
    · have := List.append_inj_right' (s₁ := l) (s₂ := []) (t₁ := m :: act') (t₂ := m' :: act') (by simpa using e) (by simp)
      simp at this
      have hm2 : n' ≤ m := hm
      omega
  · rcases hu with hu | ⟨m', e, h1, h2⟩
    · exact g.fresh.up pre x rest he hr m hm l hu
    · rw [he] at e
      have : l ++ m :: rest = (m' :: pre) ++ x :: rest := by simpa using e
      have := List.append_inj_right' this (by simp)
      simp at this
      omega
  · have h2 := g.fr
    exact ⟨h2.os, h2.tape, h2.output, h2.size, h2.block, fun r ho => h2.own r (hown r ho)⟩
  · rintro k (hu | ⟨m, rfl, _⟩)
    · exact g.root k hu
    · exact .inr (g.fresh.root.trans (List.suffix_cons m act'))

/-- Numbers passed over. -/
theorem PLe.bump {root : Key} {env : Env} {st : St} {act : Key} {n : Nat} (m : Nat) (h : n ≤ m) : PLe root ⟨env, st, act, n⟩ ⟨env, st, act, m⟩ := by
  intro w0 K0 U0 F S0 T0 a w K U T g
  exact ⟨K, U, T, ⟨g.sim, g.sub, g.frame, g.keys, g.clear, g.env, g.fresh.le h, g.defers, g.fr, g.step, g.root⟩⟩

/-- Into a loop: new keys below one of one's own. -/
theorem PLe.into {root : Key} {env : Env} {st : St} {act : Key} {n : Nat} : PLe root ⟨env, st, act, n⟩ ⟨env, st, n :: act, 0⟩ := by
  intro w0 K0 U0 F S0 T0 a w K U T g
  refine ⟨K, U, T, ⟨g.sim, g.sub, g.frame, g.keys, g.clear, g.env, ⟨fun m hm l hu => ?_, fun pre x rest he hr m hm l hu => ?_, g.fresh.root.trans (List.suffix_cons n act)⟩, g.defers, g.fr, g.step, g.root⟩⟩
  · exact g.fresh.here n (Nat.le_refl _) (l ++ [m]) (by simpa using hu)
  · cases pre with
    | nil =>
      simp only [List.nil_append, List.cons.injEq] at he
      obtain ⟨rfl, rfl⟩ := he
      exact g.fresh.here m (Nat.le_of_lt hm) l hu
    | cons y pre =>
      simp only [List.cons_append, List.cons.injEq] at he
      exact g.fresh.up pre x rest he.2 hr m hm l hu

/-- The loop's next round. -/
theorem PLe.next {root : Key} {env : Env} {st : St} {pre act : Key} {N n : Nat} (hr : root <:+ act) : PLe root ⟨env, st, pre ++ N :: act, n⟩ ⟨env, st, (N + 1) :: act, 0⟩ := by
  intro w0 K0 U0 F S0 T0 a w K U T g
  refine ⟨K, U, T, ⟨g.sim, g.sub, g.frame, g.keys, g.clear, g.env, ⟨fun m hm l hu => ?_, fun pre' x rest he hr' m hm l hu => ?_, hr.trans (List.suffix_cons _ act)⟩, g.defers, g.fr, g.step, g.root⟩⟩
  · exact g.fresh.up pre N act rfl hr (N + 1) (by omega) (l ++ [m]) (by simpa using hu)
  · cases pre' with
    | nil =>
      simp only [List.nil_append, List.cons.injEq] at he
      obtain ⟨rfl, rfl⟩ := he
      exact g.fresh.up pre N act rfl hr m (by omega) l hu
    | cons y pre' =>
      simp only [List.cons_append, List.cons.injEq] at he
      exact g.fresh.up (pre ++ N :: pre') x rest (by simp [he.2]) hr' m hm l hu

end
end Go.Pv

set_option linter.unusedVariables false
set_option linter.unusedSimpArgs false
namespace Go.Pv
open Go

section
variable {P : Program} {root : Key} {Q Q' : Exit → PS → Prop} {s : PS}

/-- The round's end. -/
def roundN {ι : Type} (root : Key) (S : ι → PS) (C : ι → Prop) (μ : ι → Nat) (m : Nat) (Q : Exit → PS → Prop) : Exit → PS → Prop
  | .normal, s => ∃ i, PLe root s (S i) ∧ C i ∧ μ i < m
  | e, s => Q e s

/-- **A loop**: its states S i, for those i that C allows; μ falls. -/
theorem Pwp.loopN {ι : Type} {c : Code} (S : ι → PS) (C : ι → Prop) (μ : ι → Nat) (i0 : ι) (hle : PLe root s (S i0)) (h0 : C i0) (round : ∀ i, C i → Pwp P root c (roundN root S C μ (μ i) Q) (S i)) : Pwp P root (.loop c) Q s := by
  intro w0 K0 U0 F S0 T0 a w K U T g b k cs
  obtain ⟨K', U', T', g'⟩ := hle w0 K0 U0 F S0 T0 a w K U T g
  have key : ∀ n (i : ι) a w K U T, μ i = n → C i → Good w0 K0 U0 F S0 T0 root (S i).act (S i).n (S i).env (S i).st a w K U T →
      ∃ e a' w', Ends P F S0 T0 root w0 K0 U0 Q e a' w' ∧ Arrives P (lone (b.at a (.code c :: .inLoop c :: k)) cs w) b k cs e a' w' := by
    intro n
    induction n using Nat.strongRecOn with
    | _ n ih =>
      intro i a w K U T hn hI g
      obtain ⟨e, a₁, w₁, ⟨s1, K1, U1, T1, hq, g1⟩, harr⟩ := round i hI w0 K0 U0 F S0 T0 a w K U T g b (.inLoop c :: k) cs
      cases e with
      | normal =>
        obtain ⟨i2, hle2, hI2, hlt⟩ := hq
        obtain ⟨K2, U2, T2, g2⟩ := hle2 w0 K0 U0 F S0 T0 a₁ w₁ K1 U1 T1 g1
        obtain ⟨e₂, a₂, w₂, hq₂, harr₂⟩ := ih (μ i2) (hn ▸ hlt) i2 a₁ w₁ K2 U2 T2 rfl hI2 g2
        exact ⟨e₂, a₂, w₂, hq₂, .of_steps (Steps.trans harr (.one step_inLoop)) harr₂⟩
      | exit id => exact ⟨_, a₁, w₁, ⟨s1, K1, U1, T1, hq, g1⟩, .pass (x := .inLoop c) rfl (fun _ _ => .inl (by simp)) harr⟩
      | goto l => exact ⟨_, a₁, w₁, ⟨s1, K1, U1, T1, hq, g1⟩, .pass (x := .inLoop c) rfl (fun _ _ => .inl (by simp)) harr⟩
      | ret => exact ⟨_, a₁, w₁, ⟨s1, K1, U1, T1, hq, g1⟩, .pass (x := .inLoop c) rfl (fun _ _ => .inl (by simp)) harr⟩
      | panic ch => exact ⟨_, a₁, w₁, ⟨s1, K1, U1, T1, hq, g1⟩, .pass (x := .inLoop c) rfl (fun _ _ => .inl (by simp)) harr⟩
      | outgrown => exact ⟨_, a₁, w₁, ⟨s1, K1, U1, T1, hq, g1⟩, .pass (x := .inLoop c) rfl (fun _ _ => .inl (by simp)) harr⟩
  obtain ⟨e, a', w', hq, harr⟩ := key _ i0 a w K' U' T' rfl h0 g'
  exact ⟨e, a', w', hq, .of_steps (.one step_loop) harr⟩

theorem roundN_go {ι : Type} {S : ι → PS} {C : ι → Prop} {μ : ι → Nat} {m : Nat} (i : ι) (h1 : PLe root s (S i)) (h2 : C i) (h3 : μ i < m) : roundN root S C μ m Q .normal s := ⟨i, h1, h2, h3⟩

/-- What is handed back: results rs. -/
def presultOf (P : Program) (rs : List ResultVar) (s : PS) : Option PV :=
  match presults P s rs with
  | some [v] => some v
  | some vs => some (.tup vs)
  | none => none

/-- What is asked at a function's end. -/
def endP (P : Program) (A : Key) (rs : List ResultVar) (S : St) (ups : Ups) (v : PV) : Exit → PS → Prop
  | .normal, s | .ret, s => ∃ s', PLe A s s' ∧ presultOf P rs s' = some v ∧ Sub (St.apply S ups) s'.st
  | _, _ => False

theorem Runs.body {A : Key} {f : FuncId} {fn : Func} {c : Code} {ps : List PV} {S : St} {v : PV} {ups : Ups} {m : Nat} {rs : List ResultVar} (hent : enters P f = true) (hf : P.funcs[f]? = some fn) (hb : fn.body = some c) (hm : fn.ntmps = m) (hr : fn.results.toList = rs)
    (hups : ∀ x ∈ ups, A <:+ x.1 ∨ ∃ ob, St.find S x.1 = some ob)
    (h : Pwp P A c (endP P A rs S ups v) { env := ps ++ List.replicate (m - ps.length) .undef, st := S, act := A, n := 0 }) : Runs P A f ps S v ups := by
  refine Runs.of_pwp hent hf hb hups (h := ?_)
  rw [hm]
  subst hr
  refine Pwp.mono h fun e s q => ?_
  cases e <;> exact q

theorem endP_ret {A : Key} {rs : List ResultVar} {S : St} {ups : Ups} {v : PV} {s' : PS} (h1 : PLe A s s') (h2 : presultOf P rs s' = some v) (h3 : Sub (St.apply S ups) s'.st) : endP P A rs S ups v .ret s := ⟨s', h1, h2, h3⟩
theorem endP_normal {A : Key} {rs : List ResultVar} {S : St} {ups : Ups} {v : PV} {s' : PS} (h1 : PLe A s s') (h2 : presultOf P rs s' = some v) (h3 : Sub (St.apply S ups) s'.st) : endP P A rs S ups v .normal s := ⟨s', h1, h2, h3⟩
theorem endP_ret0 {A : Key} {rs : List ResultVar} {v : PV} (h2 : presultOf P rs s = some v) : endP P A rs [] [] v .ret s := ⟨s, PLe.refl, h2, Sub.nil _⟩
theorem endP_normal0 {A : Key} {rs : List ResultVar} {v : PV} (h2 : presultOf P rs s = some v) : endP P A rs [] [] v .normal s := ⟨s, PLe.refl, h2, Sub.nil _⟩

/-- A block with an end of its own. -/
theorem Pwp.blockTo {id : Nat} {c : Code} (R : PS → Prop) (h : Pwp P root c (fun e s => match e with | .exit id' => if id' = id then R s else Q (.exit id') s | .normal => R s | e => Q e s) s) (hR : ∀ s, R s → Q .normal s) : Pwp P root (.block id c) Q s := by
  refine .block (Pwp.mono h fun e s q => ?_)
  cases e with
  | exit id' =>
    simp only [blockP] at q ⊢
    split at q
    · rename_i e; rw [if_pos e]; exact hR _ q
    · rename_i e; rw [if_neg e]; exact q
  | normal => exact hR _ q
  | _ => exact q

end
attribute [simp] presultOf presults presult1
end Go.Pv
namespace Go.Pv
open Go
section
variable {P : Program} {root : Key} {Q Q' : Exit → PS → Prop} {s : PS}
theorem Pwp.condD {c : Operand} {x y : Code} {p : Prop} [Decidable p] (hc : ev s.env c = .bool (decide p)) (h1 : p → Pwp P root x Q s) (h2 : ¬p → Pwp P root y Q s) : Pwp P root (.cond c x y) Q s := by
  refine .cond hc ?_
  by_cases h : p
  · simpa [h] using h1 h
  · simpa [h] using h2 h
end
end Go.Pv
namespace Go.Pv
open Go
section
variable {P : Program} {root : Key} {Q Q' : Exit → PS → Prop} {s : PS}
theorem Pwp.condG {c : Operand} {x y : Code} {t : Bool} (hc : ev s.env c = .bool t) (h : gsplit t true (Pwp P root x Q s) (Pwp P root y Q s)) : Pwp P root (.cond c x y) Q s := by
  refine .cond hc ?_
  cases t
  · simpa [gsplit] using h
  · simpa [gsplit] using h
theorem gsplit_TT {a b : Prop} (h : a) : gsplit true true a b := (gsplit_same _ _ _).2 h
theorem gsplit_FF {a b : Prop} (h : a) : gsplit false false a b := (gsplit_same _ _ _).2 h
theorem gsplit_TF {a b : Prop} (h : b) : gsplit true false a b := (gsplit_tf _ _).2 h
theorem gsplit_FT {a b : Prop} (h : b) : gsplit false true a b := (gsplit_ft _ _).2 h
theorem thenP_normal {y : Code} (h : Pwp P root y Q s) : thenP P root y Q .normal s := h
theorem thenP_ret {y : Code} (h : Q .ret s) : thenP P root y Q .ret s := h
theorem thenP_exit {y : Code} {id : Nat} (h : Q (.exit id) s) : thenP P root y Q (.exit id) s := h
theorem blockP_normal {id : Nat} (h : Q .normal s) : blockP id Q .normal s := h
theorem blockP_ret {id : Nat} (h : Q .ret s) : blockP id Q .ret s := h
theorem blockP_same {id : Nat} (h : Q .normal s) : blockP id Q (.exit id) s := by simpa [blockP] using h
theorem blockP_ne {id id' : Nat} (hne : id' ≠ id) (h : Q (.exit id') s) : blockP id Q (.exit id') s := by simpa [blockP, hne] using h
theorem roundN_ret {ι : Type} {S : ι → PS} {C : ι → Prop} {μ : ι → Nat} {m : Nat} (h : Q .ret s) : roundN root S C μ m Q .ret s := h
theorem roundN_exit {ι : Type} {S : ι → PS} {C : ι → Prop} {μ : ι → Nat} {m id : Nat} (h : Q (.exit id) s) : roundN root S C μ m Q (.exit id) s := h

theorem PLe.tellIn {env env' : Env} {st st' : St} {act : Key} {n m : Nat} (fs : St) (hn : n ≤ m) (hfs : Sub fs st)
    (hst : ∀ x ∈ st', St.find fs x.1 = none ∧ ((∃ ob, St.find st x.1 = some ob ∧ ObLe fs (fun g => ∃ i, g = i :: act ∧ n ≤ i ∧ i < m) ob x.2) ∨ (∃ i sz, x.1 = i :: act ∧ n ≤ i ∧ i < m ∧ x.2 = .row sz [])))
    (henv : VLeL fs (fun g => ∃ i, g = i :: act ∧ n ≤ i ∧ i < m) env env') : PLe root ⟨env, st, act, n⟩ ⟨env', st', 0 :: m :: act, 0⟩ :=
  .trans (.tell (s := ⟨env, st, act, n⟩) (s' := ⟨env', st', act, m⟩) fs rfl hn hfs hst henv) (.trans .into .into)

theorem PLe.tellNext {env env' : Env} {st st' : St} {act pre : Key} {N n : Nat} (fs : St) (hr : root <:+ act) (hfs : Sub fs st)
    (hst : ∀ x ∈ st', St.find fs x.1 = none ∧ ∃ ob, St.find st x.1 = some ob ∧ ObLe fs (fun g => False) ob x.2)
    (henv : VLeL fs (fun g => False) env env') : PLe root ⟨env, st, pre ++ N :: act, n⟩ ⟨env', st', (N + 1) :: act, 0⟩ := by
  have hg : (fun g => ∃ i, g = i :: (pre ++ N :: act) ∧ n ≤ i ∧ i < n) = fun _ : Key => False := by
    funext g
    simp only [eq_iff_iff, iff_false]
    rintro ⟨i, _, h1, h2⟩
    omega
  refine .trans (.tell (s := ⟨env, st, pre ++ N :: act, n⟩) (s' := ⟨env', st', pre ++ N :: act, n⟩) fs rfl (Nat.le_refl _) hfs (fun x hx => ?_) ?_) (.next hr)
  · obtain ⟨h1, h2⟩ := hst x hx
    simp only
    rw [hg]
    exact ⟨h1, .inl h2⟩
  · simp only
    rw [hg]
    exact henv

theorem PLe.tellRet {env env' : Env} {st st' : St} {act : Key} {n : Nat} (fs : St) (hfs : Sub fs st)
    (hst : ∀ x ∈ st', St.find fs x.1 = none ∧ ∃ ob, St.find st x.1 = some ob ∧ ObLe fs (fun g => False) ob x.2)
    (henv : VLeL fs (fun g => False) env env') : PLe root ⟨env, st, act, n⟩ ⟨env', st', act, n⟩ := by
  have hg : (fun g => ∃ i, g = i :: act ∧ n ≤ i ∧ i < n) = fun _ : Key => False := by
    funext g
    simp only [eq_iff_iff, iff_false]
    rintro ⟨i, _, h1, h2⟩
    omega
  refine .tell (s := ⟨env, st, act, n⟩) (s' := ⟨env', st', act, n⟩) fs rfl (Nat.le_refl _) hfs (fun x hx => ?_) ?_
  · obtain ⟨h1, h2⟩ := hst x hx
    simp only
    rw [hg]
    exact ⟨h1, .inl h2⟩
  · simp only
    rw [hg]
    exact henv
end
end Go.Pv
namespace Go.Pv
open Go
theorem wrap_in (n : Int) (h : -9223372036854775808 ≤ n ∧ n ≤ 9223372036854775807) : IntKind.i64.wrap n = n := IntWalk.i64_in n h
theorem wrap_succ (n : Nat) (h : n < 4611686018427387904) : IntKind.i64.wrap ((n : Int) + 1) = (n : Int) + 1 := wrap_in _ (by omega)
theorem wrap_u8 (n : Int) (h : 0 ≤ n ∧ n ≤ 255) : IntKind.u8.wrap n = n := IntWalk.u8_in n h
end Go.Pv

set_option linter.unusedVariables false
set_option linter.unusedSimpArgs false
namespace Go.Pv
open Go

/-! ### Regions in any order: what an operation looks at -/

/-- Does an operation look at the store, or change it? -/
def memOp : Op → Bool
  | .move _ | .assign _ | .pick .. | .build .. | .nilCheck _ | .binOp .. | .unOp .. | .convert .. | .makeFunc .. | .fieldAddr .. | .field .. | .index .. | .extract .. => false
  | _ => true

section
variable {P : Program} {A : Key} {S S' : St} {env env' : Env} {op : Op}

theorem pstep_free (h : memOp op = false) : pstep P A S env op = pstep P A S' env op := by
  cases op <;> first | rfl | (simp [memOp] at h)

theorem pstep_free_ups {v : PV} {ups : Ups} (h : memOp op = false) (hs : pstep P A S env op = some (v, ups)) : ups = [] := by
  cases op <;> first | (simp [memOp] at h; done) | (simp only [pstep, Option.map_eq_some_iff, Prod.mk.injEq] at hs; obtain ⟨_, _, _, rfl⟩ := hs; rfl)

theorem pcall_mem {f : FuncId} {args : List PV} (h : pcall env op = some (f, args)) : memOp op = true := by
  unfold pcall at h
  split at h
  · rfl
  · cases h

theorem map_ev (l : List Operand) (h : ∀ x ∈ l, ev env x = ev env' x) : l.map (ev env) = l.map (ev env') := List.map_congr_left h

theorem map_ev2 (l : List (Nat × Operand)) (h : ∀ x ∈ l.map (·.2), ev env x = ev env' x) : l.map (fun p => (p.1, ev env p.2)) = l.map (fun p => (p.1, ev env' p.2)) :=
  List.map_congr_left fun p hp => by rw [h p.2 (List.mem_map_of_mem hp)]

theorem opt_ev (o : Option Operand) (h : ∀ x, o = some x → ev env x = ev env' x) : o.map (ev env) = o.map (ev env') := by
  cases o with
  | none => rfl
  | some x => simp only [Option.map_some, h x rfl]

theorem call_args {c : Call} (h : ∀ x ∈ (Op.call c).operands, ev env x = ev env' x) : ∀ x ∈ c.args.toList, ev env x = ev env' x := fun x hx => h x (by
  show x ∈ c.operands
  unfold Call.operands
  rw [Array.mem_append]
  exact .inr (by simpa using hx))

theorem call_callee {c : Call} {f : Operand} (h : ∀ x ∈ (Op.call c).operands, ev env x = ev env' x) (hc : c.callee = .value f) : ev env f = ev env' f := h f (by
  show f ∈ c.operands
  unfold Call.operands
  rw [Array.mem_append]
  exact .inl (by rw [hc]; simp))

theorem pval_env (h : ∀ x ∈ op.operands, ev env x = ev env' x) : pval P S env op = pval P S env' op := by
  cases op with
  | build t ps => simp only [Op.operands, List.mem_toArray] at h; simp only [pval, map_ev2 ps.toList h]
  | makeFunc fn a b =>
    simp only [pval]
    rw [map_ev a.toList fun x hx => h x (by simp only [Op.operands, Array.mem_append]; exact .inl (by simpa using hx)), map_ev b.toList fun x hx => h x (by simp only [Op.operands, Array.mem_append]; exact .inr (by simpa using hx))]
  | slice t x l hh m =>
    simp only [pval]
    rw [h x (by simp [Op.operands]), opt_ev l fun y hy => h y (by simp [Op.operands, hy]), opt_ev hh fun y hy => h y (by simp [Op.operands, hy]), opt_ev m fun y hy => h y (by simp [Op.operands, hy])]
  | call c =>
    have ha := call_args h
    simp only [pval]
    split
    · split
      · rename_i x t ts hx ht
        rw [ha x (by rw [hx]; simp)]
      · rfl
    · rw [map_ev _ ha]
    · rw [map_ev _ ha]
    · rfl
  | move x => simp only [pval]; rw [h x (by simp [Op.operands])]
  | assign x => simp only [pval]; rw [h x (by simp [Op.operands])]
  | pick c a b => simp only [pval]; rw [h c (by simp [Op.operands]), h a (by simp [Op.operands]), h b (by simp [Op.operands])]
  | load t x => simp only [pval]; rw [h x (by simp [Op.operands])]
  | nilCheck x => simp only [pval]; rw [h x (by simp [Op.operands])]
  | unOp o t x => simp only [pval]; rw [h x (by simp [Op.operands])]
  | convert s d x => simp only [pval]; rw [h x (by simp [Op.operands])]
  | fieldAddr s x f => simp only [pval]; rw [h x (by simp [Op.operands])]
  | field s x f => simp only [pval]; rw [h x (by simp [Op.operands])]
  | extract x f => simp only [pval]; rw [h x (by simp [Op.operands])]
  | binOp o t x y t' => simp only [pval]; rw [h x (by simp [Op.operands]), h y (by simp [Op.operands])]
  | indexAddr t x y => simp only [pval]; rw [h x (by simp [Op.operands]), h y (by simp [Op.operands])]
  | index t x y => simp only [pval]; rw [h x (by simp [Op.operands]), h y (by simp [Op.operands])]
  | _ => rfl

theorem pstep_env (h : ∀ x ∈ op.operands, ev env x = ev env' x) : pstep P A S env op = pstep P A S env' op := by
  have hp := pval_env (P := P) (S := S) h
  cases op with
  | alloc t => rfl
  | box t x => simp only [pstep, peff]; rw [h x (by simp [Op.operands])]
  | buildSlice t n ps => simp only [Op.operands, List.mem_toArray] at h; simp only [pstep, peff, map_ev2 ps.toList h]
  | makeSlice t l c => simp only [pstep, peff]; rw [h l (by simp [Op.operands]), h c (by simp [Op.operands])]
  | makeMap t r =>
    cases r with
    | none => rfl
    | some r => simp only [pstep]; rw [h r (by simp [Op.operands])]; rfl
  | lookup t x i ok => simp only [pstep]; rw [h x (by simp [Op.operands]), h i (by simp [Op.operands])]
  | mapUpdate t m k x => simp only [pstep]; rw [h m (by simp [Op.operands]), h k (by simp [Op.operands]), h x (by simp [Op.operands])]
  | insert t m k x => simp only [pstep]; rw [h m (by simp [Op.operands]), h k (by simp [Op.operands]), h x (by simp [Op.operands])]
  | store t x y => simp only [pstep, peff]; rw [h x (by simp [Op.operands]), h y (by simp [Op.operands])]
  | call c =>
    have ha := call_args h
    simp only [pstep]
    split
    · split
      · rename_i x y t t' hx ht
        rw [ha x (by rw [hx]; simp), ha y (by rw [hx]; simp)]
      · rfl
    · split
      · rename_i x y t t' hx ht
        rw [ha x (by rw [hx]; simp), ha y (by rw [hx]; simp)]
      · rfl
    · split
      · rename_i x t hx ht
        rw [ha x (by rw [hx]; simp)]
      · rfl
    · rw [hp]
  | _ => simp only [pstep, hp]

theorem pcall_env (h : ∀ x ∈ op.operands, ev env x = ev env' x) : pcall env op = pcall env' op := by
  cases op with
  | call c =>
    have ha := call_args h
    simp only [pcall]
    split
    · rename_i f hc
      rw [call_callee h hc, map_ev _ ha]
    · rfl
  | _ => rfl

theorem ev_tmp {x : Operand} (h : ∀ t, x = .tmp t → env.getD t .undef = env'.getD t .undef) : ev env x = ev env' x := by
  cases x with
  | tmp t => exact h t rfl
  | _ => rfl

theorem pguard_env {ops : List Oper} {o : Oper} (hl : env.length = env'.length) (h : ∀ g, o.guard = some g → ∀ t, (ops[g.1]?).bind (·.dst) = some t → env.getD t .undef = env'.getD t .undef) : pguard ops env o = pguard ops env' o := by
  unfold pguard
  cases hg : o.guard with
  | none => rfl
  | some g =>
    obtain ⟨j, want⟩ := g
    simp only
    cases hd : (ops[j]?).bind (·.dst) with
    | none => rfl
    | some d =>
      simp only
      rw [h _ hg d hd, hl]

theorem length_pput' (env : Env) (d : Option Tmp) (v : PV) : (pput' env d v).length = env.length := by
  cases d <;> simp [pput']

theorem getD_pput' (env : Env) (d : Option Tmp) (v : PV) (t : Nat) : (pput' env d v).getD t .undef = if d = some t ∧ t < env.length then v else env.getD t .undef := by
  cases d with
  | none => simp [pput']
  | some d =>
    simp only [pput', List.getD_eq_getElem?_getD, List.getElem?_set, Option.some.injEq]
    by_cases e : d = t
    · subst e
      by_cases hd : d < env.length
      · simp [hd]
      · simp [hd]
    · simp [e]
end

/-! ### Who stands ahead of whom -/

def edgesOf (o : Oper) : List Nat := (o.after.toList.filter (Region.binds .any)).map (·.on)

def rowOf (masks : List Nat) (o : Oper) : Nat := (edgesOf o).foldl (fun s e => s ||| (2 ^ e ||| masks.getD e 0)) 0

def tpb (masks : List Nat) (i j : Nat) : Bool := (masks.getD i 0).testBit j

def dstOf (ops : List Oper) (i : Nat) : Option Tmp := (ops[i]?).bind (·.dst)

def memAt (ops : List Oper) (i : Nat) : Bool := ((ops[i]?).map fun o => memOp o.op).getD false

/-- Is operation i ordered against all that touch the store? -/
def strictAt (ops : List Oper) (masks : List Nat) (i : Nat) : Bool :=
  (List.range ops.length).all fun j => j == i || !memAt ops j || tpb masks i j || tpb masks j i

def chkEdges (ops : List Oper) (masks : List Nat) : Bool :=
  (List.range ops.length).all fun i => match ops[i]? with
    | some o => (edgesOf o).all (fun e => decide (e < i)) && masks.getD i 0 == rowOf masks o
    | none => true

def chkEnv (ops : List Oper) (masks : List Nat) : Bool :=
  (List.range ops.length).all fun i => match ops[i]? with
    | some o => (List.range ops.length).all fun j => j == i || (match dstOf ops j with
      | some d => (!(o.looksAt ops.toArray).contains d || tpb masks i j || tpb masks j i) && o.dst != some d
      | none => true)
    | none => true

def chkAll (ops : List Oper) (masks : List Nat) (strs : List Bool) : Bool :=
  chkEdges ops masks && chkEnv ops masks && (List.range ops.length).all fun i => !strs.getD i false || strictAt ops masks i

theorem testBit_fold (masks : List Nat) (j : Nat) : ∀ (l : List Nat) (s : Nat), (l.foldl (fun s e => s ||| (2 ^ e ||| masks.getD e 0)) s).testBit j = true ↔ s.testBit j = true ∨ ∃ e ∈ l, j = e ∨ tpb masks e j = true
  | [], s => by simp
  | e :: r, s => by
    rw [List.foldl_cons, testBit_fold masks j r]
    simp only [Nat.testBit_or, Bool.or_eq_true, Nat.testBit_two_pow, decide_eq_true_eq, List.mem_cons, exists_eq_or_imp, tpb]
    constructor
    · rintro ((h | h | h) | h)
      · exact .inl h
      · exact .inr (.inl (.inl h.symm))
      · exact .inr (.inl (.inr h))
      · exact .inr (.inr h)
    · rintro (h | (h | h) | h)
      · exact .inl (.inl h)
      · exact .inl (.inr (.inl h.symm))
      · exact .inl (.inr (.inr h))
      · exact .inr h

section
variable {ops : List Oper} {masks : List Nat}

theorem edges_lt (hc : chkEdges ops masks = true) {i : Nat} {o : Oper} (ho : ops[i]? = some o) : ∀ e ∈ edgesOf o, e < i := by
  have hi : i < ops.length := (List.getElem?_eq_some_iff.1 ho).1
  have := List.all_eq_true.1 hc i (List.mem_range.2 hi)
  rw [ho] at this
  simp only [Bool.and_eq_true, List.all_eq_true, decide_eq_true_eq] at this
  exact this.1

theorem tpb_iff (hc : chkEdges ops masks = true) {i : Nat} {o : Oper} (ho : ops[i]? = some o) (j : Nat) : tpb masks i j = true ↔ ∃ e ∈ edgesOf o, j = e ∨ tpb masks e j = true := by
  have hi : i < ops.length := (List.getElem?_eq_some_iff.1 ho).1
  have := List.all_eq_true.1 hc i (List.mem_range.2 hi)
  rw [ho] at this
  simp only [Bool.and_eq_true, beq_iff_eq] at this
  unfold tpb
  rw [this.2, rowOf, testBit_fold]
  simp [tpb]

theorem tpb_lt (hc : chkEdges ops masks = true) : ∀ {i j : Nat}, i < ops.length → tpb masks i j = true → j < i := by
  intro i
  induction i using Nat.strongRecOn with
  | _ i ih =>
    intro j hi h
    have ho : ops[i]? = some ops[i] := List.getElem?_eq_getElem hi
    obtain ⟨e, he, h2⟩ := (tpb_iff hc ho j).1 h
    have hlt := edges_lt hc ho e he
    rcases h2 with rfl | h2
    · exact hlt
    · have := ih e hlt (by omega) h2
      omega

theorem tpb_trans (hc : chkEdges ops masks = true) : ∀ {i j k : Nat}, i < ops.length → tpb masks i j = true → tpb masks j k = true → tpb masks i k = true := by
  intro i
  induction i using Nat.strongRecOn with
  | _ i ih =>
    intro j k hi h h'
    have ho : ops[i]? = some ops[i] := List.getElem?_eq_getElem hi
    obtain ⟨e, he, h2⟩ := (tpb_iff hc ho j).1 h
    have hlt := edges_lt hc ho e he
    rcases h2 with rfl | h2
    · exact (tpb_iff hc ho k).2 ⟨j, he, .inr h'⟩
    · exact (tpb_iff hc ho k).2 ⟨e, he, .inr (ih e hlt (by omega) h2 h')⟩

/-! ### Lists of what has been done, the latest first -/

/-- No operation twice; whoever stands ahead has been done before. -/
def Sound (ops : List Oper) (masks : List Nat) : List Nat → Prop
  | [] => True
  | j :: L => j ∉ L ∧ j < ops.length ∧ (∀ i, tpb masks j i = true → i ∈ L) ∧ Sound ops masks L

def envL (ops : List Oper) (val : Nat → PV) (env0 : Env) : List Nat → Env
  | [] => env0
  | j :: L => pput' (envL ops val env0 L) (dstOf ops j) (val j)

def stL (up : Nat → Ups) (S0 : St) : List Nat → St
  | [] => S0
  | j :: L => St.apply (stL up S0 L) (up j)

theorem length_envL {val : Nat → PV} {env0 : Env} : ∀ L, (envL ops val env0 L).length = env0.length
  | [] => rfl
  | j :: L => by rw [envL, length_pput', length_envL L]

theorem envL_out {val : Nat → PV} {env0 : Env} {t : Nat} : ∀ L, (∀ j ∈ L, dstOf ops j ≠ some t) → (envL ops val env0 L).getD t .undef = env0.getD t .undef
  | [], _ => rfl
  | j :: L, h => by
    rw [envL, getD_pput', if_neg fun e => h j (by simp) e.1]
    exact envL_out L fun j hj => h j (by simp [hj])

theorem envL_in {val : Nat → PV} {env0 : Env} {t j0 : Nat} : ∀ L, j0 ∈ L → dstOf ops j0 = some t → (∀ j ∈ L, dstOf ops j = some t → j = j0) → (envL ops val env0 L).getD t .undef = if t < env0.length then val j0 else .undef
  | [], h, _, _ => by cases h
  | j :: L, h, hd, hu => by
    rw [envL, getD_pput', length_envL]
    by_cases e : j = j0
    · subst e
      by_cases ht : t < env0.length
      · rw [if_pos ⟨hd, ht⟩, if_pos ht]
      · rw [if_neg fun e => ht e.2, if_neg ht]
        simp [List.getD_eq_getElem?_getD, List.getElem?_eq_none (by rw [length_envL]; omega : (envL ops val env0 L).length ≤ t)]
    · have : j0 ∈ L := (List.mem_cons.1 h).elim (fun h => absurd h.symm e) id
      rw [if_neg fun e' => e (hu j (by simp) e'.1)]
      exact envL_in L this hd fun j hj => hu j (by simp [hj])

/-- Of two lists that agree on who writes t, t is the same. -/
theorem envL_same {val : Nat → PV} {env0 : Env} {t : Nat} {L X : List Nat} (hu : ∀ i j, dstOf ops i = some t → dstOf ops j = some t → i = j) (h : ∀ j, dstOf ops j = some t → (j ∈ L ↔ j ∈ X)) :
    (envL ops val env0 L).getD t .undef = (envL ops val env0 X).getD t .undef := by
  by_cases hx : ∃ j, j ∈ L ∧ dstOf ops j = some t
  · obtain ⟨j, hj, hd⟩ := hx
    rw [envL_in L hj hd fun i _ hi => hu i j hi hd, envL_in X ((h j hd).1 hj) hd fun i _ hi => hu i j hi hd]
  · rw [envL_out L fun j hj hd => hx ⟨j, hj, hd⟩, envL_out X fun j hj hd => hx ⟨j, (h j hd).2 hj, hd⟩]

def touches (up : Nat → Ups) (k : Key) (j : Nat) : Bool := (up j).any fun x => decide (x.1 = k)

theorem touches_iff {up : Nat → Ups} {k : Key} {j : Nat} : touches up k j = true ↔ ∃ x ∈ up j, x.1 = k := by simp [touches]

theorem find_touched : ∀ (ups : Ups) (A B : St) (k : Key), (∃ x ∈ ups, x.1 = k) → St.find (St.apply A ups) k = St.find (St.apply B ups) k
  | [], A, B, k, h => by obtain ⟨x, hx, _⟩ := h; cases hx
  | (k', o) :: r, A, B, k, h => by
    by_cases hr : ∃ x ∈ r, x.1 = k
    · cases o <;> exact find_touched r _ _ k hr
    · have hr' : ∀ x ∈ r, x.1 ≠ k := fun x hx e => hr ⟨x, hx, e⟩
      obtain ⟨x, hx, e⟩ := h
      rcases List.mem_cons.1 hx with rfl | hx
      · simp only at e
        subst e
        cases o with
        | some o => rw [St.apply, St.apply, find_apply_other r _ _ hr', find_apply_other r _ _ hr', St.find_set, St.find_set, if_pos rfl, if_pos rfl]
        | none => rw [St.apply, St.apply, find_apply_other r _ _ hr', find_apply_other r _ _ hr', St.find_del, St.find_del, if_pos rfl, if_pos rfl]
      · exact absurd e (hr' x hx)

theorem find_stL {up : Nat → Ups} {S0 : St} {k : Key} : ∀ L, St.find (stL up S0 L) k = match L.find? (touches up k) with
    | some j => St.find (St.apply [] (up j)) k
    | none => St.find S0 k
  | [] => rfl
  | j :: L => by
    rw [stL, List.find?_cons]
    cases h : touches up k j with
    | true => exact find_touched _ _ _ _ (touches_iff.1 h)
    | false =>
      rw [find_apply_other _ _ _ fun x hx e => by have := touches_iff.2 ⟨x, hx, e⟩; rw [h] at this; cases this]
      exact find_stL L

theorem Sound.tail {L : List Nat} : ∀ {a : List Nat} {j : Nat} {b : List Nat}, Sound ops masks L → L = a ++ j :: b → Sound ops masks (j :: b)
  | [], j, b, h, e => by subst e; exact h
  | x :: a, j, b, h, e => by subst e; exact Sound.tail (a := a) h.2.2.2 rfl

/-- The latest that touches k is the same in two lists, where those that touch it are the same, and ordered. -/
theorem find_same {up : Nat → Ups} {k : Key} {L X : List Nat} (hL : Sound ops masks L) (hX : Sound ops masks X) (hm : ∀ j, touches up k j = true → (j ∈ L ↔ j ∈ X))
    (ho : ∀ i j, i ∈ L → j ∈ L → touches up k i = true → touches up k j = true → i ≠ j → tpb masks i j = true ∨ tpb masks j i = true) : L.find? (touches up k) = X.find? (touches up k) := by
  cases h1 : L.find? (touches up k) with
  | none =>
    cases h2 : X.find? (touches up k) with
    | none => rfl
    | some j =>
      have ht := List.find?_some h2
      have hx := List.mem_of_find?_eq_some h2
      exact absurd ht (by simpa using (List.find?_eq_none.1 h1) j ((hm j ht).2 hx))
  | some i =>
    have hi := List.find?_some h1
    have hiL := List.mem_of_find?_eq_some h1
    cases h2 : X.find? (touches up k) with
    | none => exact absurd hi (by simpa using (List.find?_eq_none.1 h2) i ((hm i hi).1 hiL))
    | some j =>
      have hj := List.find?_some h2
      have hjX := List.mem_of_find?_eq_some h2
      by_cases e : i = j
      · rw [e]
      · exfalso
        obtain ⟨_, a, b, rfl, ha⟩ := List.find?_eq_some_iff_append.1 h1
        obtain ⟨_, c, d, rfl, hc⟩ := List.find?_eq_some_iff_append.1 h2
        have hjL := (hm j hj).2 hjX
        have hiX := (hm i hi).1 hiL
        have s1 := hL.tail rfl
        have s2 := hX.tail rfl
        have hjb : j ∈ b := by
          simp only [List.mem_append, List.mem_cons] at hjL
          rcases hjL with h | h | h
          · have := ha j h; rw [hj] at this; cases this
          · exact absurd h.symm e
          · exact h
        have hid : i ∈ d := by
          simp only [List.mem_append, List.mem_cons] at hiX
          rcases hiX with h | h | h
          · have := hc i h; rw [hi] at this; cases this
          · exact absurd h e
          · exact h
        have key : ∀ (u v : Nat) (t : List Nat), Sound ops masks (u :: t) → v ∈ t → tpb masks v u = true → False := by
          intro u v t s hv htp
          obtain ⟨p, q, rfl⟩ := List.append_of_mem hv
          have s3 : Sound ops masks (v :: q) := Sound.tail (a := p) s.2.2.2 rfl
          exact s.1 (by simp [s3.2.2.1 u htp])
        rcases ho i j hiL hjL hi hj e with h | h
        · exact key j i d s2 hid h
        · exact key i j b s1 hjb h

theorem sound_range (hc : chkEdges ops masks = true) : ∀ n, n ≤ ops.length → Sound ops masks (List.range n).reverse
  | 0, _ => trivial
  | n + 1, hn => by
    rw [List.range_succ, List.reverse_append]
    refine ⟨by simp, hn, fun i hi => ?_, sound_range hc n (by omega)⟩
    have := tpb_lt hc (by omega : n < ops.length) hi
    simpa using this

theorem sound_filter (hc : chkEdges ops masks = true) {i : Nat} (hi : i < ops.length) : ∀ n, n ≤ ops.length → Sound ops masks ((List.range n).reverse.filter fun j => tpb masks i j)
  | 0, _ => trivial
  | n + 1, hn => by
    rw [List.range_succ, List.reverse_append]
    simp only [List.reverse_cons, List.reverse_nil, List.nil_append, List.cons_append, List.filter_cons]
    split
    · rename_i h
      refine ⟨by simp, hn, fun j hj => ?_, sound_filter hc hi n (by omega)⟩
      have := tpb_lt hc (by omega : n < ops.length) hj
      simp only [List.mem_filter, List.mem_reverse, List.mem_range]
      exact ⟨this, tpb_trans hc hi h hj⟩
    · exact sound_filter hc hi n (by omega)
end
end Go.Pv

set_option linter.unusedVariables false
set_option linter.unusedSimpArgs false
namespace Go.Pv
open Go

/-- Of what was done by those ahead. -/
def selU (mask : Nat) : Nat → List Ups → Ups
  | _, [] => []
  | j, u :: us => (if mask.testBit j then u else []) ++ selU mask (j + 1) us

/-- May operation i count on key k? (ow: keys that an operation has for itself.) -/
def vis (masks : List Nat) (ow : List (Key × Nat)) (i : Nat) (k : Key) : Bool := ow.all fun x => decide (x.1 ≠ k) || x.2 == i || tpb masks i x.2 || tpb masks x.2 i

def St.keep (p : Key → Bool) (S : St) : St := S.filter fun x => p x.1

theorem find_keep (p : Key → Bool) (S : St) (k : Key) : St.find (St.keep p S) k = if p k then St.find S k else none := by
  induction S with
  | nil => simp [St.keep, St.find]
  | cons x S ih =>
    obtain ⟨k', o⟩ := x
    simp only [St.keep, List.filter_cons] at ih ⊢
    by_cases h : p k' = true
    · rw [if_pos h]
      simp only [St.find]
      by_cases e : k' = k
      · subst e; simp [h]
      · simp [e, ih]
    · rw [if_neg h, ih]
      simp only [St.find]
      by_cases e : k' = k
      · subst e; simp [h]
      · simp [e]

theorem keep_nil (masks : List Nat) (i : Nat) (S : St) : St.keep (vis masks [] i) S = S := by
  simp [St.keep, vis]

/-- The store that operation i may count on. -/
def stAt (masks : List Nat) (ow : List (Key × Nat)) (S0 : St) (hist : List Ups) (i : Nat) (op : Op) : St :=
  if memOp op then St.keep (vis masks ow i) (St.apply S0 (selU (masks.getD i 0) 0 hist)) else []

def okUps (strs : List Bool) (ow : List (Key × Nat)) (i : Nat) (A : Key) (ups : Ups) : Prop := ups = [] ∨ strs.getD i false = true ∨ ∀ x ∈ ups, A <:+ x.1 ∨ (x.1, i) ∈ ow

/-- A region's operations, in whatever order. -/
def dops (P : Program) (ops : List Oper) (masks : List Nat) (strs : List Bool) (ow : List (Key × Nat)) (act : Key) (n : Nat) (S0 : St) (Q : Env → St → Prop) : List Oper → Nat → Env → List Ups → Prop
  | [], _, env, hist => Q env (S0.apply hist.flatten)
  | o :: r, i, env, hist =>
    match pguard ops env o with
    | none => False
    | some false => dops P ops masks strs ow act n S0 Q r (i + 1) (pput' env o.dst .undef) (hist ++ [[]])
    | some true =>
      match pcall env o.op with
      | some (f, args) => ∃ S1 v ups, Sub S1 (stAt masks ow S0 hist i o.op) ∧ Runs P ((n + i) :: act) f args S1 v ups ∧ okUps strs ow i ((n + i) :: act) ups ∧ dops P ops masks strs ow act n S0 Q r (i + 1) (pput' env o.dst v) (hist ++ [ups])
      | none => ∃ v ups, pstep P ((n + i) :: act) (stAt masks ow S0 hist i o.op) env o.op = some (v, ups) ∧ okUps strs ow i ((n + i) :: act) ups ∧ dops P ops masks strs ow act n S0 Q r (i + 1) (pput' env o.dst v) (hist ++ [ups])

/-- What operation i does, over an environment and a store. -/
def Does (P : Program) (ops : List Oper) (A : Key) (o : Oper) (env : Env) (S : St) (v : PV) (ups : Ups) : Prop :=
  ∃ b, pguard ops env o = some b ∧ (if b then
    (match pcall env o.op with
      | some (f, args) => ∃ S1, Sub S1 S ∧ Runs P A f args S1 v ups
      | none => pstep P A S env o.op = some (v, ups))
    else v = .undef ∧ ups = [])

section
variable {P : Program} {ops : List Oper} {masks : List Nat} {strs : List Bool} {ow : List (Key × Nat)} {act : Key} {n : Nat} {S0 : St} {Q : Env → St → Prop}

def valOf (vs : List PV) (i : Nat) : PV := vs.getD i .undef
def upOf (us : List Ups) (i : Nat) : Ups := us.getD i []

theorem dops_plan : ∀ (r : List Oper) (i : Nat) (env : Env) (hist : List Ups), ops.drop i = r → hist.length = i → dops P ops masks strs ow act n S0 Q r i env hist →
    ∃ (vs : List PV) (us : List Ups), us.length = r.length ∧ vs.length = r.length ∧
      (∀ j o, r[j]? = some o → Does P ops ((n + (i + j)) :: act) o ((List.range j).foldl (fun e l => pput' e (dstOf ops (i + l)) (valOf vs l)) env) (stAt masks ow S0 (hist ++ us.take j) (i + j) o.op) (valOf vs j) (upOf us j) ∧ okUps strs ow (i + j) ((n + (i + j)) :: act) (upOf us j)) ∧
      Q ((List.range r.length).foldl (fun e l => pput' e (dstOf ops (i + l)) (valOf vs l)) env) (S0.apply (hist ++ us).flatten)
  | [], i, env, hist, _, _, h => ⟨[], [], rfl, rfl, fun j o ho => by simp at ho, by simpa [dops] using h⟩
  | o :: r, i, env, hist, hr, hh, h => by
    have ho : ops[i]? = some o := by
      have : (ops.drop i)[0]? = some o := by rw [hr]; rfl
      simpa using this
    have hr' : ops.drop (i + 1) = r := by
      have := congrArg List.tail hr
      simpa using this
    have hdst : dstOf ops i = o.dst := by simp [dstOf, ho]
    have step : ∀ (v : PV) (ups : Ups), Does P ops ((n + i) :: act) o env (stAt masks ow S0 hist i o.op) v ups → okUps strs ow i ((n + i) :: act) ups →
        dops P ops masks strs ow act n S0 Q r (i + 1) (pput' env o.dst v) (hist ++ [ups]) →
        ∃ (vs : List PV) (us : List Ups), us.length = (o :: r).length ∧ vs.length = (o :: r).length ∧
          (∀ j o', (o :: r)[j]? = some o' → Does P ops ((n + (i + j)) :: act) o' ((List.range j).foldl (fun e l => pput' e (dstOf ops (i + l)) (valOf vs l)) env) (stAt masks ow S0 (hist ++ us.take j) (i + j) o'.op) (valOf vs j) (upOf us j) ∧ okUps strs ow (i + j) ((n + (i + j)) :: act) (upOf us j)) ∧
          Q ((List.range (o :: r).length).foldl (fun e l => pput' e (dstOf ops (i + l)) (valOf vs l)) env) (S0.apply (hist ++ us).flatten) := by
      intro v ups hd hok hrest
      obtain ⟨vs, us, h1, h2, h3, h4⟩ := dops_plan r (i + 1) _ _ hr' (by simp [hh]) hrest
      have hfold : ∀ j, (List.range (j + 1)).foldl (fun e l => pput' e (dstOf ops (i + l)) (valOf (v :: vs) l)) env = (List.range j).foldl (fun e l => pput' e (dstOf ops (i + 1 + l)) (valOf vs l)) (pput' env o.dst v) := by
        intro j
        rw [List.range_succ_eq_map, List.foldl_cons, List.foldl_map]
        simp only [Nat.add_zero, hdst, valOf, List.getD_cons_zero, List.getD_cons_succ]
        congr 1
        funext e l
        rw [show i + l.succ = i + 1 + l by omega]
      refine ⟨v :: vs, ups :: us, by simp [h1], by simp [h2], fun j o' ho' => ?_, ?_⟩
      · cases j with
        | zero =>
          simp only [List.getElem?_cons_zero, Option.some.injEq] at ho'
          subst ho'
          simpa [valOf, upOf] using ⟨hd, hok⟩
        | succ j =>
          have := h3 j o' (by simpa using ho')
          rw [hfold j]
          rw [show i + (j + 1) = i + 1 + j by omega]
          simpa [valOf, upOf, List.append_assoc] using this
      · rw [List.length_cons, hfold r.length]
        simpa [List.append_assoc] using h4
    simp only [dops] at h
    split at h
    · exact h.elim
    · rename_i hg
      exact step .undef [] ⟨false, hg, by simp⟩ (.inl rfl) h
    · rename_i hg
      split at h
      · rename_i f args hc
        obtain ⟨S1, v, ups, h1, h2, h3, h4⟩ := h
        exact step v ups ⟨true, hg, by simp only [if_true, hc]; exact ⟨S1, h1, h2⟩⟩ h3 h4
      · rename_i hc
        obtain ⟨v, ups, h1, h3, h4⟩ := h
        exact step v ups ⟨true, hg, by simp only [if_true, hc]; exact h1⟩ h3 h4

theorem Does.env {A : Key} {o : Oper} {env env' : Env} {S S' : St} {v : PV} {ups : Ups} (hl : env.length = env'.length) (h : ∀ t ∈ o.looksAt ops.toArray, env.getD t .undef = env'.getD t .undef) (hS : memOp o.op = true → Sub S S') (hd : Does P ops A o env S v ups) : Does P ops A o env' S' v ups := by
  obtain ⟨b, hg, hb⟩ := hd
  have hop : ∀ x ∈ o.op.operands, ev env x = ev env' x := fun x hx => ev_tmp fun t ht => h t (by
    unfold Oper.looksAt
    rw [List.mem_append]
    exact .inl (List.mem_filterMap.2 ⟨x, by simpa using hx, by rw [ht]⟩))
  refine ⟨b, ?_, ?_⟩
  · rw [← pguard_env hl fun g hgg t ht => h t ?_]
    · exact hg
    · unfold Oper.looksAt
      rw [List.mem_append, hgg]
      obtain ⟨j, want⟩ := g
      right
      simp only
      simpa using ht
  · cases b with
    | false => exact hb
    | true =>
      simp only [if_true] at hb ⊢
      rw [← pcall_env hop]
      split at hb
      · rename_i f args hc
        obtain ⟨S1, h1, h2⟩ := hb
        exact ⟨S1, fun k ob hk => hS (pcall_mem hc) k ob (h1 k ob hk), h2⟩
      · rename_i hc
        rw [← pstep_env hop]
        by_cases hm : memOp o.op = true
        · exact pstep_sub (hS hm) hb
        · rw [pstep_free (S' := S) (by simpa using hm)]
          exact hb

theorem Does.mem {A : Key} {o : Oper} {env : Env} {S : St} {v : PV} {ups : Ups} (hd : Does P ops A o env S v ups) (hne : ups ≠ []) : memOp o.op = true := by
  obtain ⟨b, hg, hb⟩ := hd
  cases b with
  | false => exact absurd hb.2 hne
  | true =>
    simp only [if_true] at hb
    split at hb
    · rename_i f args hc; exact pcall_mem hc
    · by_cases hm : memOp o.op = true
      · exact hm
      · exact absurd (pstep_free_ups (by simpa using hm) hb) hne

theorem Does.keys {A : Key} {o : Oper} {env : Env} {S : St} {v : PV} {ups : Ups} (hd : Does P ops A o env S v ups) : ∀ x ∈ ups, A <:+ x.1 ∨ ∃ ob, St.find S x.1 = some ob := by
  obtain ⟨b, hg, hb⟩ := hd
  cases b with
  | false => rw [hb.2]; intro x hx; cases hx
  | true =>
    simp only [if_true] at hb
    split at hb
    · obtain ⟨S1, h1, h2⟩ := hb
      exact fun x hx => (h2.2.1 x hx).imp id fun ⟨ob, h⟩ => ⟨ob, h1 _ _ h⟩
    · exact fun x hx => (pstep_keys hb x hx).imp (fun (e : x.1 = _) => by rw [e]; exact List.suffix_refl _) id

theorem apply_append : ∀ (a b : Ups) (S : St), St.apply S (a ++ b) = St.apply (St.apply S a) b
  | [], _, _ => rfl
  | (k, some o) :: r, b, S => apply_append r b _
  | (k, none) :: r, b, S => apply_append r b _

theorem selU_snoc (mask : Nat) (u : Ups) : ∀ (a : List Ups) (j : Nat), selU mask j (a ++ [u]) = selU mask j a ++ (if mask.testBit (j + a.length) then u else [])
  | [], j => by simp [selU]
  | x :: a, j => by
    rw [List.cons_append, selU, selU_snoc mask u a (j + 1), selU, List.append_assoc, List.length_cons, show j + 1 + a.length = j + (a.length + 1) by omega]

theorem selU_stL (us : List Ups) (mask : Nat) (S : St) : ∀ i, i ≤ us.length → St.apply S (selU mask 0 (us.take i)) = stL (upOf us) S ((List.range i).reverse.filter fun l => mask.testBit l)
  | 0, _ => rfl
  | i + 1, hi => by
    have h1 : us.take (i + 1) = us.take i ++ [us[i]] := List.take_succ_eq_append_getElem hi
    have h2 : upOf us i = us[i] := by simp [upOf, List.getD_eq_getElem?_getD, List.getElem?_eq_getElem (show i < us.length by omega)]
    rw [h1, selU_snoc, apply_append, selU_stL us mask S i (by omega), List.range_succ, List.reverse_append]
    simp only [List.length_take, Nat.min_eq_left (show i ≤ us.length by omega), Nat.zero_add, List.reverse_cons, List.reverse_nil, List.nil_append, List.cons_append, List.filter_cons]
    split
    · rw [stL, h2]
    · rfl

theorem flat_stL (us : List Ups) (S : St) : ∀ i, i ≤ us.length → St.apply S (us.take i).flatten = stL (upOf us) S (List.range i).reverse
  | 0, _ => rfl
  | i + 1, hi => by
    have h1 : us.take (i + 1) = us.take i ++ [us[i]] := List.take_succ_eq_append_getElem hi
    have h2 : upOf us i = us[i] := by simp [upOf, List.getD_eq_getElem?_getD, List.getElem?_eq_getElem (show i < us.length by omega)]
    rw [h1, List.flatten_append, apply_append, flat_stL us S i (by omega), List.range_succ, List.reverse_append]
    simp [stL, h2]

theorem fold_envL (vs : List PV) (env : Env) : ∀ i, (List.range i).foldl (fun e l => pput' e (dstOf ops l) (valOf vs l)) env = envL ops (valOf vs) env (List.range i).reverse
  | 0 => rfl
  | i + 1 => by
    rw [List.range_succ, List.foldl_append, fold_envL vs env i, List.reverse_append]
    rfl

/-- The plan: each operation's value and doings, told over what it may count on. -/
structure Plan (P : Program) (ops : List Oper) (masks : List Nat) (strs : List Bool) (ow : List (Key × Nat)) (act : Key) (n : Nat) (env0 : Env) (S0 : St) (val : Nat → PV) (up : Nat → Ups) : Prop where
  does : ∀ i o, ops[i]? = some o → Does P ops ((n + i) :: act) o (envL ops val env0 (List.range i).reverse) (if memOp o.op then St.keep (vis masks ow i) (stL up S0 ((List.range i).reverse.filter fun l => tpb masks i l)) else []) (val i) (up i)
  ok : ∀ i, i < ops.length → okUps strs ow i ((n + i) :: act) (up i)

theorem dops_Plan {env0 : Env} (h : dops P ops masks strs ow act n S0 Q ops 0 env0 []) : ∃ val up, Plan P ops masks strs ow act n env0 S0 val up ∧ Q (envL ops val env0 (List.range ops.length).reverse) (stL up S0 (List.range ops.length).reverse) := by
  obtain ⟨vs, us, h1, h2, h3, h4⟩ := dops_plan ops 0 env0 [] rfl rfl h
  refine ⟨valOf vs, upOf us, ⟨fun i o ho => ?_, fun i hi => ?_⟩, ?_⟩
  · have hi : i < ops.length := (List.getElem?_eq_some_iff.1 ho).1
    have := (h3 i o ho).1
    simp only [Nat.zero_add, List.nil_append, fold_envL, stAt] at this
    rw [selU_stL us _ S0 i (by omega)] at this
    exact this
  · have := (h3 i ops[i] (List.getElem?_eq_getElem hi)).2
    simpa using this
  · simp only [Nat.zero_add, List.nil_append, fold_envL] at h4
    have e := flat_stL us S0 us.length (Nat.le_refl _)
    rw [List.take_length, h1] at e
    rw [e] at h4
    exact h4

end
end Go.Pv

set_option linter.unusedVariables false
set_option linter.unusedSimpArgs false
namespace Go.Pv
open Go

section
variable {P : Program} {ops : List Oper} {masks : List Nat} {strs : List Bool} {ow : List (Key × Nat)} {act : Key} {n : Nat} {S0 : St} {env0 : Env} {val : Nat → PV} {up : Nat → Ups}

theorem suffix_same {act : Key} {i j : Nat} {k : Key} (h1 : (i :: act) <:+ k) (h2 : (j :: act) <:+ k) : i = j := by
  obtain ⟨a, ha⟩ := h1
  obtain ⟨b, hb⟩ := h2
  have := List.append_inj_right' (ha.trans hb.symm) (by simp)
  simpa using this

theorem chk_edges (h : chkAll ops masks strs = true) : chkEdges ops masks = true := by
  unfold chkAll at h; simp only [Bool.and_eq_true] at h; exact h.1.1
theorem chk_env (h : chkAll ops masks strs = true) : chkEnv ops masks = true := by
  unfold chkAll at h; simp only [Bool.and_eq_true] at h; exact h.1.2
theorem chk_str (h : chkAll ops masks strs = true) {i : Nat} (hi : i < ops.length) (hs : strs.getD i false = true) {j : Nat} (hj : j < ops.length) (hne : j ≠ i) (hm : memAt ops j = true) : tpb masks i j = true ∨ tpb masks j i = true := by
  unfold chkAll at h
  simp only [Bool.and_eq_true] at h
  have := List.all_eq_true.1 h.2 i (List.mem_range.2 hi)
  rw [hs] at this
  simp only [Bool.not_true, Bool.false_or] at this
  have := List.all_eq_true.1 this j (List.mem_range.2 hj)
  simp only [hm, Bool.not_true, Bool.or_false, Bool.or_eq_true, beq_iff_eq] at this
  rcases this with (h | h) | h
  · exact absurd h hne
  · exact .inl h
  · exact .inr h

theorem chk_look (h : chkAll ops masks strs = true) {i j : Nat} {o : Oper} {d : Tmp} (ho : ops[i]? = some o) (hd : dstOf ops j = some d) (hne : j ≠ i) : (d ∈ o.looksAt ops.toArray → tpb masks i j = true ∨ tpb masks j i = true) ∧ o.dst ≠ some d := by
  have hi : i < ops.length := (List.getElem?_eq_some_iff.1 ho).1
  have hj : j < ops.length := by
    unfold dstOf at hd
    cases hoj : ops[j]? with
    | none => rw [hoj] at hd; cases hd
    | some oj => exact (List.getElem?_eq_some_iff.1 hoj).1
  have := List.all_eq_true.1 (chk_env h) i (List.mem_range.2 hi)
  rw [ho] at this
  have := List.all_eq_true.1 this j (List.mem_range.2 hj)
  rw [hd] at this
  simp only [Bool.or_eq_true, beq_iff_eq, Bool.and_eq_true, Bool.not_eq_true', bne_iff_ne, ne_eq] at this
  rcases this with h | ⟨h1, h2⟩
  · exact absurd h hne
  · refine ⟨fun hm => ?_, h2⟩
    rcases h1 with (h | h) | h
    · have : (o.looksAt ops.toArray).contains d = true := by simpa using hm
      rw [h] at this; cases this
    · exact .inl h
    · exact .inr h

theorem dst_unique (h : chkAll ops masks strs = true) {i j : Nat} {d : Tmp} (hi : dstOf ops i = some d) (hj : dstOf ops j = some d) : i = j := by
  by_cases e : i = j
  · exact e
  · exfalso
    cases ho : ops[i]? with
    | none => simp [dstOf, ho] at hi
    | some o =>
      have : o.dst = some d := by simpa [dstOf, ho] using hi
      exact (chk_look h ho hj (fun e' => e e'.symm)).2 this

variable (hp : Plan P ops masks strs ow act n env0 S0 val up) (hc : chkAll ops masks strs = true)
include hp hc

theorem Plan.memOf {j : Nat} {k : Key} (hj : j < ops.length) (ht : touches up k j = true) : memAt ops j = true := by
  obtain ⟨x, hx, _⟩ := touches_iff.1 ht
  have ho : ops[j]? = some ops[j] := List.getElem?_eq_getElem hj
  have := (hp.does j _ ho).mem (by intro e; rw [e] at hx; cases hx)
  simp [memAt, ho, this]

theorem Plan.newOf {j : Nat} {k : Key} (hj : j < ops.length) (ht : touches up k j = true) : strs.getD j false = true ∨ ((n + j) :: act) <:+ k ∨ (k, j) ∈ ow := by
  obtain ⟨x, hx, rfl⟩ := touches_iff.1 ht
  rcases hp.ok j hj with h | h | h
  · rw [h] at hx; cases hx
  · exact .inl h
  · exact .inr (h x hx)

theorem Plan.ordered (hS0 : ∀ i, i < ops.length → ∀ k, ((n + i) :: act) <:+ k → St.find S0 k = none) (how : ∀ x ∈ ow, ∃ ob, St.find S0 x.1 = some ob) (hone : ∀ x ∈ ow, ∀ y ∈ ow, x.1 = y.1 → x.2 = y.2) {i j : Nat} {k : Key} (hi : i < ops.length) (hj : j < ops.length) (h1 : touches up k i = true) (h2 : touches up k j = true) (hne : i ≠ j) : tpb masks i j = true ∨ tpb masks j i = true := by
  rcases hp.newOf hc hi h1 with h | h
  · exact chk_str hc hi h hj (fun e => hne e.symm) (hp.memOf hc hj h2)
  · rcases hp.newOf hc hj h2 with h' | h'
    · exact (chk_str hc hj h' hi hne (hp.memOf hc hi h1)).symm
    · exfalso
      rcases h with h | h
      · rcases h' with h' | h'
        · have := suffix_same h h'
          omega
        · obtain ⟨ob, e⟩ := how _ h'
          rw [hS0 i hi k h] at e; cases e
      · rcases h' with h' | h'
        · obtain ⟨ob, e⟩ := how _ h
          rw [hS0 j hj k h'] at e; cases e
        · exact hne (hone _ h _ h' rfl)

theorem Plan.prov (hS0 : ∀ i, i < ops.length → ∀ k, ((n + i) :: act) <:+ k → St.find S0 k = none) : ∀ (b : Nat) (L : List Nat), Sound ops masks L → (∀ j ∈ L, j < b) → ∀ k ob, St.find (stL up S0 L) k = some ob → (∃ ob0, St.find S0 k = some ob0) ∨ ∃ j ∈ L, ((n + j) :: act) <:+ k := by
  intro b
  induction b using Nat.strongRecOn with
  | _ b ih =>
    intro L
    induction L with
    | nil => exact fun _ _ k ob h => .inl ⟨ob, h⟩
    | cons j L ihL =>
      intro hs hb k ob h
      have hj : j < ops.length := hs.2.1
      have ho : ops[j]? = some ops[j] := List.getElem?_eq_getElem hj
      rcases find_apply_some _ _ _ _ h with ⟨x, hx, rfl⟩ | h
      · rcases (hp.does j _ ho).keys x hx with h1 | ⟨ob1, h1⟩
        · exact .inr ⟨j, by simp, h1⟩
        · split at h1
          · rw [find_keep] at h1
            split at h1
            rotate_left
            · cases h1
            have := ih j (hb j (by simp)) _ (sound_filter (chk_edges hc) hj j (by omega)) (fun l hl => by simp at hl; exact hl.1) _ _ h1
            rcases this with h2 | ⟨l, hl, h2⟩
            · exact .inl h2
            · simp only [List.mem_filter] at hl
              exact .inr ⟨l, by simp [hs.2.2.1 l hl.2], h2⟩
          · cases h1
      · rcases ihL hs.2.2.2 (fun l hl => hb l (by simp [hl])) k ob h with h2 | ⟨l, hl, h2⟩
        · exact .inl h2
        · exact .inr ⟨l, by simp [hl], h2⟩

theorem Plan.lt_of_sound : ∀ {L : List Nat}, Sound ops masks L → ∀ j ∈ L, j < ops.length
  | [], _, j, h => by cases h
  | i :: L, hs, j, h => by
    rcases List.mem_cons.1 h with rfl | h
    · exact hs.2.1
    · exact Plan.lt_of_sound hs.2.2.2 j h

/-- The store that is told now holds what operation i counts on. -/
theorem Plan.sub (hS0 : ∀ i, i < ops.length → ∀ k, ((n + i) :: act) <:+ k → St.find S0 k = none) (how : ∀ x ∈ ow, ∃ ob, St.find S0 x.1 = some ob) (hone : ∀ x ∈ ow, ∀ y ∈ ow, x.1 = y.1 → x.2 = y.2) {L : List Nat} (hL : Sound ops masks L) {i : Nat} (hi : i < ops.length) (hiL : i ∉ L) (htp : ∀ j, tpb masks i j = true → j ∈ L) (hm : memAt ops i = true) :
    Sub (St.keep (vis masks ow i) (stL up S0 ((List.range i).reverse.filter fun l => tpb masks i l))) (stL up S0 L) := by
  intro k ob hk
  rw [find_keep] at hk
  split at hk
  rotate_left
  · cases hk
  rename_i hvis
  have hX := sound_filter (chk_edges hc) hi i (by omega)
  have hlt := Plan.lt_of_sound hp hc hL
  have closed : ∀ {L : List Nat}, Sound ops masks L → ∀ j ∈ L, ∀ l, tpb masks j l = true → l ∈ L := by
    intro L hs j hj l hl
    obtain ⟨a, b, rfl⟩ := List.append_of_mem hj
    have := (hs.tail rfl).2.2.1 l hl
    simp [this]
  have e := find_same (up := up) (k := k) hL hX (fun j ht => by
    constructor
    · intro hj
      have hjl := hlt j hj
      by_cases h1 : tpb masks i j = true
      · simp only [List.mem_filter, List.mem_reverse, List.mem_range]
        exact ⟨tpb_lt (chk_edges hc) hi h1, h1⟩
      · exfalso
        have h2 : ¬ tpb masks j i = true := fun h => hiL (closed hL j hj i h)
        rcases hp.newOf hc hjl ht with h | h
        · rcases chk_str hc hjl h hi (fun e => hiL (e ▸ hj)) hm with h | h
          · exact h2 h
          · exact h1 h
        · rcases h with h | h
          rotate_left
          · have hij : i ≠ j := fun e => hiL (e ▸ hj)
            have := List.all_eq_true.1 hvis _ h
            simp only [ne_eq, not_true_eq_false, decide_false, Bool.false_or, Bool.or_eq_true, beq_iff_eq] at this
            rcases this with (h3 | h3) | h3
            · exact hij h3.symm
            · exact h1 h3
            · exact h2 h3
          rcases hp.prov hc hS0 i _ hX (fun l hl => by simp at hl; exact hl.1) k ob hk with ⟨ob0, h3⟩ | ⟨l, hl, h3⟩
          · rw [hS0 j hjl k h] at h3; cases h3
          · have : n + j = n + l := suffix_same h h3
            have : j = l := by omega
            subst this
            simp only [List.mem_filter] at hl
            exact h1 hl.2
    · intro hj
      simp only [List.mem_filter] at hj
      exact htp j hj.2) (fun a b ha hb h1 h2 hne => hp.ordered hc hS0 how hone (hlt a ha) (hlt b hb) h1 h2 hne)
  rw [find_stL, e, ← find_stL]
  exact hk

theorem Plan.final (hS0 : ∀ i, i < ops.length → ∀ k, ((n + i) :: act) <:+ k → St.find S0 k = none) (how : ∀ x ∈ ow, ∃ ob, St.find S0 x.1 = some ob) (hone : ∀ x ∈ ow, ∀ y ∈ ow, x.1 = y.1 → x.2 = y.2) {L : List Nat} (hL : Sound ops masks L) (hall : ∀ j, j < ops.length → j ∈ L) : (∀ k, St.find (stL up S0 L) k = St.find (stL up S0 (List.range ops.length).reverse) k) ∧ envL ops val env0 L = envL ops val env0 (List.range ops.length).reverse := by
  have hlt := Plan.lt_of_sound hp hc hL
  have hR := sound_range (ops := ops) (masks := masks) (chk_edges hc) ops.length (Nat.le_refl _)
  have hmem : ∀ j, j ∈ L ↔ j ∈ (List.range ops.length).reverse := fun j => ⟨fun h => by simpa using hlt j h, fun h => hall j (by simpa using h)⟩
  refine ⟨fun k => ?_, ?_⟩
  · rw [find_stL, find_stL, find_same hL hR (fun j _ => hmem j) (fun a b ha hb h1 h2 hne => hp.ordered hc hS0 how hone (hlt a ha) (hlt b hb) h1 h2 hne)]
  · refine List.ext_getElem (by rw [length_envL, length_envL]) fun t h1 h2 => ?_
    have := envL_same (ops := ops) (val := val) (env0 := env0) (t := t) (L := L) (X := (List.range ops.length).reverse) (fun i j hi hj => dst_unique hc hi hj) (fun j _ => hmem j)
    simpa [List.getD_eq_getElem?_getD, h1, h2] using this

/-- An operation that may come up now does what the plan says. -/
theorem Plan.doesNow (hS0 : ∀ i, i < ops.length → ∀ k, ((n + i) :: act) <:+ k → St.find S0 k = none) (how : ∀ x ∈ ow, ∃ ob, St.find S0 x.1 = some ob) (hone : ∀ x ∈ ow, ∀ y ∈ ow, x.1 = y.1 → x.2 = y.2) {L : List Nat} (hL : Sound ops masks L) {i : Nat} {o : Oper} (ho : ops[i]? = some o) (hiL : i ∉ L) (htp : ∀ j, tpb masks i j = true → j ∈ L) :
    Does P ops ((n + i) :: act) o (envL ops val env0 L) (stL up S0 L) (val i) (up i) := by
  have hi : i < ops.length := (List.getElem?_eq_some_iff.1 ho).1
  have hlt := Plan.lt_of_sound hp hc hL
  have closed : ∀ {L : List Nat}, Sound ops masks L → ∀ j ∈ L, ∀ l, tpb masks j l = true → l ∈ L := by
    intro L hs j hj l hl
    obtain ⟨a, b, rfl⟩ := List.append_of_mem hj
    have := (hs.tail rfl).2.2.1 l hl
    simp [this]
  refine (hp.does i o ho).env (by rw [length_envL, length_envL]) (fun t ht => ?_) (fun hm => ?_)
  · refine envL_same (fun a b ha hb => dst_unique hc ha hb) fun j hd => ?_
    by_cases e : j = i
    · subst e
      simp [hiL]
    · rcases (chk_look hc ho hd e).1 ht with h | h
      · have h1 := tpb_lt (chk_edges hc) hi h
        simp [h1, htp j h]
      · have hjl : j < ops.length := by
          unfold dstOf at hd
          cases hoj : ops[j]? with
          | none => rw [hoj] at hd; cases hd
          | some oj => exact (List.getElem?_eq_some_iff.1 hoj).1
        have h1 := tpb_lt (chk_edges hc) hjl h
        have h2 : j ∉ L := fun hj => hiL (closed hL j hj i h)
        simp only [List.mem_reverse, List.mem_range, h2, iff_false]
        omega
  · rw [if_pos hm]
    exact hp.sub hc hS0 how hone hL hi hiL htp (by simp [memAt, ho, hm])
end
end Go.Pv

set_option linter.unusedVariables false
set_option linter.unusedSimpArgs false
namespace Go.Pv
open Go

theorem Fresh.growAt {U U' : Key → Prop} {root act : Key} {N m : Nat} (h : Fresh U root act N) (hm : m < N) (hu : ∀ k, U' k → U k ∨ (m :: act) <:+ k) : Fresh U' root act N := by
  refine ⟨fun i hi l hk => ?_, fun pre x rest he hr i hi l hk => ?_, h.root⟩
  · rcases hu _ hk with hk | ⟨t, ht⟩
    · exact h.here i hi l hk
    · have := List.append_inj_right' (s₁ := t) (s₂ := l) (t₁ := m :: act) (t₂ := i :: act) ht (by simp)
      simp at this
      omega
  · rcases hu _ hk with hk | ⟨t, ht⟩
    · exact h.up pre x rest he hr i hi l hk
    · rw [he] at ht
      have : t ++ (m :: pre) ++ x :: rest = l ++ i :: rest := by simpa using ht
      have := List.append_inj_right' this (by simp)
      simp at this
      omega

section
variable {P : Program} {F : Nat → Prop}

theorem Good.nextAt {w0 w : World} {K0 K : KMap} {U0 U : Key → Prop} {S0 T0 S T : St} {root act : Key} {N m : Nat} {env : Env} {a : Act} {v : PV} {T' : St} {ups : Ups} {u : Value} {w' : World} {K' : KMap} {U' : Key → Prop}
    (g : Good w0 K0 U0 F S0 T0 root act N env S a w K U T) (hm : m < N) (h : After w K U F (m :: act) v T' u w' K' U') (dst : Option Tmp) (hsub : Sub (St.apply S ups) T')
    (hk : ∀ x ∈ ups, (m :: act) <:+ x.1 ∨ ∃ ob, St.find S x.1 = some ob) (hf : ∀ k ob, St.find T k = some ob → (∀ x ∈ ups, x.1 ≠ k) → St.find T' k = some ob) :
    Good w0 K0 U0 F S0 T0 root act N (pput' env dst v) (St.apply S ups) (a.put dst u) w' K' U' T' where
  sim := h.sim
  sub := hsub
  frame := fun k ob h0 h1 => hf k ob (g.frame k ob h0 h1) fun x hx e => by
    subst e
    rcases hk x hx with hs | ⟨ob', hs⟩
    · exact g.clear _ _ h0 (g.fresh.root.trans ((List.suffix_cons m act).trans hs))
    · rcases g.keys _ _ hs with ⟨ob2, h2⟩ | h2
      · rw [h1] at h2; cases h2
      · exact g.clear _ _ h0 h2
  keys := fun k ob hkk => by
    rcases find_apply_some _ _ _ _ hkk with ⟨x, hx, rfl⟩ | h1
    · rcases hk x hx with hs | ⟨ob', hs⟩
      · exact .inr (g.fresh.root.trans ((List.suffix_cons m act).trans hs))
      · exact g.keys _ _ hs
    · exact g.keys _ _ h1
  clear := g.clear
  env := erel_put (g.env.mono h.step) h.rel dst
  fresh := g.fresh.growAt hm h.used
  defers := by cases dst <;> exact g.defers
  fr := g.fr.trans h.fr
  step := g.step.trans h.step
  root := fun k hk => by
    rcases h.used k hk with hk | hk
    · exact g.root k hk
    · exact .inr (g.fresh.root.trans ((List.suffix_cons m act).trans hk))

theorem Good.congrS {w0 w : World} {K0 K : KMap} {U0 U : Key → Prop} {S0 T0 S S' T : St} {root act : Key} {N : Nat} {env : Env} {a : Act} (g : Good w0 K0 U0 F S0 T0 root act N env S a w K U T) (h : ∀ k, St.find S' k = St.find S k) : Good w0 K0 U0 F S0 T0 root act N env S' a w K U T where
  sim := g.sim
  sub := fun k ob hk => g.sub k ob (by rw [← h k]; exact hk)
  frame := g.frame
  keys := fun k ob hk => g.keys k ob (by rw [← h k]; exact hk)
  clear := g.clear
  env := g.env
  fresh := g.fresh
  defers := g.defers
  fr := g.fr
  step := g.step
  root := g.root

/-- Only the tape's place has moved. -/
theorem Good.drawn {w0 w : World} {K0 K : KMap} {U0 U : Key → Prop} {S0 T0 S T : St} {root act : Key} {N : Nat} {env : Env} {a : Act} {d : Nat} (g : Good w0 K0 U0 F S0 T0 root act N env S a w K U T) : Good w0 K0 U0 F S0 T0 root act N env S a { w with drawn := d } K U T := by
  have st : Step w K U F { w with drawn := d } K U F := ⟨fun _ h => h, fun r c e fr hb hf hk => ⟨hb, hf, hk⟩, fun k sz es' hu hk => ⟨es', hk, rfl⟩, fun k r sz es' hu hk => ⟨some r, es', hk, Nat.le_refl _, fun _ => ⟨rfl, fun c' e fr hc => ⟨c', e, fr, hc, Nat.le_refl _⟩⟩⟩, fun k r es' hu hk => ⟨es', hk⟩⟩
  exact {
    sim := .of_holds g.sim.key g.sim.used g.sim.inj g.sim.foreign g.sim.fdom fun k ro ob hk => (g.sim.holds hk).mono st fun _ _ => rfl
    sub := g.sub
    frame := g.frame
    keys := g.keys
    clear := g.clear
    env := g.env.mono st
    fresh := g.fresh
    defers := g.defers
    fr := ⟨g.fr.os, g.fr.tape, g.fr.output, g.fr.size, g.fr.block, g.fr.own⟩
    step := g.step.trans st
    root := g.root }

def undone (m : Nat) (listed : Array Bool) : Nat := ((List.range m).filter fun j => !listed.getD j true).length

theorem filter_lt {p q : Nat → Bool} : ∀ (l : List Nat) (i : Nat), (∀ j, q j = true → p j = true) → i ∈ l → p i = true → q i = false → (l.filter q).length < (l.filter p).length
  | [], i, _, h, _, _ => by cases h
  | x :: l, i, hpq, h, hp, hq => by
    have hle : (l.filter q).length ≤ (l.filter p).length := by
      clear h
      induction l with
      | nil => exact Nat.le_refl _
      | cons y l ih =>
        simp only [List.filter_cons]
        by_cases h1 : q y = true
        · simp [h1, hpq y h1, ih]
        · by_cases h2 : p y = true
          · simp [h1, h2]; omega
          · simp [h1, h2, ih]
    simp only [List.filter_cons]
    rcases List.mem_cons.1 h with rfl | h
    · simp [hp, hq]; omega
    · have := filter_lt l i hpq h hp hq
      by_cases h1 : q x = true
      · simp [h1, hpq x h1, this]
      · by_cases h2 : p x = true
        · simp [h1, h2]; omega
        · simp [h1, h2, this]

theorem ready_nil {ops : Array Oper} {masks : List Nat} (hc : chkEdges ops.toList masks = true) {listed : Array Bool} (hsz : listed.size = ops.size) (h : Region.ready .any ops listed = []) : ∀ i, i < ops.size → listed.getD i true = true := by
  intro i
  induction i using Nat.strongRecOn with
  | _ i ih =>
    intro hi
    cases hl : listed.getD i true with
    | true => rfl
    | false =>
      exfalso
      have ho : ops[i]? = some ops[i] := Array.getElem?_eq_getElem hi
      have hol : ops.toList[i]? = some ops[i] := by rw [Array.getElem?_toList]; exact ho
      have : i ∈ Region.ready .any ops listed := mem_ready.2 ⟨hl, ops[i], ho, fun e he hb => by
        have hlt : e.on < i := edges_lt hc hol e.on (List.mem_map.2 ⟨e, List.mem_filter.2 ⟨by simpa using he, hb⟩, rfl⟩)
        have := ih e.on hlt (by omega)
        have hs : e.on < listed.size := by omega
        simpa [Array.getD_eq_getD_getElem?, hs] using this⟩
      rw [h] at this
      cases this

theorem wpAny_plan {ops : Array Oper} {masks : List Nat} {strs : List Bool} {ow : List (Key × Nat)} {act root : Key} {n : Nat} {S0 Sf T0 : St} {env0 : Env} {val : Nat → PV} {up : Nat → Ups} {w0 : World} {K0 : KMap} {U0 : Key → Prop} {Q : Exit → Act → World → Prop}
    (hp : Plan P ops.toList masks strs ow act n env0 S0 val up) (hc : chkAll ops.toList masks strs = true) (hS0 : ∀ i, i < ops.size → ∀ k, ((n + i) :: act) <:+ k → St.find S0 k = none) (how : ∀ x ∈ ow, ∃ ob, St.find S0 x.1 = some ob) (hone : ∀ x ∈ ow, ∀ y ∈ ow, x.1 = y.1 → x.2 = y.2)
    (hQ : ∀ a w K U T, Good w0 K0 U0 F Sf T0 root act (n + ops.size) (envL ops.toList val env0 (List.range ops.size).reverse) (stL up S0 (List.range ops.size).reverse) a w K U T → Q .normal a w) :
    ∀ (fuel : Nat) (listed : Array Bool) (L : List Nat) (a : Act) (w : World) (K : KMap) (U : Key → Prop) (T : St), listed.size = ops.size → (∀ j, j < ops.size → (listed.getD j true = true ↔ j ∈ L)) → undone ops.size listed ≤ fuel →
      Sound ops.toList masks L → Good w0 K0 U0 F Sf T0 root act (n + ops.size) (envL ops.toList val env0 L) (stL up S0 L) a w K U T → (∀ i, i < ops.size → i ∉ L → ∀ l, ¬ U (l ++ (n + i) :: act)) → wpAny P .any ops Q fuel listed a w := by
  have hlen : ops.toList.length = ops.size := Array.length_toList
  intro fuel
  induction fuel with
  | zero =>
    intro listed L a w K U T hsz hL hu hS g hF
    have hall : ∀ i, i < ops.size → listed.getD i true = true := by
      intro i hi
      unfold undone at hu
      have := List.eq_nil_of_length_eq_zero (Nat.le_zero.1 hu)
      have := (List.filter_eq_nil_iff.1 this) i (List.mem_range.2 hi)
      simpa using this
    have hf := hp.final hc (fun i hi k h => hS0 i (by omega) k h) how hone hS fun j hj => (hL j (hlen ▸ hj)).1 (hall j (hlen ▸ hj))
    refine ⟨?_, hQ a w K U T ?_⟩
    · cases hr : Region.ready .any ops listed with
      | nil => rfl
      | cons i r =>
        have hi : i ∈ Region.ready .any ops listed := by rw [hr]; simp
        obtain ⟨h1, o, ho, _⟩ := mem_ready.1 hi
        have := hall i (Array.getElem?_eq_some_iff.1 ho).1
        rw [h1] at this; cases this
    · rw [hlen] at hf
      rw [← hf.2]
      exact g.congrS fun k => (hf.1 k).symm
  | succ fuel ih =>
    intro listed L a w K U T hsz hL hu hS g hF
    refine ⟨fun hr => ?_, fun i hi => ?_⟩
    · have hall := ready_nil (chk_edges hc) hsz hr
      have hf := hp.final hc (fun i hi k h => hS0 i (by omega) k h) how hone hS fun j hj => (hL j (hlen ▸ hj)).1 (hall j (hlen ▸ hj))
      refine hQ a w K U T ?_
      rw [hlen] at hf
      rw [← hf.2]
      exact g.congrS fun k => (hf.1 k).symm
    · obtain ⟨hun, o, ho, hed⟩ := mem_ready.1 hi
      have him : i < ops.size := (Array.getElem?_eq_some_iff.1 ho).1
      have hol : ops.toList[i]? = some o := by rw [Array.getElem?_toList]; exact ho
      have hiL : i ∉ L := fun h => by have := (hL i him).2 h; rw [hun] at this; cases this
      have closed : ∀ j ∈ L, ∀ l, tpb masks j l = true → l ∈ L := by
        intro j hj l hl
        obtain ⟨x, b, rfl⟩ := List.append_of_mem hj
        have := (hS.tail rfl).2.2.1 l hl
        simp [this]
      have htp : ∀ j, tpb masks i j = true → j ∈ L := by
        intro j hj
        obtain ⟨e, he, h2⟩ := (tpb_iff (chk_edges hc) hol j).1 hj
        obtain ⟨e', he', rfl⟩ := List.mem_map.1 he
        obtain ⟨he1, he2⟩ := List.mem_filter.1 he'
        have hlt := edges_lt (chk_edges hc) hol e'.on he
        have h3 := hed e' (by simpa using he1) he2
        have hes : e'.on < listed.size := by omega
        have h4 : listed.getD e'.on true = true := by simpa [Array.getD_eq_getD_getElem?, hes] using h3
        have h5 := (hL e'.on (by omega)).1 h4
        rcases h2 with rfl | h2
        · exact h5
        · exact closed _ h5 _ h2
      have hD := hp.doesNow hc (fun i hi k h => hS0 i (by omega) k h) how hone hS hol hiL htp
      have hdst : dstOf ops.toList i = o.dst := by simp only [dstOf, hol, Option.bind_some]
      have hkeys := hD.keys
      have hS' : Sound ops.toList masks (i :: L) := ⟨hiL, by omega, htp, hS⟩
      have hL' : ∀ j, j < ops.size → ((listed.setIfInBounds i true).getD j true = true ↔ j ∈ i :: L) := by
        intro j hj
        by_cases e : i = j
        · subst e
          have : i < listed.size := by omega
          simp [Array.getD_eq_getD_getElem?, this]
        · rw [getD_set_ne true e, hL j hj]
          simp [Ne.symm e]
      have hu' : undone ops.size (listed.setIfInBounds i true) ≤ fuel := by
        have : undone ops.size (listed.setIfInBounds i true) < undone ops.size listed := by
          refine filter_lt _ i (fun j hj => ?_) (List.mem_range.2 him) (by simp only [hun, Bool.not_false]) ?_
          · by_cases e : i = j
            · subst e; simp only [hun, Bool.not_false]
            · rw [getD_set_ne true e] at hj; exact hj
          · have := (hL' i him).2 (by simp)
            rw [this]; rfl
        omega
      have next : ∀ (u : Value) (w' : World) (K' : KMap) (U' : Key → Prop) (T' : St), After w K U F ((n + i) :: act) (val i) T' u w' K' U' → Sub (St.apply (stL up S0 L) (up i)) T' → (∀ k ob, St.find T k = some ob → (∀ x ∈ up i, x.1 ≠ k) → St.find T' k = some ob) →
          wpAny P .any ops Q fuel (listed.setIfInBounds i true) (a.put o.dst u) w' := by
        intro u w' K' U' T' hA hsub hfr
        have g' := g.nextAt (by omega : n + i < n + ops.size) hA o.dst hsub hkeys hfr
        rw [← hdst] at g'
        refine ih _ (i :: L) _ w' K' U' T' (by simpa using hsz) hL' hu' hS' (by rw [← hdst]; exact g') (fun j hj hjL l hk => ?_)
        rcases hA.used _ hk with hk | hk
        · exact hF j hj (fun h => hjL (by simp [h])) l hk
        · have : n + i = n + j := suffix_same hk (List.suffix_append l _)
          have : i = j := by omega
          exact hjL (by simp [this])
      unfold wpOp
      rw [ho]
      simp only
      obtain ⟨b, hg, hb⟩ := hD
      rw [pguard_wanted g.env hg]
      cases b with
      | false =>
        simp only [Bool.false_eq_true, if_false] at hb ⊢
        obtain ⟨h1, h2⟩ := hb
        have hA : After w K U F ((n + i) :: act) (val i) T undef w K U := by rw [h1]; exact After.refl g.sim rel_undef
        exact next undef w K U T hA (by rw [h2]; exact g.sub) (fun k ob h _ => h)
      | true =>
        simp only [if_true] at hb ⊢
        left
        split at hb
        · rename_i f args hcall
          obtain ⟨S1, hsub, hruns⟩ := hb
          obtain ⟨vs, h1, h2⟩ := pcall_exec g.env hcall hruns.1
          unfold Oper.wp
          rw [h1, Oper.upon_enter]
          refine (hruns.2.2 w K U F T vs g.sim (fun k ob hk => g.sub k ob (hsub k ob hk)) h2 (fun l => hF i him hiL l)).mono fun e w' hh => ?_
          obtain ⟨u, K', U', T', rfl, hD⟩ := hh
          have hother : ∀ k ob, St.find T k = some ob → (∀ x ∈ up i, x.1 ≠ k) → St.find T' k = some ob := by
            intro k ob hk hx
            cases hs1 : St.find S1 k with
            | none => exact hD.frame k ob hk hs1
            | some ob1 =>
              have e1 : St.find (St.apply S1 (up i)) k = some ob1 := by rw [find_apply_other (up i) S1 k hx]; exact hs1
              have e2 := hD.sub k ob1 e1
              have e3 := g.sub k ob1 (hsub k ob1 hs1)
              rw [hk] at e3
              cases e3
              exact e2
          refine next u w' K' U' T' hD.after (fun k ob hk => ?_) hother
          by_cases hx : ∃ x ∈ up i, x.1 = k
          · exact hD.sub k ob ((find_touched (up i) S1 (stL up S0 L) k hx).trans hk)
          · have hx' : ∀ x ∈ up i, x.1 ≠ k := fun x hx' e => hx ⟨x, hx', e⟩
            rw [find_apply_other (up i) _ k hx'] at hk
            exact hother k ob (g.sub k ob hk) hx'
        · have hA : ¬ U ((n + i) :: act) := fun hk => hF i him hiL [] hk
          obtain ⟨u, w', K', U', h1, h2⟩ := pstep_sound g.sim g.env hA (pstep_sub g.sub hb)
          refine opRun_wp h1 (next u w' K' U' _ h2 (g.sub.apply (up i)) (fun k ob hk hx => ?_))
          rw [find_apply_other (up i) T k hx]
          exact hk

/-- A region whose order the tape draws. -/
theorem Pwp.drawn0 {root : Key} {Q : Exit → PS → Prop} {s : PS} {id : Nat} {ops : Array Oper} (hm : P.follows .mixedOrders = true) (masks : List Nat) (strs : List Bool) (ow : List (Key × Nat)) (how : ∀ x ∈ ow, ∃ ob, St.find s.st x.1 = some ob) (hone : ∀ x ∈ ow, ∀ y ∈ ow, x.1 = y.1 → x.2 = y.2) (hc : chkAll ops.toList masks strs = true)
    (h : dops P ops.toList masks strs ow s.act s.n s.st (fun env st => Q .normal ⟨env, st, s.act, s.n + ops.size⟩) ops.toList 0 s.env []) : Pwp P root (.region id ops true) Q s := by
  intro w0 K0 U0 F S0 T0 a w K U T g
  refine wp_region_any hm ?_
  obtain ⟨val, up, hp, hq⟩ := dops_Plan h
  have g0 : Good w0 K0 U0 F S0 T0 root s.act (s.n + ops.size) s.env s.st a { w with drawn := w.drawn + 1 } K U T := by
    have := g.drawn (d := w.drawn + 1)
    exact { this with fresh := this.fresh.le (Nat.le_add_right _ _) }
  have hS0 : ∀ i, i < ops.size → ∀ k, ((s.n + i) :: s.act) <:+ k → St.find s.st k = none := by
    intro i hi k hk
    cases hf : St.find s.st k with
    | none => rfl
    | some ob =>
      obtain ⟨ro, h1⟩ := find_of_K g.sim (g.sub _ _ hf)
      have h2 := g.sim.used _ _ h1
      obtain ⟨l, rfl⟩ := hk
      exact absurd h2 (g.fresh.here (s.n + i) (by omega) l)
  have hlen : ops.toList.length = ops.size := Array.length_toList
  rw [hlen] at hq
  refine wpAny_plan hp hc hS0 how hone (fun a w K U T g => ⟨_, K, U, T, hq, g⟩) ops.size _ [] a _ K U T (by simp) (fun j hj => ?_) ?_ trivial g0 (fun i hi _ l hk => g.fresh.here (s.n + i) (by omega) l hk)
  · simp [Array.getD_eq_getD_getElem?, hj]
  · unfold undone
    exact Nat.le_trans (List.length_filter_le _ _) (by simp)

end
end Go.Pv

set_option linter.unusedVariables false
set_option linter.unusedSimpArgs false
namespace Go.Pv
open Go

/-- A region's operations in whatever order, as conditions. -/
def dvops (P : Program) (ops : List Oper) (masks : List Nat) (strs : List Bool) (ow : List (Key × Nat)) (act : Key) (n : Nat) (S0 : St) (Q : Env → St → Prop) : List Oper → Nat → Env → List Ups → Prop
  | [], _, env, hist => Q env (S0.apply hist.flatten)
  | o :: r, i, env, hist =>
    vguard ops env o
      (match pcall env o.op with
      | some (f, args) => ∃ S1 v ups, Sub S1 (stAt masks ow S0 hist i o.op) ∧ Runs P ((n + i) :: act) f args S1 v ups ∧ okUps strs ow i ((n + i) :: act) ups ∧ dvops P ops masks strs ow act n S0 Q r (i + 1) (pput' env o.dst v) (hist ++ [ups])
      | none => ob (pstep P ((n + i) :: act) (stAt masks ow S0 hist i o.op) env o.op) fun v ups => okUps strs ow i ((n + i) :: act) ups ∧ dvops P ops masks strs ow act n S0 Q r (i + 1) (pput' env o.dst v) (hist ++ [ups]))
      (dvops P ops masks strs ow act n S0 Q r (i + 1) (pput' env o.dst .undef) (hist ++ [[]]))

theorem dvops_dops {P : Program} {ops : List Oper} {masks : List Nat} {strs : List Bool} {ow : List (Key × Nat)} {act : Key} {n : Nat} {S0 : St} {Q : Env → St → Prop} : ∀ (r : List Oper) (i : Nat) (env : Env) (hist : List Ups), dvops P ops masks strs ow act n S0 Q r i env hist → dops P ops masks strs ow act n S0 Q r i env hist
  | [], _, _, _, h => h
  | o :: r, i, env, hist, h => by
    simp only [dvops] at h
    obtain ⟨b, hb, h⟩ := vguard_pguard h
    simp only [dops, hb]
    cases b with
    | false => exact dvops_dops r _ _ _ (by simpa using h)
    | true =>
      simp only [if_true] at h
      simp only
      split at h
      · rename_i f args hc
        simp only [hc]
        obtain ⟨S1, v, ups, h1, h2, h3, h4⟩ := h
        exact ⟨S1, v, ups, h1, h2, h3, dvops_dops r _ _ _ h4⟩
      · rename_i hc
        simp only [hc]
        obtain ⟨v, ups, h1, h2, h3⟩ := h
        exact ⟨v, ups, h1, h2, dvops_dops r _ _ _ h3⟩

section
variable {P : Program} {ops : List Oper} {masks : List Nat} {strs : List Bool} {ow : List (Key × Nat)} {act : Key} {n : Nat} {S0 : St} {Q : Env → St → Prop} {o : Oper} {r : List Oper} {i : Nat} {env : Env} {hist : List Ups}

def dobk (P : Program) (ops : List Oper) (masks : List Nat) (strs : List Bool) (ow : List (Key × Nat)) (act : Key) (n : Nat) (S0 : St) (Q : Env → St → Prop) (dst : Option Tmp) (r : List Oper) (i : Nat) (env : Env) (hist : List Ups) (x : Option (PV × Ups)) : Prop :=
  ob x fun v ups => okUps strs ow i ((n + i) :: act) ups ∧ dvops P ops masks strs ow act n S0 Q r (i + 1) (pput' env dst v) (hist ++ [ups])

def dcallk (P : Program) (ops : List Oper) (masks : List Nat) (strs : List Bool) (ow : List (Key × Nat)) (act : Key) (n : Nat) (S0 : St) (Q : Env → St → Prop) (dst : Option Tmp) (r : List Oper) (i : Nat) (env : Env) (hist : List Ups) (S : St) (f : FuncId) (args : List PV) : Prop :=
  ∃ S1 v ups, Sub S1 S ∧ Runs P ((n + i) :: act) f args S1 v ups ∧ okUps strs ow i ((n + i) :: act) ups ∧ dvops P ops masks strs ow act n S0 Q r (i + 1) (pput' env dst v) (hist ++ [ups])

def drun (P : Program) (ops : List Oper) (masks : List Nat) (strs : List Bool) (ow : List (Key × Nat)) (act : Key) (n : Nat) (S0 : St) (Q : Env → St → Prop) (o : Oper) (r : List Oper) (i : Nat) (env : Env) (hist : List Ups) : Prop :=
  match pcall env o.op with
  | some (f, args) => dcallk P ops masks strs ow act n S0 Q o.dst r i env hist (stAt masks ow S0 hist i o.op) f args
  | none => dobk P ops masks strs ow act n S0 Q o.dst r i env hist (pstep P ((n + i) :: act) (stAt masks ow S0 hist i o.op) env o.op)

def dsel (P : Program) (ops : List Oper) (masks : List Nat) (strs : List Bool) (ow : List (Key × Nat)) (act : Key) (n : Nat) (S0 : St) (Q : Env → St → Prop) (o : Oper) (r : List Oper) (i : Nat) (env : Env) (hist : List Ups) (b want : Bool) : Prop :=
  gsplit b want (drun P ops masks strs ow act n S0 Q o r i env hist) (dvops P ops masks strs ow act n S0 Q r (i + 1) (pput' env o.dst .undef) (hist ++ [[]]))

theorem dvops_nil : dvops P ops masks strs ow act n S0 Q [] i env hist = Q env (S0.apply hist.flatten) := by cases hist <;> rfl

theorem dvops_cons : dvops P ops masks strs ow act n S0 Q (o :: r) i env hist =
    match o.guard with
    | none => drun P ops masks strs ow act n S0 Q o r i env hist
    | some (j, want) =>
      match (ops[j]?).bind (·.dst) with
      | some d => d < env.length ∧ (match env.getD d .undef with
        | .bool b => dsel P ops masks strs ow act n S0 Q o r i env hist b want
        | .tup [] => dvops P ops masks strs ow act n S0 Q r (i + 1) (pput' env o.dst .undef) (hist ++ [[]])
        | _ => False)
      | none => dvops P ops masks strs ow act n S0 Q r (i + 1) (pput' env o.dst .undef) (hist ++ [[]]) := by cases o; rfl

theorem drun_eq : drun P ops masks strs ow act n S0 Q o r i env hist = (match pcall env o.op with
  | some (f, args) => dcallk P ops masks strs ow act n S0 Q o.dst r i env hist (stAt masks ow S0 hist i o.op) f args
  | none => dobk P ops masks strs ow act n S0 Q o.dst r i env hist (pstep P ((n + i) :: act) (stAt masks ow S0 hist i o.op) env o.op)) := by cases o; rfl

theorem dobk_quiet (dst : Option Tmp) (v : PV) : dobk P ops masks strs ow act n S0 Q dst r i env hist (some (v, [])) = dvops P ops masks strs ow act n S0 Q r (i + 1) (pput' env dst v) (hist ++ [[]]) := by
  simp only [dobk, eq_iff_iff, ob_some]
  exact ⟨fun h => h.2, fun h => ⟨.inl rfl, h⟩⟩
theorem dobk_cons (dst : Option Tmp) (v : PV) (x : Key × Option Ob) (ups : Ups) : dobk P ops masks strs ow act n S0 Q dst r i env hist (some (v, x :: ups)) = ((strs.getD i false = true ∨ ∀ y ∈ x :: ups, ((n + i) :: act) <:+ y.1 ∨ (y.1, i) ∈ ow) ∧ dvops P ops masks strs ow act n S0 Q r (i + 1) (pput' env dst v) (hist ++ [x :: ups])) := by
  simp only [dobk, eq_iff_iff, ob_some, okUps, reduceCtorEq, false_or]
theorem dobk_none (dst : Option Tmp) : dobk P ops masks strs ow act n S0 Q dst r i env hist none = False := by
  simp only [dobk, eq_iff_iff]; exact ob_none _
theorem dobk_ite (dst : Option Tmp) {c : Prop} [Decidable c] (x : Option (PV × Ups)) : dobk P ops masks strs ow act n S0 Q dst r i env hist (if c then x else none) = (c ∧ dobk P ops masks strs ow act n S0 Q dst r i env hist x) := by
  by_cases h : c
  · simp [h]
  · simp [h, dobk_none]
theorem dobk_map_ite (dst : Option Tmp) {c : Prop} [Decidable c] {α : Type} (g : α → PV × Ups) (x : Option α) : dobk P ops masks strs ow act n S0 Q dst r i env hist (Option.map g (if c then x else none)) = (c ∧ dobk P ops masks strs ow act n S0 Q dst r i env hist (Option.map g x)) := by
  rw [← dobk_ite]
  congr 1
  split <;> rfl

theorem dsel_TT : dsel P ops masks strs ow act n S0 Q o r i env hist true true = drun P ops masks strs ow act n S0 Q o r i env hist := by simp only [dsel, eq_iff_iff]; exact gsplit_same _ _ _
theorem dsel_FF : dsel P ops masks strs ow act n S0 Q o r i env hist false false = drun P ops masks strs ow act n S0 Q o r i env hist := by simp only [dsel, eq_iff_iff]; exact gsplit_same _ _ _
theorem dsel_TF : dsel P ops masks strs ow act n S0 Q o r i env hist true false = dvops P ops masks strs ow act n S0 Q r (i + 1) (pput' env o.dst .undef) (hist ++ [[]]) := by simp only [dsel, eq_iff_iff]; exact gsplit_tf _ _
theorem dsel_FT : dsel P ops masks strs ow act n S0 Q o r i env hist false true = dvops P ops masks strs ow act n S0 Q r (i + 1) (pput' env o.dst .undef) (hist ++ [[]]) := by simp only [dsel, eq_iff_iff]; exact gsplit_ft _ _
theorem dsel_pT {p : Prop} [Decidable p] (h1 : p → drun P ops masks strs ow act n S0 Q o r i env hist) (h2 : ¬p → dvops P ops masks strs ow act n S0 Q r (i + 1) (pput' env o.dst .undef) (hist ++ [[]])) : dsel P ops masks strs ow act n S0 Q o r i env hist (decide p) true := gsplit_pT h1 h2
theorem dsel_pF {p : Prop} [Decidable p] (h1 : p → dvops P ops masks strs ow act n S0 Q r (i + 1) (pput' env o.dst .undef) (hist ++ [[]])) (h2 : ¬p → drun P ops masks strs ow act n S0 Q o r i env hist) : dsel P ops masks strs ow act n S0 Q o r i env hist (decide p) false := gsplit_pF h1 h2
theorem dsel_bT {b : Bool} (h1 : b = true → drun P ops masks strs ow act n S0 Q o r i env hist) (h2 : b = false → dvops P ops masks strs ow act n S0 Q r (i + 1) (pput' env o.dst .undef) (hist ++ [[]])) : dsel P ops masks strs ow act n S0 Q o r i env hist b true := gsplit_bT h1 h2
theorem dsel_bF {b : Bool} (h1 : b = true → dvops P ops masks strs ow act n S0 Q r (i + 1) (pput' env o.dst .undef) (hist ++ [[]])) (h2 : b = false → drun P ops masks strs ow act n S0 Q o r i env hist) : dsel P ops masks strs ow act n S0 Q o r i env hist b false := gsplit_bF h1 h2

theorem dvops_go (h : dvops P ops masks strs ow act n S0 Q r i env hist) : dvops P ops masks strs ow act n S0 Q r i env hist := h
theorem dcallk_pure {dst : Option Tmp} {S : St} {f : FuncId} {args : List PV} {v : PV} (h : Runs P ((n + i) :: act) f args [] v []) (hk : dvops P ops masks strs ow act n S0 Q r (i + 1) (pput' env dst v) (hist ++ [[]])) : dcallk P ops masks strs ow act n S0 Q dst r i env hist S f args :=
  ⟨[], v, [], Sub.nil S, h, .inl rfl, hk⟩
theorem dcallk_new {dst : Option Tmp} {S : St} {f : FuncId} {args : List PV} {v : PV} {S1 : St} {ups : Ups} (h : Runs P ((n + i) :: act) f args S1 v ups) (hs : Sub S1 S) (hok : strs.getD i false = true ∨ ∀ y ∈ ups, ((n + i) :: act) <:+ y.1)
    (hk : dvops P ops masks strs ow act n S0 Q r (i + 1) (pput' env dst v) (hist ++ [ups])) : dcallk P ops masks strs ow act n S0 Q dst r i env hist S f args :=
  ⟨S1, v, ups, hs, h, .inr (hok.imp id fun h y hy => .inl (h y hy)), hk⟩
theorem dcallk_ow {dst : Option Tmp} {S : St} {f : FuncId} {args : List PV} {v : PV} {S1 : St} {ups : Ups} (h : Runs P ((n + i) :: act) f args S1 v ups) (hs : Sub S1 S) (hok : ∀ y ∈ ups, ((n + i) :: act) <:+ y.1 ∨ (y.1, i) ∈ ow)
    (hk : dvops P ops masks strs ow act n S0 Q r (i + 1) (pput' env dst v) (hist ++ [ups])) : dcallk P ops masks strs ow act n S0 Q dst r i env hist S f args :=
  ⟨S1, v, ups, hs, h, .inr (.inr hok), hk⟩

theorem Pwp.drawn {root : Key} {Q : Exit → PS → Prop} {s : PS} {id : Nat} {ops : Array Oper} (hm : P.follows .mixedOrders = true) (masks : List Nat) (strs : List Bool) (hc : chkAll ops.toList masks strs = true)
    (h : ∀ K : PS → Prop, Hid (∀ s, Q .normal s → K s) → dvops P ops.toList masks strs [] s.act s.n s.st (fun env st => K ⟨env, st, s.act, s.n + ops.size⟩) ops.toList 0 s.env []) : Pwp P root (.region id ops true) Q s :=
  .drawn0 hm masks strs [] (fun x hx => by cases hx) (fun x hx => by cases hx) hc (dvops_dops _ _ _ _ (h _ ⟨fun _ h => h⟩))

/-- The same, where one operation has a key for itself. -/
theorem Pwp.drawnOw {root : Key} {Q : Exit → PS → Prop} {s : PS} {id : Nat} {ops : Array Oper} (hm : P.follows .mixedOrders = true) (masks : List Nat) (strs : List Bool) (k : Key) (i : Nat) (hk : ∃ ob, St.find s.st k = some ob) (hc : chkAll ops.toList masks strs = true)
    (h : ∀ K : PS → Prop, Hid (∀ s, Q .normal s → K s) → dvops P ops.toList masks strs [(k, i)] s.act s.n s.st (fun env st => K ⟨env, st, s.act, s.n + ops.size⟩) ops.toList 0 s.env []) : Pwp P root (.region id ops true) Q s :=
  .drawn0 hm masks strs [(k, i)] (fun x hx => by rw [List.mem_singleton.1 hx]; exact hk) (fun x hx y hy _ => by rw [List.mem_singleton.1 hx, List.mem_singleton.1 hy]) hc (dvops_dops _ _ _ _ (h _ ⟨fun _ h => h⟩))
end

theorem gsplit_npT {p : Prop} [Decidable p] {yes no : Prop} (h1 : p → no) (h2 : ¬p → yes) : gsplit (!decide p) true yes no := by
  by_cases h : p <;> simp_all [gsplit]
theorem gsplit_npF {p : Prop} [Decidable p] {yes no : Prop} (h1 : p → yes) (h2 : ¬p → no) : gsplit (!decide p) false yes no := by
  by_cases h : p <;> simp_all [gsplit]
theorem vsel_npT {P : Program} {ops : List Oper} {act : Key} {n : Nat} {Q : Env → St → Prop} {o : Oper} {r : List Oper} {i : Nat} {env : Env} {S : St} {p : Prop} [Decidable p] (h1 : p → vops P ops act n Q r (i + 1) (pput' env o.dst .undef) S) (h2 : ¬p → vrun P ops act n Q o r i env S) : vsel P ops act n Q o r i env S (!decide p) true := gsplit_npT h1 h2
theorem vsel_npF {P : Program} {ops : List Oper} {act : Key} {n : Nat} {Q : Env → St → Prop} {o : Oper} {r : List Oper} {i : Nat} {env : Env} {S : St} {p : Prop} [Decidable p] (h1 : p → vrun P ops act n Q o r i env S) (h2 : ¬p → vops P ops act n Q r (i + 1) (pput' env o.dst .undef) S) : vsel P ops act n Q o r i env S (!decide p) false := gsplit_npF h1 h2
theorem dsel_npT {P : Program} {ops : List Oper} {masks : List Nat} {strs : List Bool} {ow : List (Key × Nat)} {act : Key} {n : Nat} {S0 : St} {Q : Env → St → Prop} {o : Oper} {r : List Oper} {i : Nat} {env : Env} {hist : List Ups} {p : Prop} [Decidable p] (h1 : p → dvops P ops masks strs ow act n S0 Q r (i + 1) (pput' env o.dst .undef) (hist ++ [[]])) (h2 : ¬p → drun P ops masks strs ow act n S0 Q o r i env hist) : dsel P ops masks strs ow act n S0 Q o r i env hist (!decide p) true := gsplit_npT h1 h2
theorem dsel_npF {P : Program} {ops : List Oper} {masks : List Nat} {strs : List Bool} {ow : List (Key × Nat)} {act : Key} {n : Nat} {S0 : St} {Q : Env → St → Prop} {o : Oper} {r : List Oper} {i : Nat} {env : Env} {hist : List Ups} {p : Prop} [Decidable p] (h1 : p → drun P ops masks strs ow act n S0 Q o r i env hist) (h2 : ¬p → dvops P ops masks strs ow act n S0 Q r (i + 1) (pput' env o.dst .undef) (hist ++ [[]])) : dsel P ops masks strs ow act n S0 Q o r i env hist (!decide p) false := gsplit_npF h1 h2
theorem selU_nil (m j : Nat) : selU m j [] = [] := rfl
theorem selU_skip (m j : Nat) (us : List Ups) : selU m j ([] :: us) = selU m (j + 1) us := by
  simp only [selU, ite_self, List.nil_append]
theorem selU_cons (m j : Nat) (x : Key × Option Ob) (u : Ups) (us : List Ups) : selU m j ((x :: u) :: us) = (if m / 2 ^ j % 2 = 1 then x :: u else []) ++ selU m (j + 1) us := by
  simp only [selU, Nat.testBit_eq_decide_div_mod_eq, decide_eq_true_eq]
theorem tpb_eq (masks : List Nat) (i j : Nat) : tpb masks i j = decide (masks.getD i 0 / 2 ^ j % 2 = 1) := by
  simp only [tpb, Nat.testBit_eq_decide_div_mod_eq]
theorem and_go {a b : Prop} (h : a) (k : a → b) : a ∧ b := ⟨h, k h⟩
theorem obk_go' {P : Program} {ops : List Oper} {act : Key} {n : Nat} {Q : Env → St → Prop} {r : List Oper} {i : Nat} {env : Env} {S : St} {dst : Option Tmp} {x : Option (PV × Ups)} (h : obk P ops act n Q dst r i env S x) : obk P ops act n Q dst r i env S x := h
theorem dobk_go {P : Program} {ops : List Oper} {masks : List Nat} {strs : List Bool} {ow : List (Key × Nat)} {act : Key} {n : Nat} {S0 : St} {Q : Env → St → Prop} {r : List Oper} {i : Nat} {env : Env} {hist : List Ups} {dst : Option Tmp} {x : Option (PV × Ups)} (h : dobk P ops masks strs ow act n S0 Q dst r i env hist x) : dobk P ops masks strs ow act n S0 Q dst r i env hist x := h
theorem drun_go {P : Program} {ops : List Oper} {masks : List Nat} {strs : List Bool} {ow : List (Key × Nat)} {act : Key} {n : Nat} {S0 : St} {Q : Env → St → Prop} {o : Oper} {r : List Oper} {i : Nat} {env : Env} {hist : List Ups} (h : drun P ops masks strs ow act n S0 Q o r i env hist) : drun P ops masks strs ow act n S0 Q o r i env hist := h
attribute [simp] Int.ofNat_inj
theorem int_beq (a b : Int) : (a == b) = decide (a = b) := by by_cases h : a = b <;> simp [h]
theorem int_bne (a b : Int) : (a != b) = decide (a ≠ b) := by by_cases h : a = b <;> simp [h]
attribute [simp] int_beq int_bne
attribute [simp] dvops_nil dvops_cons drun_eq dobk_quiet dobk_cons dobk_none dobk_ite dobk_map_ite dsel_TT dsel_FF dsel_TF dsel_FT stAt memOp selU_nil selU_skip selU_cons keep_nil find_keep vis tpb_eq

end Go.Pv

set_option linter.unusedVariables false
set_option linter.unusedSimpArgs false
namespace Go.Pv
open Go

def PV.plain1 : PV → Bool
  | .any | .bool _ | .int _ _ | .str _ | .nilPtr | .nilMap | .nilFunc | .islice _ [] => true
  | _ => false

def PV.plain2 : PV → Bool
  | .agg cs => cs.all PV.plain1
  | v => v.plain1

/-- A value that leads to no memory. -/
def PV.plain : PV → Bool
  | .tup vs => vs.all PV.plain2
  | v => v.plain2

section
variable {P : Program} {w w' : World} {K K' : KMap} {U U' : Key → Prop} {F F' : Nat → Prop}

theorem PV.plain1_rel {p : PV} {v : Value} (h : p.plain1 = true) (hr : Rel w K U F p v) : Rel w' K' U' F' p v := by
  cases hr with
  | any => exact .any _
  | bool => exact .bool _
  | int => exact .int _ _
  | str => exact .str _
  | nilPtr => exact .nilPtr
  | nilMap => exact .nilMap
  | nilFunc => exact .nilFunc
  | inil cap a c hc ha => exact .inil _ _ _ hc ha
  | islice cap elems r o sz cp c e fr hne =>
    cases elems with
    | nil => exact absurd rfl hne
    | cons x l => cases h
  | _ => cases h

theorem PV.plain2_rel {p : PV} {v : Value} (h : p.plain2 = true) (hr : Rel w K U F p v) : Rel w' K' U' F' p v := by
  cases p with
  | agg cs =>
    cases hr with
    | agg _ a ha hh => exact .agg _ _ ha fun i hi => PV.plain1_rel (List.all_eq_true.1 h _ (List.getElem_mem hi)) (hh i hi)
  | _ => exact PV.plain1_rel h hr

theorem PV.plain_rel {p : PV} {v : Value} (h : p.plain = true) (hr : Rel w K U F p v) : Rel w' K' U' F' p v := by
  cases p with
  | tup cs =>
    cases hr with
    | tup _ a ha hh => exact .tup _ _ ha fun i hi => PV.plain2_rel (List.all_eq_true.1 h _ (List.getElem_mem hi)) (hh i hi)
  | _ => exact PV.plain2_rel h hr

/-- Rows may be lent to a function that only reads, and hands back nothing that leads to memory. -/
theorem Runs.borrow {A : Key} {f : FuncId} {ps ps' : List PV} {v : PV} (fs : St) (h : Runs P A f ps [] v []) (hle : VLeL fs (fun _ => False) ps' ps) (hv : v.plain = true) : Runs P A f ps' fs v [] := by
  refine ⟨h.1, fun x hx => (by cases hx), fun w K U F T vs hs hsub hl hA => ?_⟩
  let F' : Nat → Prop := fun r => F r ∨ ∃ k ob, K k = some (some r, ob) ∧ St.find fs k = none
  let K' : KMap := fun _ => none
  have hno : ∀ r, ¬ own K' r := by rintro r ⟨k, ob, hk⟩; cases hk
  have hs' : Sim w K' U F' [] := .of_holds (fun k => rfl) (fun k x hk => (by cases hk)) (fun k k' r ob ob' h => (by cases h)) (fun r ho => absurd ho (hno r))
    (fun r hr => by
      rcases hr with hr | ⟨k, ob, hk, _⟩
      · exact hs.fdom r hr
      · exact hs.lt hk) (fun k ro ob hk => by cases hk)
  have st : Step w K U F w K' U F' := ⟨fun _ h => h, fun r c e fr hb hf hk => ⟨hb, fun hF => hF.elim hf fun ⟨k, ob, h1, _⟩ => hk ⟨k, ob, h1⟩, hno r⟩, fun k sz es' hu hk => (by cases hk), fun k r sz es' hu hk => (by cases hk), fun k r es' hu hk => (by cases hk)⟩
  have hl' : LRel w K' U F' ps vs := by
    refine ⟨by rw [← hl.1, hle.1], fun i hi => ?_⟩
    have hi' : i < ps'.length := by rw [hle.1]; exact hi
    refine VLe.rel hs hsub st (fun g hg => hg.elim) (fun k r ob hf hk => ⟨hno r, fun hF => ?_⟩) (hle.2 i hi' hi) _ (hl.2 i hi')
    rcases hF with hF | ⟨k2, ob2, h2, h3⟩
    · exact hs.foreign r ⟨k, ob, hk⟩ hF
    · have := hs.inj _ _ _ _ _ hk h2
      subst this
      exact hf h3
  refine (h.2.2 w K' U F' [] vs hs' (Sub.nil _) hl' hA).mono fun e w' hh => ?_
  obtain ⟨u, K2, U2, T2, rfl, hD⟩ := hh
  have hblk : ∀ r, r < w.heap.size → w'.heap[r]? = w.heap[r]? := fun r hr => hD.after.fr.block r hr (hno r)
  have hstep : Step w K U F w' K U2 F := by
    refine ⟨fun k hk => hD.after.step.used k hk, fun r c e fr hb hf hk => ⟨(hblk r (Array.getElem?_eq_some_iff.1 hb).1).trans hb, hf, hk⟩, fun k sz es' hu hk => ⟨es', hk, rfl⟩, fun k r sz es' hu hk => ⟨some r, es', hk, Nat.le_refl _, fun _ => ⟨rfl, fun c' e fr hc => ⟨c', e, fr, ?_, Nat.le_refl _⟩⟩⟩, fun k r es' hu hk => ⟨es', hk⟩⟩
    rw [← hblk r (hs.lt hk)]
    exact hc
  refine ⟨u, K, U2, T, rfl, ⟨⟨PV.plain_rel hv hD.after.rel, ?_, hstep, ?_, hD.after.used⟩, hsub, fun k ob hk _ => hk⟩⟩
  · refine .of_holds hs.key (fun k x hk => hstep.used k (hs.used k x hk)) hs.inj hs.foreign (fun r hr => Nat.lt_of_lt_of_le (hs.fdom r hr) hD.after.fr.size) (fun k ro ob hk => (hs.holds hk).mono hstep fun r hr => ?_)
    subst hr
    exact hblk r (hs.lt hk)
  · exact ⟨hD.after.fr.os, hD.after.fr.tape, hD.after.fr.output, hD.after.fr.size, fun r hr _ => hblk r hr, fun r ho => .inl ho⟩

/-- A first argument that may be empty: nil, or not. -/
theorem Runs.nilcase {A : Key} {f : FuncId} {l ps : List PV} {S : St} {v : PV} {ups : Ups} (h1 : l ≠ [] → Runs P A f (.islice none l :: ps) S v ups) (h2 : l = [] → ∀ a c, Runs P A f (.val (.slice a 0 c) :: ps) S v ups) : Runs P A f (.islice none l :: ps) S v ups := by
  by_cases hl : l = []
  · subst hl
    have h3 := h2 rfl
    refine ⟨(h3 none 0).1, (h3 none 0).2.1, fun w K U F T vs hs hsub hr hA => ?_⟩
    obtain ⟨hsz, hr⟩ := hr
    have h0 := hr 0 (by simp)
    simp only [List.getElem_cons_zero] at h0
    obtain ⟨a, c, he⟩ : ∃ a c, vs.getD 0 undef = .slice a 0 c := by
      generalize vs.getD 0 undef = x at h0
      cases h0 with
      | inil _ a c _ _ => exact ⟨a, c, rfl⟩
      | islice _ _ _ _ _ _ _ _ _ hne => exact absurd rfl hne
    refine (h3 a c).2.2 w K U F T vs hs hsub ⟨by simpa using hsz, fun i hi => ?_⟩ hA
    match i with
    | 0 =>
      simp only [List.getElem_cons_zero, he]
      exact .val _
    | i + 1 => exact hr (i + 1) (by simpa using hi)
  · exact h1 hl

/-- Arguments told more weakly. -/
theorem Runs.args {A : Key} {f : FuncId} {ps ps' : List PV} {S : St} {v : PV} {ups : Ups} (h : Runs P A f ps S v ups) (hle : VLeL [] (fun _ => False) ps' ps) : Runs P A f ps' S v ups := by
  refine ⟨h.1, h.2.1, fun w K U F T vs hs hsub hl hA => h.2.2 w K U F T vs hs hsub ⟨by rw [← hl.1, hle.1], fun i hi => ?_⟩ hA⟩
  have hi' : i < ps'.length := by rw [hle.1]; exact hi
  have st : Step w K U F w K U F := ⟨fun _ h => h, fun r c e fr hb hf hk => ⟨hb, hf, hk⟩, fun k sz es' hu hk => ⟨es', hk, rfl⟩, fun k r sz es' hu hk => ⟨some r, es', hk, Nat.le_refl _, fun _ => ⟨rfl, fun c' e fr hc => ⟨c', e, fr, hc, Nat.le_refl _⟩⟩⟩, fun k r es' hu hk => ⟨es', hk⟩⟩
  exact VLe.rel hs (Sub.nil _) st (fun g hg => hg.elim) (fun k r ob hf hk => absurd rfl hf) (hle.2 i hi' hi) _ (hl.2 i hi')

end
end Go.Pv

set_option linter.unusedVariables false
set_option linter.unusedSimpArgs false
namespace Go.Pv
open Go

section
variable {P : Program} {A : Key} {s : PS} {fs : St} {gs : Key → Prop}

theorem VLeL.set {l l' : List PV} {a : Nat} {v : PV} (h : VLeL fs gs l l') (hv : VLe fs gs (l.getD a .undef) v) : VLeL fs gs l (l'.set a v) := by
  refine ⟨by simp [h.1], fun i h1 h2 => ?_⟩
  rw [List.getElem_set]
  split
  · rename_i e
    subst e
    simpa [List.getD_eq_getElem?_getD, h1] using hv
  · exact h.2 i h1 (by rw [← h.1]; exact h1)

theorem PLe.retell (env' : Env) (hS : Sub fs s.st) (h : VLeL fs (fun _ => False) s.env env') : PLe A s ⟨env', [], s.act, s.n⟩ :=
  PLe.tellRet (env := s.env) (st := s.st) (st' := []) fs hS (fun x hx => (by cases hx)) h

/-- The results told anew, at a function's end (nothing done to the caller's memory). -/
theorem endP_tell1 {a : Tmp} {v : PV} {e : Exit} (he : e = .ret ∨ e = .normal) (fs : St) (hS : Sub fs s.st) (ha : a < s.env.length) (hv : VLe fs (fun _ => False) (s.env.getD a .undef) v) : endP P A [.tmp a] [] [] v e s := by
  have h1 := PLe.retell (A := A) (s.env.set a v) hS (VLeL.set (VLeL.refl _) hv)
  have h2 : presultOf P [.tmp a] (⟨s.env.set a v, [], s.act, s.n⟩ : PS) = some v := by
    simp [presultOf, presults, presult1, ha]
  rcases he with rfl | rfl
  · exact endP_ret h1 h2 (Sub.nil _)
  · exact endP_normal h1 h2 (Sub.nil _)

theorem endP_tell2 {a b : Tmp} {v u : PV} {e : Exit} (he : e = .ret ∨ e = .normal) (fs : St) (hS : Sub fs s.st) (hab : a ≠ b) (ha : a < s.env.length) (hb : b < s.env.length) (hv : VLe fs (fun _ => False) (s.env.getD a .undef) v) (hu : VLe fs (fun _ => False) (s.env.getD b .undef) u) :
    endP P A [.tmp a, .tmp b] [] [] (.tup [v, u]) e s := by
  have h1 := PLe.retell (A := A) ((s.env.set a v).set b u) hS (VLeL.set (VLeL.set (VLeL.refl _) hv) hu)
  have h2 : presultOf P [.tmp a, .tmp b] (⟨(s.env.set a v).set b u, [], s.act, s.n⟩ : PS) = some (.tup [v, u]) := by
    simp [presultOf, presults, presult1, ha, hb, List.getElem?_set, Ne.symm hab]
  rcases he with rfl | rfl
  · exact endP_ret h1 h2 (Sub.nil _)
  · exact endP_normal h1 h2 (Sub.nil _)

/-- An empty slice handed back as a row without memory. -/
theorem endP_ghost {a : Tmp} {e : Exit} (he : e = .ret ∨ e = .normal) (m sz : Nat) (hn : s.n ≤ m) (ha : a < s.env.length) (hv : s.env.getD a .undef = .islice (some 0) []) : endP P A [.tmp a] [] [(m :: s.act, some (.row sz []))] (.slice (m :: s.act) 0) e s := by
  have h1 : PLe A s ⟨s.env.set a (.slice (m :: s.act) 0), [(m :: s.act, .row sz [])], s.act, m + 1⟩ := by
    refine PLe.tell [] rfl (by show s.n ≤ m + 1; omega) (Sub.nil _) (fun x hx => ?_) (VLeL.set (VLeL.refl _) ?_)
    · rw [List.mem_singleton.1 hx]
      exact ⟨rfl, .inr ⟨m, sz, rfl, hn, by show m < m + 1; omega, rfl⟩⟩
    · rw [hv]
      exact .ghost _ ⟨m, rfl, hn, by show m < m + 1; omega⟩
  have h2 : presultOf P [.tmp a] (⟨s.env.set a (.slice (m :: s.act) 0), [(m :: s.act, .row sz [])], s.act, m + 1⟩ : PS) = some (.slice (m :: s.act) 0) := by
    simp [presultOf, presults, presult1, ha]
  rcases he with rfl | rfl
  · exact endP_ret h1 h2 (Sub.refl _)
  · exact endP_normal h1 h2 (Sub.refl _)
end
/-- Rows told anew, one by one. -/
def StLe (fs st : St) : St → Prop
  | [] => True
  | (k, ob') :: r => (St.find fs k = none ∧ ∃ ob, St.find st k = some ob ∧ ObLe fs (fun _ => False) ob ob') ∧ StLe fs st r

theorem StLe.all {fs st : St} : ∀ {st' : St}, StLe fs st st' → ∀ x ∈ st', St.find fs x.1 = none ∧ ∃ ob, St.find st x.1 = some ob ∧ ObLe fs (fun _ => False) ob x.2
  | [], _, x, hx => by cases hx
  | (k, ob') :: r, h, x, hx => by
    rcases List.mem_cons.1 hx with rfl | hx
    · exact h.1
    · exact h.2.all x hx
theorem StLe.nil {fs st : St} : StLe fs st [] := trivial
theorem StLe.cons {fs st st' : St} {k : Key} {ob ob' : Ob} (h1 : St.find fs k = none) (h2 : St.find st k = some ob) (h3 : ObLe fs (fun _ => False) ob ob') (h4 : StLe fs st st') : StLe fs st ((k, ob') :: st') := ⟨⟨h1, ob, h2, h3⟩, h4⟩

theorem endP_mem {P : Program} {A : Key} {s : PS} {rs : List ResultVar} {S : St} {ups : Ups} {v : PV} {e : Exit} (he : e = .ret ∨ e = .normal) (fs st' : St) (hfs : Sub fs s.st) (hst : StLe fs s.st st') (hres : presultOf P rs ⟨s.env, st', s.act, s.n⟩ = some v) (hsub : Sub (St.apply S ups) st') : endP P A rs S ups v e s := by
  have h1 : PLe A s ⟨s.env, st', s.act, s.n⟩ := PLe.tellRet (env := s.env) (st := s.st) fs hfs hst.all (VLeL.refl _)
  rcases he with rfl | rfl
  · exact endP_ret h1 hres hsub
  · exact endP_normal h1 hres hsub
theorem ObLe.of_eq {fs : St} {gs : Key → Prop} {o o' : Ob} (h : o = o') : ObLe fs gs o o' := by subst h; exact .refl _
/-- Rows told anew at a loop's beginning, with rows without memory. -/
def StLeG (fs st : St) (act : Key) (n m : Nat) : St → Prop
  | [] => True
  | (k, ob') :: r => (St.find fs k = none ∧ ((∃ ob, St.find st k = some ob ∧ ObLe fs (fun g => ∃ i, g = i :: act ∧ n ≤ i ∧ i < m) ob ob') ∨ (∃ i sz, k = i :: act ∧ n ≤ i ∧ i < m ∧ ob' = .row sz []))) ∧ StLeG fs st act n m r
theorem StLeG.all {fs st : St} {act : Key} {n m : Nat} : ∀ {st' : St}, StLeG fs st act n m st' → ∀ x ∈ st', St.find fs x.1 = none ∧ ((∃ ob, St.find st x.1 = some ob ∧ ObLe fs (fun g => ∃ i, g = i :: act ∧ n ≤ i ∧ i < m) ob x.2) ∨ (∃ i sz, x.1 = i :: act ∧ n ≤ i ∧ i < m ∧ x.2 = .row sz []))
  | [], _, x, hx => by cases hx
  | (k, ob') :: r, h, x, hx => by
    rcases List.mem_cons.1 hx with rfl | hx
    · exact h.1
    · exact h.2.all x hx
theorem StLeG.nil {fs st : St} {act : Key} {n m : Nat} : StLeG fs st act n m [] := trivial
theorem StLeG.old {fs st st' : St} {act : Key} {n m : Nat} {k : Key} {ob ob' : Ob} (h1 : St.find fs k = none) (h2 : St.find st k = some ob) (h3 : ObLe fs (fun g => ∃ i, g = i :: act ∧ n ≤ i ∧ i < m) ob ob') (h4 : StLeG fs st act n m st') : StLeG fs st act n m ((k, ob') :: st') := ⟨⟨h1, .inl ⟨ob, h2, h3⟩⟩, h4⟩
theorem StLeG.new {fs st st' : St} {act : Key} {n m i sz : Nat} (h1 : St.find fs (i :: act) = none) (h2 : n ≤ i) (h3 : i < m) (h4 : StLeG fs st act n m st') : StLeG fs st act n m ((i :: act, .row sz []) :: st') := ⟨⟨h1, .inr ⟨i, sz, rfl, h2, h3, rfl⟩⟩, h4⟩
theorem PLe.tellInG {root : Key} {env env' : Env} {st st' : St} {act : Key} {n m : Nat} (fs : St) (hn : n ≤ m) (hfs : Sub fs st) (hst : StLeG fs st act n m st')
    (henv : VLeL fs (fun g => ∃ i, g = i :: act ∧ n ≤ i ∧ i < m) env env') : PLe root ⟨env, st, act, n⟩ ⟨env', st', 0 :: m :: act, 0⟩ := PLe.tellIn fs hn hfs hst.all henv
theorem PLe.tellNextG {root : Key} {env env' : Env} {st st' : St} {act pre : Key} {N n : Nat} (fs : St) (hr : root <:+ act) (hfs : Sub fs st) (hst : StLe fs st st')
    (henv : VLeL fs (fun g => False) env env') : PLe root ⟨env, st, pre ++ N :: act, n⟩ ⟨env', st', (N + 1) :: act, 0⟩ := PLe.tellNext fs hr hfs hst.all henv
theorem PLe.tellRetG {root : Key} {env env' : Env} {st st' : St} {act : Key} {n : Nat} (fs : St) (hfs : Sub fs st) (hst : StLe fs st st')
    (henv : VLeL fs (fun g => False) env env') : PLe root ⟨env, st, act, n⟩ ⟨env', st', act, n⟩ := PLe.tellRet fs hfs hst.all henv
theorem VLe.ghost1 {fs : St} {act : Key} {n m i : Nat} (h1 : n ≤ i) (h2 : i < m) : VLe fs (fun g => ∃ i, g = i :: act ∧ n ≤ i ∧ i < m) (.islice (some 0) []) (.slice (i :: act) 0) := .ghost _ ⟨i, rfl, h1, h2⟩
theorem St.find_hd (k : Key) (ob : Ob) (S : St) : St.find ((k, ob) :: S) k = some ob := by simp [St.find]
theorem St.find_tl {k k' : Key} {ob ob' : Ob} {S : St} (hne : k' ≠ k) (h : St.find S k = some ob) : St.find ((k', ob') :: S) k = some ob := by simp [St.find, hne, h]
theorem ELe.append {fs : St} {gs : Key → Prop} {a a' b b' : List PV} (h : ELe fs gs a a') (k : ELe fs gs b b') : ELe fs gs (a ++ b) (a' ++ b') := by
  induction a generalizing a' with
  | nil =>
    have : a' = [] := List.eq_nil_of_length_eq_zero h.1
    subst this
    exact k
  | cons x a ih =>
    cases a' with
    | nil => simp [ELe] at h
    | cons x' a' =>
      have h2 : ELe fs gs a a' := ⟨Nat.succ.inj h.1, fun i p q => h.2.1 (i + 1) (Nat.succ_lt_succ p) (Nat.succ_lt_succ q), fun i m p q r s => h.2.2 (i + 1) m (Nat.succ_lt_succ p) (Nat.succ_lt_succ q) r s⟩
      exact ELe.cons (h.2.1 0 (Nat.succ_pos _) (Nat.succ_pos _)) ⟨(h.2.1 0 (Nat.succ_pos _) (Nat.succ_pos _)).symm, fun i p q => h.2.2 0 i (Nat.succ_pos _) (Nat.succ_pos _) p q⟩ (ih h2)
theorem ELe.one {fs : St} {gs : Key → Prop} {p q : PV} (h1 : q.cells.length = p.cells.length) (h2 : VLeL fs gs p.cells q.cells) : ELe fs gs [p] [q] := ELe.cons h1 h2 ELe.nil
theorem Sub.find {S T : St} (h : Sub S T) {k : Key} {ob : Ob} (hk : St.find S k = some ob) : St.find T k = some ob := h k ob hk
theorem Sub.cons {k : Key} {ob : Ob} {S T : St} (h1 : St.find T k = some ob) (h2 : Sub S T) : Sub ((k, ob) :: S) T := by
  intro k' ob' h
  simp only [St.find] at h
  split at h
  · rename_i e; subst e; cases h; exact h1
  · exact h2 _ _ h
@[simp] theorem suf1 (A : Key) (a : Nat) : A <:+ a :: A := ⟨[a], rfl⟩
@[simp] theorem suf2 (A : Key) (a b : Nat) : A <:+ a :: b :: A := ⟨[a, b], rfl⟩
@[simp] theorem suf3 (A : Key) (a b c : Nat) : A <:+ a :: b :: c :: A := ⟨[a, b, c], rfl⟩
@[simp] theorem suf4 (A : Key) (a b c d : Nat) : A <:+ a :: b :: c :: d :: A := ⟨[a, b, c, d], rfl⟩
@[simp] theorem suf5 (A : Key) (a b c d e : Nat) : A <:+ a :: b :: c :: d :: e :: A := ⟨[a, b, c, d, e], rfl⟩
attribute [simp] PV.one
end Go.Pv

set_option linter.unusedVariables false
namespace Go.Pv
open Go

/-- What is told of the store when a function begins bears no key of its own. -/
theorem Runs.fresh {P : Program} {A : Key} {f : FuncId} {ps : List PV} {S : St} {v : PV} {ups : Ups} (hent : enters P f = true) (hups : ∀ x ∈ ups, A <:+ x.1 ∨ ∃ ob, St.find S x.1 = some ob)
    (h : (∀ k ob, St.find S k = some ob → ¬ A <:+ k) → Runs P A f ps S v ups) : Runs P A f ps S v ups := by
  refine ⟨hent, hups, fun w K U F T vs hs hsub hl hA => ?_⟩
  refine (h fun k ob hk hsuf => ?_).2.2 w K U F T vs hs hsub hl hA
  obtain ⟨ro, hK⟩ := find_of_K hs (hsub _ _ hk)
  obtain ⟨l, rfl⟩ := hsuf
  exact hA l (hs.used _ _ hK)

theorem fresh1 {A k : Key} (h : ¬ A <:+ k) : ∀ a, k ≠ a :: A := fun a e => h (by subst e; exact ⟨[a], rfl⟩)
theorem fresh1' {A k : Key} (h : ¬ A <:+ k) : ∀ a, a :: A ≠ k := fun a e => fresh1 h a e.symm
theorem fresh2 {A k : Key} (h : ¬ A <:+ k) : ∀ a b, k ≠ a :: b :: A := fun a b e => h (by subst e; exact ⟨[a, b], rfl⟩)
theorem fresh2' {A k : Key} (h : ¬ A <:+ k) : ∀ a b, a :: b :: A ≠ k := fun a b e => fresh2 h a b e.symm
theorem fresh3 {A k : Key} (h : ¬ A <:+ k) : ∀ a b c, k ≠ a :: b :: c :: A := fun a b c e => h (by subst e; exact ⟨[a, b, c], rfl⟩)
theorem fresh3' {A k : Key} (h : ¬ A <:+ k) : ∀ a b c, a :: b :: c :: A ≠ k := fun a b c e => fresh3 h a b c e.symm
theorem Sub.upd1 {km : Key} {o o' : Ob} {T : St} (h : St.find T km = some o') : Sub (St.apply [(km, o)] [(km, some o')]) T := by
  have e : St.apply [(km, o)] [(km, some o')] = [(km, o')] := by simp [St.apply, St.set]
  rw [e]
  exact Sub.cons h (Sub.nil _)
theorem Sub.upd2 {k0 km : Key} {o0 o o' : Ob} {T : St} (hne : k0 ≠ km) (h0 : St.find T k0 = some o0) (h : St.find T km = some o') : Sub (St.apply [(k0, o0), (km, o)] [(km, some o')]) T := by
  have e : St.apply [(k0, o0), (km, o)] [(km, some o')] = [(k0, o0), (km, o')] := by simp [St.apply, St.set, hne]
  rw [e]
  exact Sub.cons h0 (Sub.cons h (Sub.nil _))
end Go.Pv

set_option linter.unusedVariables false
set_option linter.unusedSimpArgs false
namespace Go.Pv
open Go

structure Vec where
  x : Int
  y : Int
  z : Int
  deriving DecidableEq, Inhabited
structure Mat where
  m0 : Int
  m1 : Int
  m2 : Int
  m3 : Int
  m4 : Int
  m5 : Int
  m6 : Int
  m7 : Int
  m8 : Int
  t : Vec
  deriving DecidableEq, Inhabited
structure Color where
  r : Int
  g : Int
  b : Int
  a : Int
  deriving DecidableEq, Inhabited
structure Look where
  color : Color
  texture : Int
  cull : Int
  bias : Int
  blend : Bool
  bin : Int
  deriving DecidableEq, Inhabited
structure Style where
  s0 : Int
  s1 : Int
  s2 : Int
  s3 : Int
  s4 : Int
  look : Look
  deriving DecidableEq, Inhabited
structure Node where
  kind : Int
  mat : Mat
  on : Int
  center : Vec
  far : List Int
  mesh : Int
  style : Style
  deriving DecidableEq, Inhabited
structure Handle where
  slot : Int
  gen : Int
  deriving DecidableEq, Inhabited
structure Slot where
  gen : Int
  live : Bool
  deriving DecidableEq, Inhabited
structure Graph where
  slots : List Slot
  kids : List (List Handle)
  deriving DecidableEq, Inhabited
structure UV where
  u : Int
  v : Int
  deriving DecidableEq, Inhabited
structure Prim where
  kind : Int
  index : List Int
  deriving DecidableEq, Inhabited
structure Mesh where
  verts : List Vec
  uv : List UV
  prims : List Prim
  deriving DecidableEq, Inhabited
structure Texture where
  w : Int
  h : Int
  texels : List Color
  deriving DecidableEq, Inhabited
structure Scene where
  graph : Graph
  nodes : List Node
  meshes : List Mesh
  textures : List Texture
  root : Handle
  deriving DecidableEq, Inhabited
structure Edit where
  kind : Int
  h : Handle
  c : Handle
  at_ : Int
  node : Node
  mesh : Mesh
  texture : Texture
  deriving DecidableEq, Inhabited
structure Took where
  h : Handle
  n : Int
  deriving DecidableEq, Inhabited

def Vec.cs (v : Vec) : List PV := [.int .i64 v.x, .int .i64 v.y, .int .i64 v.z]
def Vec.pv (v : Vec) : PV := .agg v.cs
def Mat.cs (m : Mat) : List PV := [.int .i64 m.m0, .int .i64 m.m1, .int .i64 m.m2, .int .i64 m.m3, .int .i64 m.m4, .int .i64 m.m5, .int .i64 m.m6, .int .i64 m.m7, .int .i64 m.m8, .int .i64 m.t.x, .int .i64 m.t.y, .int .i64 m.t.z]
def Mat.pv (m : Mat) : PV := .agg m.cs
def Color.cs (c : Color) : List PV := [.int .u8 c.r, .int .u8 c.g, .int .u8 c.b, .int .u8 c.a]
def Color.pv (c : Color) : PV := .agg c.cs
def Look.cs (l : Look) : List PV := [.int .u8 l.color.r, .int .u8 l.color.g, .int .u8 l.color.b, .int .u8 l.color.a, .int .i64 l.texture, .int .u8 l.cull, .int .i64 l.bias, .bool l.blend, .int .i64 l.bin]
def Look.pv (l : Look) : PV := .agg l.cs
def Style.cs (s : Style) : List PV := [.int .u8 s.s0, .int .u8 s.s1, .int .u8 s.s2, .int .u8 s.s3, .int .u8 s.s4] ++ s.look.cs
def Style.pv (s : Style) : PV := .agg s.cs
def intsPv (l : List Int) : PV := .islice none (l.map (PV.int .i64))
def Node.cs (n : Node) : List PV := [.int .u8 n.kind] ++ n.mat.cs ++ [.int .u16 n.on] ++ n.center.cs ++ [intsPv n.far, .int .i64 n.mesh] ++ n.style.cs
def Node.pv (n : Node) : PV := .agg n.cs
def Handle.cs (h : Handle) : List PV := [.int .i64 h.slot, .int .i64 h.gen]
def Handle.pv (h : Handle) : PV := .agg h.cs
def Slot.cs (s : Slot) : List PV := [.int .i64 s.gen, .bool s.live]
def Slot.pv (s : Slot) : PV := .agg s.cs
def slotsPv (l : List Slot) : PV := .islice none (l.map Slot.pv)
def arenaPv (l : List Slot) : PV := .agg [slotsPv l]
def handlesPv (l : List Handle) : PV := .islice none (l.map Handle.pv)
def kidsPv (l : List (List Handle)) : PV := .islice none (l.map handlesPv)
def Graph.cs (g : Graph) : List PV := [slotsPv g.slots, kidsPv g.kids]
def Graph.pv (g : Graph) : PV := .agg g.cs
def UV.cs (u : UV) : List PV := [.int .i64 u.u, .int .i64 u.v]
def UV.pv (u : UV) : PV := .agg u.cs
def Prim.cs (p : Prim) : List PV := [.int .u8 p.kind, intsPv p.index]
def Prim.pv (p : Prim) : PV := .agg p.cs
def vecsPv (l : List Vec) : PV := .islice none (l.map Vec.pv)
def uvsPv (l : List UV) : PV := .islice none (l.map UV.pv)
def primsPv (l : List Prim) : PV := .islice none (l.map Prim.pv)
def Mesh.cs (m : Mesh) : List PV := [vecsPv m.verts, uvsPv m.uv, primsPv m.prims]
def Mesh.pv (m : Mesh) : PV := .agg m.cs
def colorsPv (l : List Color) : PV := .islice none (l.map Color.pv)
def Texture.cs (t : Texture) : List PV := [.int .i64 t.w, .int .i64 t.h, colorsPv t.texels]
def Texture.pv (t : Texture) : PV := .agg t.cs
def nodesPv (l : List Node) : PV := .islice none (l.map Node.pv)
def meshesPv (l : List Mesh) : PV := .islice none (l.map Mesh.pv)
def texturesPv (l : List Texture) : PV := .islice none (l.map Texture.pv)
def Scene.cs (s : Scene) : List PV := s.graph.cs ++ [nodesPv s.nodes, meshesPv s.meshes, texturesPv s.textures] ++ s.root.cs
def Scene.pv (s : Scene) : PV := .agg s.cs
def Edit.cs (e : Edit) : List PV := [.int .u8 e.kind] ++ e.h.cs ++ e.c.cs ++ [.int .i64 e.at_] ++ e.node.cs ++ e.mesh.cs ++ e.texture.cs
def Edit.pv (e : Edit) : PV := .agg e.cs
def Took.cs (t : Took) : List PV := t.h.cs ++ [.int .i64 t.n]
def Took.pv (t : Took) : PV := .agg t.cs

attribute [simp] Vec.cs Vec.pv Mat.cs Mat.pv Color.cs Color.pv Look.cs Look.pv Style.cs Style.pv intsPv Node.cs Node.pv Handle.cs Handle.pv Slot.cs Slot.pv slotsPv arenaPv handlesPv kidsPv Graph.cs Graph.pv UV.cs UV.pv Prim.cs Prim.pv vecsPv uvsPv primsPv Mesh.cs Mesh.pv colorsPv Texture.cs Texture.pv nodesPv meshesPv texturesPv Scene.cs Scene.pv Edit.cs Edit.pv Took.cs Took.pv

def idxF {α : Type} (p : α → Bool) (l : List α) : Int := match l.findIdx? p with | some i => i | none => -1

theorem idxF_hit {α : Type} {p : α → Bool} {l : List α} {i : Nat} (h : i < l.length) (hp : ∀ j, (h : j < l.length) → j < i → p l[j] = false) (hb : p l[i] = true) : idxF p l = i := by
  unfold idxF
  have : l.findIdx? p = some i := by
    rw [List.findIdx?_eq_some_iff_getElem]
    exact ⟨h, hb, fun j hj => by simp [hp j (by omega) hj]⟩
  rw [this]
theorem idxF_miss {α : Type} {p : α → Bool} {l : List α} (hp : ∀ j, (h : j < l.length) → p l[j] = false) : idxF p l = -1 := by
  unfold idxF
  have : l.findIdx? p = none := by
    rw [List.findIdx?_eq_none_iff]
    intro x hx
    obtain ⟨i, hi, rfl⟩ := List.getElem_of_mem hx
    simp [hp i hi]
  rw [this]
theorem idxF_any {α : Type} (p : α → Bool) (l : List α) : (decide (0 ≤ idxF p l)) = l.any p := by
  unfold idxF
  cases h : l.findIdx? p with
  | none =>
    rw [List.findIdx?_eq_none_iff] at h
    have : l.any p = false := by simpa using h
    simp [this]
  | some i =>
    obtain ⟨hi, hb, _⟩ := List.findIdx?_eq_some_iff_getElem.1 h
    have : l.any p = true := List.any_eq_true.2 ⟨_, List.getElem_mem hi, hb⟩
    simp [this]
theorem all_hit {α : Type} {p : α → Bool} {l : List α} {i : Nat} (h : i < l.length) (hb : p l[i] = false) : l.all p = false := by
  cases ha : l.all p with
  | false => rfl
  | true => have := List.all_eq_true.1 ha _ (List.getElem_mem h); rw [hb] at this; cases this
theorem all_miss {α : Type} {p : α → Bool} {l : List α} (hp : ∀ j, (h : j < l.length) → p l[j] = true) : l.all p = true := by
  rw [List.all_eq_true]
  intro x hx
  obtain ⟨i, hi, rfl⟩ := List.getElem_of_mem hx
  exact hp i hi
theorem upto_succ {l : Nat} {q : (j : Nat) → j < l → Prop} {i : Nat} (hp : ∀ j, (h : j < l) → j < i → q j h) (hi : i < l) (h : q i hi) : ∀ j, (h : j < l) → j < i + 1 → q j h := by
  intro j hj hlt
  by_cases e : j = i
  · subst e; exact h
  · exact hp j hj (by omega)
theorem Sub.one {k : Key} {ob : Ob} {S : St} (h : St.find S k = some ob) : Sub [(k, ob)] S := by
  intro k' ob' h'
  simp only [St.find] at h'
  split at h'
  · rename_i e; subst e; cases h'; exact h
  · cases h'
@[simp] theorem wrap_lit (n : Nat) (h : n < 4611686018427387904) : IntKind.i64.wrap (no_index (OfNat.ofNat n)) = (OfNat.ofNat n : Int) := wrap_in _ (by
  show -9223372036854775808 ≤ ((n : Nat) : Int) ∧ ((n : Nat) : Int) ≤ 9223372036854775807
  omega)
theorem VLe.of_eq {fs : St} {gs : Key → Prop} {p q : PV} (h : p = q) : VLe fs gs p q := by subst h; exact .refl _
end Go.Pv

namespace Go.Pv

theorem Vec.eq_iff (x y : Vec) : x = y ↔ x.x = y.x ∧ x.y = y.y ∧ x.z = y.z := by cases x; cases y; simp
theorem Mat.eq_iff (x y : Mat) : x = y ↔ x.m0 = y.m0 ∧ x.m1 = y.m1 ∧ x.m2 = y.m2 ∧ x.m3 = y.m3 ∧ x.m4 = y.m4 ∧ x.m5 = y.m5 ∧ x.m6 = y.m6 ∧ x.m7 = y.m7 ∧ x.m8 = y.m8 ∧ x.t = y.t := by cases x; cases y; simp
theorem Handle.eq_iff (x y : Handle) : x = y ↔ x.slot = y.slot ∧ x.gen = y.gen := by cases x; cases y; simp
theorem Slot.eq_iff (x y : Slot) : x = y ↔ x.gen = y.gen ∧ x.live = y.live := by cases x; cases y; simp
theorem Color.eq_iff (x y : Color) : x = y ↔ x.r = y.r ∧ x.g = y.g ∧ x.b = y.b ∧ x.a = y.a := by cases x; cases y; simp
theorem Look.eq_iff (x y : Look) : x = y ↔ x.color = y.color ∧ x.texture = y.texture ∧ x.cull = y.cull ∧ x.bias = y.bias ∧ x.blend = y.blend ∧ x.bin = y.bin := by cases x; cases y; simp
theorem Style.eq_iff (x y : Style) : x = y ↔ x.s0 = y.s0 ∧ x.s1 = y.s1 ∧ x.s2 = y.s2 ∧ x.s3 = y.s3 ∧ x.s4 = y.s4 ∧ x.look = y.look := by cases x; cases y; simp
theorem Node.eq_iff (x y : Node) : x = y ↔ x.kind = y.kind ∧ x.mat = y.mat ∧ x.on = y.on ∧ x.center = y.center ∧ x.far = y.far ∧ x.mesh = y.mesh ∧ x.style = y.style := by cases x; cases y; simp

@[simp] theorem vecEq (x y : Vec) : (decide (x.x = y.x) && (decide (x.y = y.y) && decide (x.z = y.z))) = decide (x = y) := by
  rw [Bool.eq_iff_iff]; simp [Vec.eq_iff]
@[simp] theorem handleEq (x y : Handle) : (decide (x.slot = y.slot) && decide (x.gen = y.gen)) = decide (x = y) := by
  rw [Bool.eq_iff_iff]; simp [Handle.eq_iff]
@[simp] theorem slotEq (x y : Slot) : (decide (x.gen = y.gen) && x.live == y.live) = decide (x = y) := by
  rw [Bool.eq_iff_iff]; simp [Slot.eq_iff]
@[simp] theorem matEq (x y : Mat) : (decide (x.m0 = y.m0) && (decide (x.m1 = y.m1) && (decide (x.m2 = y.m2) && (decide (x.m3 = y.m3) && (decide (x.m4 = y.m4) && (decide (x.m5 = y.m5) && (decide (x.m6 = y.m6) && (decide (x.m7 = y.m7) && (decide (x.m8 = y.m8) && decide (x.t = y.t)))))))))) = decide (x = y) := by
  rw [Bool.eq_iff_iff]; simp [Mat.eq_iff]
@[simp] theorem lookEq (x y : Look) : (decide (x.color.r = y.color.r) && (decide (x.color.g = y.color.g) && (decide (x.color.b = y.color.b) && (decide (x.color.a = y.color.a) && (decide (x.texture = y.texture) && (decide (x.cull = y.cull) && (decide (x.bias = y.bias) && (x.blend == y.blend && decide (x.bin = y.bin))))))))) = decide (x = y) := by
  rw [Bool.eq_iff_iff]; simp [Look.eq_iff, Color.eq_iff, and_assoc]
@[simp] theorem styleEq (x y : Style) : (decide (x.s0 = y.s0) && (decide (x.s1 = y.s1) && (decide (x.s2 = y.s2) && (decide (x.s3 = y.s3) && (decide (x.s4 = y.s4) && decide (x.look = y.look)))))) = decide (x = y) := by
  rw [Bool.eq_iff_iff]; simp [Style.eq_iff]
end Go.Pv

set_option linter.unusedVariables false
set_option linter.unusedSimpArgs false
namespace Go.Pv

/-! ### A graph's ways -/

/-- Who is asked one by one, with a memory. -/
def anyS {σ α : Type} (step : σ → α → Bool × σ) : σ → List α → Bool × σ
  | M, [] => (false, M)
  | M, x :: xs => if (step M x).1 then (true, (step M x).2) else anyS step (step M x).2 xs

def kidsAt (kids : List (List Handle)) (h : Handle) : List Handle := kids.getD h.slot.toNat []

/-- The search from h for 'to'; M: who was met. -/
def dfs (kids : List (List Handle)) (to : Handle) : Nat → List Handle → Handle → Bool × List Handle
  | 0, M, _ => (false, M)
  | f + 1, M, h => if h = to then (true, M) else if h ∈ M then (false, M) else anyS (dfs kids to f) (M ++ [h]) (kidsAt kids h)

inductive Reach (kids : List (List Handle)) : Handle → Handle → Prop
  | refl (h : Handle) : Reach kids h h
  | step {h c x : Handle} (hc : c ∈ kidsAt kids h) (hr : Reach kids c x) : Reach kids h x

theorem Reach.trans {kids : List (List Handle)} {a b c : Handle} (h : Reach kids a b) (k : Reach kids b c) : Reach kids a c := by
  induction h with
  | refl => exact k
  | step hc _ ih => exact .step hc (ih k)

theorem Reach.closed {kids : List (List Handle)} {a b : Handle} (h : Reach kids a b) {p : Handle → Prop} (ha : p a) (hp : ∀ x, p x → ∀ c ∈ kidsAt kids x, p c) : p b := by
  induction h with
  | refl => exact ha
  | step hc _ ih => exact ih (hp _ ha _ hc)

theorem anyS_true {σ α : Type} {step : σ → α → Bool × σ} : ∀ {l : List α} {M : σ}, (anyS step M l).1 = true → ∃ x ∈ l, ∃ M', (step M' x).1 = true
  | [], M, h => by simp [anyS] at h
  | x :: xs, M, h => by
    simp only [anyS] at h
    split at h
    · rename_i hx; exact ⟨x, by simp, M, hx⟩
    · obtain ⟨y, h1, h2⟩ := anyS_true h
      exact ⟨y, by simp [h1], h2⟩

theorem dfs_true {kids : List (List Handle)} {to : Handle} : ∀ {f : Nat} {M : List Handle} {h : Handle}, (dfs kids to f M h).1 = true → Reach kids h to
  | 0, M, h, hh => by simp [dfs] at hh
  | f + 1, M, h, hh => by
    simp only [dfs] at hh
    split at hh
    · rename_i e; subst e; exact .refl _
    · split at hh
      · cases hh
      · obtain ⟨x, h1, M', h2⟩ := anyS_true hh
        exact .step h1 (dfs_true h2)

/-- What is known behind a search that found nothing. -/
structure Met (kids : List (List Handle)) (to : Handle) (V M M' : List Handle) : Prop where
  sub : ∀ x ∈ M, x ∈ M'
  inV : ∀ x ∈ M', x ∈ V
  nodup : M'.Nodup
  closed : ∀ x ∈ M', x ∉ M → x ≠ to ∧ ∀ c ∈ kidsAt kids x, c ∈ M'

theorem Met.refl {kids : List (List Handle)} {to : Handle} {V M : List Handle} (h1 : ∀ x ∈ M, x ∈ V) (h2 : M.Nodup) : Met kids to V M M :=
  ⟨fun _ h => h, h1, h2, fun x h h' => absurd h h'⟩

theorem Met.trans {kids : List (List Handle)} {to : Handle} {V M M' M'' : List Handle} (h : Met kids to V M M') (k : Met kids to V M' M'') : Met kids to V M M'' := by
  refine ⟨fun x hx => k.sub x (h.sub x hx), k.inV, k.nodup, fun x hx hn => ?_⟩
  by_cases hm : x ∈ M'
  · obtain ⟨h1, h2⟩ := h.closed x hm hn
    exact ⟨h1, fun c hc => k.sub c (h2 c hc)⟩
  · exact k.closed x hx hm

theorem nodup_len {V M : List Handle} (h1 : ∀ x ∈ M, x ∈ V) (h2 : M.Nodup) : M.length ≤ V.length := by
  induction M generalizing V with
  | nil => simp
  | cons x M ih =>
    have hx : x ∈ V := h1 x (by simp)
    obtain ⟨hn, h2'⟩ := List.nodup_cons.1 h2
    have := ih (V := V.erase x) (fun y hy => (List.mem_erase_of_ne (fun e => hn (by rw [← e]; exact hy))).2 (h1 y (by simp [hy]))) h2'
    rw [List.length_erase_of_mem hx] at this
    have : 0 < V.length := List.length_pos_of_mem hx
    simp only [List.length_cons]
    omega

theorem anyS_false {kids : List (List Handle)} {to : Handle} {V : List Handle} {f : Nat}
    (ih : ∀ (M : List Handle) (h : Handle), (∀ x ∈ M, x ∈ V) → M.Nodup → h ∈ V → V.length < f + M.length → (dfs kids to f M h).1 = false → Met kids to V M (dfs kids to f M h).2 ∧ h ∈ (dfs kids to f M h).2) :
    ∀ (l M : List Handle), (∀ x ∈ M, x ∈ V) → M.Nodup → (∀ x ∈ l, x ∈ V) → V.length < f + M.length → (anyS (dfs kids to f) M l).1 = false → Met kids to V M (anyS (dfs kids to f) M l).2 ∧ ∀ x ∈ l, x ∈ (anyS (dfs kids to f) M l).2
  | [], M, h1, h2, _, _, _ => ⟨.refl h1 h2, fun x hx => by cases hx⟩
  | x :: xs, M, h1, h2, h3, hf, h => by
    simp only [anyS] at h ⊢
    split at h
    · cases h
    · rename_i hx
      rw [if_neg hx]
      obtain ⟨m1, m2⟩ := ih M x h1 h2 (h3 x (by simp)) hf (by simpa using hx)
      have hle : M.length ≤ (dfs kids to f M x).2.length := nodup_len m1.sub h2
      obtain ⟨m3, m4⟩ := anyS_false ih xs _ m1.inV m1.nodup (fun y hy => h3 y (by simp [hy])) (by omega) h
      refine ⟨m1.trans m3, fun y hy => ?_⟩
      rcases List.mem_cons.1 hy with rfl | hy
      · exact m3.sub _ m2
      · exact m4 y hy

theorem dfs_false {kids : List (List Handle)} {to : Handle} {V : List Handle} (hV : ∀ x ∈ V, ∀ c ∈ kidsAt kids x, c ∈ V) :
    ∀ (f : Nat) (M : List Handle) (h : Handle), (∀ x ∈ M, x ∈ V) → M.Nodup → h ∈ V → V.length < f + M.length → (dfs kids to f M h).1 = false → Met kids to V M (dfs kids to f M h).2 ∧ h ∈ (dfs kids to f M h).2
  | 0, M, h, h1, h2, _, hf, _ => by
    have := nodup_len h1 h2
    omega
  | f + 1, M, h, h1, h2, h3, hf, hh => by
    simp only [dfs] at hh ⊢
    split at hh
    · cases hh
    · rename_i hne
      rw [if_neg hne]
      split at hh
      · rename_i hm
        rw [if_pos hm]
        exact ⟨.refl h1 h2, hm⟩
      · rename_i hm
        rw [if_neg hm]
        have e1 : ∀ x ∈ M ++ [h], x ∈ V := by
          intro x hx
          rcases List.mem_append.1 hx with hx | hx
          · exact h1 x hx
          · rw [List.mem_singleton.1 hx]; exact h3
        have e2 : (M ++ [h]).Nodup := by
          rw [List.nodup_append]
          refine ⟨h2, by simp, fun x hx y hy e => ?_⟩
          rw [List.mem_singleton.1 hy] at e
          exact hm (e ▸ hx)
        obtain ⟨m1, m2⟩ := anyS_false (dfs_false hV f) _ _ e1 e2 (hV h h3) (by simp; omega) hh
        refine ⟨⟨fun x hx => m1.sub x (by simp [hx]), m1.inV, m1.nodup, fun x hx hn => ?_⟩, m1.sub h (by simp)⟩
        by_cases e : x = h
        · subst e
          exact ⟨hne, fun c hc => m2 c hc⟩
        · exact m1.closed x hx (by simp [hn, e])

/-- **The search from several, with nobody met yet, finds 'to' just if one of them reaches it.** -/
theorem anyS_dfs {kids : List (List Handle)} {to : Handle} {V : List Handle} (hV : ∀ x ∈ V, ∀ c ∈ kidsAt kids x, c ∈ V) {f : Nat} (hf : V.length < f) {l : List Handle} (hl : ∀ x ∈ l, x ∈ V) :
    (anyS (dfs kids to f) [] l).1 = true ↔ ∃ x ∈ l, Reach kids x to := by
  constructor
  · intro h
    obtain ⟨x, h1, M, h2⟩ := anyS_true h
    exact ⟨x, h1, dfs_true h2⟩
  · rintro ⟨x, h1, h2⟩
    cases hb : (anyS (dfs kids to f) [] l).1 with
    | true => rfl
    | false =>
      obtain ⟨m1, m2⟩ := anyS_false (dfs_false hV f) l [] (fun x hx => by cases hx) List.nodup_nil hl (by simpa using hf) hb
      have hcl : ∀ y ∈ (anyS (dfs kids to f) [] l).2, ∀ c ∈ kidsAt kids y, c ∈ (anyS (dfs kids to f) [] l).2 := fun y hy => (m1.closed y hy (by simp)).2
      have := h2.closed (p := fun y => y ∈ (anyS (dfs kids to f) [] l).2) (m2 x h1) hcl
      exact absurd rfl (m1.closed to this (by simp)).1

theorem dfs_one {kids : List (List Handle)} {to : Handle} {V : List Handle} (hV : ∀ x ∈ V, ∀ c ∈ kidsAt kids x, c ∈ V) {f : Nat} (hf : V.length < f) {h : Handle} (hl : h ∈ V) :
    (dfs kids to f [] h).1 = true ↔ Reach kids h to := by
  have := anyS_dfs (to := to) hV hf (l := [h]) (fun x hx => by rw [List.mem_singleton.1 hx]; exact hl)
  simp only [anyS] at this
  have e : (if (dfs kids to f [] h).1 then (true, (dfs kids to f [] h).2) else (false, (dfs kids to f [] h).2)).1 = (dfs kids to f [] h).1 := by
    split <;> simp_all
  rw [e] at this
  rw [this]
  simp
end Go.Pv

set_option linter.unusedVariables false
set_option maxRecDepth 100000
namespace Go.Pv
open Go Go.Proofs
theorem follows_mixed : Tryz.prog.follows .mixedOrders = true := by kernel_rfl
@[simp] theorem ty0 : tyOf Tryz.prog 0 = some { agg := false, sz := 1, bytes := 0, kind := .other, zero := some (.tup []) } := by kernel_rfl
@[simp] theorem ty1 : tyOf Tryz.prog 1 = some { agg := false, sz := 1, bytes := 8, kind := .func, zero := some (.nilFunc) } := by kernel_rfl
@[simp] theorem ty2 : tyOf Tryz.prog 2 = some { agg := false, sz := 1, bytes := 8, kind := .int .i64, zero := some (.int .i64 0) } := by kernel_rfl
@[simp] theorem ty3 : tyOf Tryz.prog 3 = some { agg := false, sz := 1, bytes := 8, kind := .int .i64, zero := some (.int .i64 0) } := by kernel_rfl
@[simp] theorem ty4 : tyOf Tryz.prog 4 = some { agg := false, sz := 1, bytes := 1, kind := .bool, zero := some (.bool false) } := by kernel_rfl
@[simp] theorem ty5 : tyOf Tryz.prog 5 = some { agg := false, sz := 1, bytes := 1, kind := .int .u8, zero := some (.int .u8 0) } := by kernel_rfl
@[simp] theorem ty6 : tyOf Tryz.prog 6 = some { agg := false, sz := 1, bytes := 1, kind := .int .u8, zero := some (.int .u8 0) } := by kernel_rfl
@[simp] theorem ty7 : tyOf Tryz.prog 7 = some { agg := true, sz := 4, bytes := 24, kind := .struct [(0, 1, false), (1, 1, false), (2, 1, false), (3, 1, false)], zero := some (.agg [.int .i64 0, .int .i64 0, .bool false, .int .u8 0]) } := by kernel_rfl
@[simp] theorem ty8 : tyOf Tryz.prog 8 = some { agg := true, sz := 4, bytes := 24, kind := .struct [(0, 1, false), (1, 1, false), (2, 1, false), (3, 1, false)], zero := some (.agg [.int .i64 0, .int .i64 0, .bool false, .int .u8 0]) } := by kernel_rfl
@[simp] theorem ty9 : tyOf Tryz.prog 9 = some { agg := false, sz := 1, bytes := 16, kind := .str, zero := some (.str ⟨#[]⟩) } := by kernel_rfl
@[simp] theorem ty10 : tyOf Tryz.prog 10 = some { agg := false, sz := 1, bytes := 16, kind := .str, zero := some (.str ⟨#[]⟩) } := by kernel_rfl
@[simp] theorem ty11 : tyOf Tryz.prog 11 = some { agg := false, sz := 1, bytes := 16, kind := .str, zero := some (.str ⟨#[]⟩) } := by kernel_rfl
@[simp] theorem ty12 : tyOf Tryz.prog 12 = some { agg := false, sz := 1, bytes := 8, kind := .int .u64, zero := some (.int .u64 0) } := by kernel_rfl
@[simp] theorem ty13 : tyOf Tryz.prog 13 = some { agg := true, sz := 2, bytes := 24, kind := .struct [(0, 1, false), (1, 1, false)], zero := some (.agg [.str ⟨#[]⟩, .int .u64 0]) } := by kernel_rfl
@[simp] theorem ty14 : tyOf Tryz.prog 14 = some { agg := true, sz := 2, bytes := 24, kind := .struct [(0, 1, false), (1, 1, false)], zero := some (.agg [.str ⟨#[]⟩, .int .u64 0]) } := by kernel_rfl
@[simp] theorem ty15 : tyOf Tryz.prog 15 = some { agg := false, sz := 1, bytes := 8, kind := .ptr 441, zero := some (.nilPtr) } := by kernel_rfl
@[simp] theorem ty16 : tyOf Tryz.prog 16 = some { agg := false, sz := 1, bytes := 8, kind := .ptr 444, zero := some (.nilPtr) } := by kernel_rfl
@[simp] theorem ty17 : tyOf Tryz.prog 17 = some { agg := false, sz := 1, bytes := 8, kind := .ptr 452, zero := some (.nilPtr) } := by kernel_rfl
@[simp] theorem ty18 : tyOf Tryz.prog 18 = some { agg := true, sz := 1, bytes := 8, kind := .struct [(0, 1, false)], zero := some (.agg [.nilPtr]) } := by kernel_rfl
@[simp] theorem ty19 : tyOf Tryz.prog 19 = some { agg := true, sz := 1, bytes := 8, kind := .struct [(0, 1, false)], zero := some (.agg [.nilPtr]) } := by kernel_rfl
@[simp] theorem ty20 : tyOf Tryz.prog 20 = some { agg := false, sz := 1, bytes := 16, kind := .other, zero := some (.any) } := by kernel_rfl
@[simp] theorem ty21 : tyOf Tryz.prog 21 = some { agg := false, sz := 1, bytes := 4, kind := .int .i32, zero := some (.int .i32 0) } := by kernel_rfl
@[simp] theorem ty22 : tyOf Tryz.prog 22 = some { agg := false, sz := 1, bytes := 24, kind := .slice 2 16 80, zero := some (.islice (some 0) []) } := by kernel_rfl
@[simp] theorem ty23 : tyOf Tryz.prog 23 = some { agg := true, sz := 1, bytes := 24, kind := .struct [(0, 1, false)], zero := some (.agg [.islice (some 0) []]) } := by kernel_rfl
@[simp] theorem ty24 : tyOf Tryz.prog 24 = some { agg := true, sz := 1, bytes := 24, kind := .struct [(0, 1, false)], zero := some (.agg [.islice (some 0) []]) } := by kernel_rfl
@[simp] theorem ty25 : tyOf Tryz.prog 25 = some { agg := false, sz := 1, bytes := 24, kind := .slice 1 24 78, zero := some (.islice (some 0) []) } := by kernel_rfl
@[simp] theorem ty26 : tyOf Tryz.prog 26 = some { agg := true, sz := 2, bytes := 48, kind := .struct [(0, 1, true), (1, 1, false)], zero := some (.agg [.islice (some 0) [], .islice (some 0) []]) } := by kernel_rfl
@[simp] theorem ty27 : tyOf Tryz.prog 27 = some { agg := true, sz := 2, bytes := 48, kind := .struct [(0, 1, true), (1, 1, false)], zero := some (.agg [.islice (some 0) [], .islice (some 0) []]) } := by kernel_rfl
@[simp] theorem ty28 : tyOf Tryz.prog 28 = some { agg := false, sz := 1, bytes := 24, kind := .slice 33 224 51, zero := some (.islice (some 0) []) } := by kernel_rfl
@[simp] theorem ty29 : tyOf Tryz.prog 29 = some { agg := false, sz := 1, bytes := 24, kind := .slice 3 72 56, zero := some (.islice (some 0) []) } := by kernel_rfl
@[simp] theorem ty30 : tyOf Tryz.prog 30 = some { agg := false, sz := 1, bytes := 24, kind := .slice 3 40 59, zero := some (.islice (some 0) []) } := by kernel_rfl
@[simp] theorem ty31 : tyOf Tryz.prog 31 = some { agg := true, sz := 2, bytes := 16, kind := .struct [(0, 1, false), (1, 1, false)], zero := some (.agg [.int .i64 0, .int .i64 0]) } := by kernel_rfl
@[simp] theorem ty32 : tyOf Tryz.prog 32 = some { agg := true, sz := 2, bytes := 16, kind := .struct [(0, 1, false), (1, 1, false)], zero := some (.agg [.int .i64 0, .int .i64 0]) } := by kernel_rfl
@[simp] theorem ty33 : tyOf Tryz.prog 33 = some { agg := true, sz := 7, bytes := 136, kind := .struct [(0, 2, true), (2, 1, false), (3, 1, false), (4, 1, false), (5, 2, true)], zero := some (.agg [.islice (some 0) [], .islice (some 0) [], .islice (some 0) [], .islice (some 0) [], .islice (some 0) [], .int .i64 0, .int .i64 0]) } := by kernel_rfl
@[simp] theorem ty34 : tyOf Tryz.prog 34 = some { agg := true, sz := 7, bytes := 136, kind := .struct [(0, 2, true), (2, 1, false), (3, 1, false), (4, 1, false), (5, 2, true)], zero := some (.agg [.islice (some 0) [], .islice (some 0) [], .islice (some 0) [], .islice (some 0) [], .islice (some 0) [], .int .i64 0, .int .i64 0]) } := by kernel_rfl
@[simp] theorem ty35 : tyOf Tryz.prog 35 = some { agg := true, sz := 3, bytes := 24, kind := .array 3 1 false, zero := some (.agg [.int .i64 0, .int .i64 0, .int .i64 0]) } := by kernel_rfl
@[simp] theorem ty36 : tyOf Tryz.prog 36 = some { agg := true, sz := 9, bytes := 72, kind := .array 3 3 true, zero := some (.agg [.int .i64 0, .int .i64 0, .int .i64 0, .int .i64 0, .int .i64 0, .int .i64 0, .int .i64 0, .int .i64 0, .int .i64 0]) } := by kernel_rfl
@[simp] theorem ty37 : tyOf Tryz.prog 37 = some { agg := true, sz := 3, bytes := 24, kind := .struct [(0, 1, false), (1, 1, false), (2, 1, false)], zero := some (.agg [.int .i64 0, .int .i64 0, .int .i64 0]) } := by kernel_rfl
@[simp] theorem ty38 : tyOf Tryz.prog 38 = some { agg := true, sz := 3, bytes := 24, kind := .struct [(0, 1, false), (1, 1, false), (2, 1, false)], zero := some (.agg [.int .i64 0, .int .i64 0, .int .i64 0]) } := by kernel_rfl
@[simp] theorem ty39 : tyOf Tryz.prog 39 = some { agg := true, sz := 12, bytes := 96, kind := .struct [(0, 9, true), (9, 3, true)], zero := some (.agg [.int .i64 0, .int .i64 0, .int .i64 0, .int .i64 0, .int .i64 0, .int .i64 0, .int .i64 0, .int .i64 0, .int .i64 0, .int .i64 0, .int .i64 0, .int .i64 0]) } := by kernel_rfl
@[simp] theorem ty40 : tyOf Tryz.prog 40 = some { agg := true, sz := 12, bytes := 96, kind := .struct [(0, 9, true), (9, 3, true)], zero := some (.agg [.int .i64 0, .int .i64 0, .int .i64 0, .int .i64 0, .int .i64 0, .int .i64 0, .int .i64 0, .int .i64 0, .int .i64 0, .int .i64 0, .int .i64 0, .int .i64 0]) } := by kernel_rfl
@[simp] theorem ty41 : tyOf Tryz.prog 41 = some { agg := false, sz := 1, bytes := 2, kind := .int .u16, zero := some (.int .u16 0) } := by kernel_rfl
@[simp] theorem ty42 : tyOf Tryz.prog 42 = some { agg := false, sz := 1, bytes := 24, kind := .slice 1 8 3, zero := some (.islice (some 0) []) } := by kernel_rfl
@[simp] theorem ty43 : tyOf Tryz.prog 43 = some { agg := true, sz := 5, bytes := 5, kind := .array 5 1 false, zero := some (.agg [.int .u8 0, .int .u8 0, .int .u8 0, .int .u8 0, .int .u8 0]) } := by kernel_rfl
@[simp] theorem ty44 : tyOf Tryz.prog 44 = some { agg := true, sz := 4, bytes := 4, kind := .array 4 1 false, zero := some (.agg [.int .u8 0, .int .u8 0, .int .u8 0, .int .u8 0]) } := by kernel_rfl
@[simp] theorem ty45 : tyOf Tryz.prog 45 = some { agg := true, sz := 4, bytes := 4, kind := .array 4 1 false, zero := some (.agg [.int .u8 0, .int .u8 0, .int .u8 0, .int .u8 0]) } := by kernel_rfl
@[simp] theorem ty46 : tyOf Tryz.prog 46 = some { agg := true, sz := 9, bytes := 48, kind := .struct [(0, 4, true), (4, 1, false), (5, 1, false), (6, 1, false), (7, 1, false), (8, 1, false)], zero := some (.agg [.int .u8 0, .int .u8 0, .int .u8 0, .int .u8 0, .int .i64 0, .int .u8 0, .int .i64 0, .bool false, .int .i64 0]) } := by kernel_rfl
@[simp] theorem ty47 : tyOf Tryz.prog 47 = some { agg := true, sz := 9, bytes := 48, kind := .struct [(0, 4, true), (4, 1, false), (5, 1, false), (6, 1, false), (7, 1, false), (8, 1, false)], zero := some (.agg [.int .u8 0, .int .u8 0, .int .u8 0, .int .u8 0, .int .i64 0, .int .u8 0, .int .i64 0, .bool false, .int .i64 0]) } := by kernel_rfl
@[simp] theorem ty48 : tyOf Tryz.prog 48 = some { agg := true, sz := 14, bytes := 56, kind := .struct [(0, 5, true), (5, 9, true)], zero := some (.agg [.int .u8 0, .int .u8 0, .int .u8 0, .int .u8 0, .int .u8 0, .int .u8 0, .int .u8 0, .int .u8 0, .int .u8 0, .int .i64 0, .int .u8 0, .int .i64 0, .bool false, .int .i64 0]) } := by kernel_rfl
@[simp] theorem ty49 : tyOf Tryz.prog 49 = some { agg := true, sz := 14, bytes := 56, kind := .struct [(0, 5, true), (5, 9, true)], zero := some (.agg [.int .u8 0, .int .u8 0, .int .u8 0, .int .u8 0, .int .u8 0, .int .u8 0, .int .u8 0, .int .u8 0, .int .u8 0, .int .i64 0, .int .u8 0, .int .i64 0, .bool false, .int .i64 0]) } := by kernel_rfl
@[simp] theorem ty50 : tyOf Tryz.prog 50 = some { agg := true, sz := 33, bytes := 224, kind := .struct [(0, 1, false), (1, 12, true), (13, 1, false), (14, 3, true), (17, 1, false), (18, 1, false), (19, 14, true)], zero := some (.agg [.int .u8 0, .int .i64 0, .int .i64 0, .int .i64 0, .int .i64 0, .int .i64 0, .int .i64 0, .int .i64 0, .int .i64 0, .int .i64 0, .int .i64 0, .int .i64 0, .int .i64 0, .int .u16 0, .int .i64 0, .int .i64 0, .int .i64 0, .islice (some 0) [], .int .i64 0, .int .u8 0, .int .u8 0, .int .u8 0, .int .u8 0, .int .u8 0, .int .u8 0, .int .u8 0, .int .u8 0, .int .u8 0, .int .i64 0, .int .u8 0, .int .i64 0, .bool false, .int .i64 0]) } := by kernel_rfl
@[simp] theorem ty51 : tyOf Tryz.prog 51 = some { agg := true, sz := 33, bytes := 224, kind := .struct [(0, 1, false), (1, 12, true), (13, 1, false), (14, 3, true), (17, 1, false), (18, 1, false), (19, 14, true)], zero := some (.agg [.int .u8 0, .int .i64 0, .int .i64 0, .int .i64 0, .int .i64 0, .int .i64 0, .int .i64 0, .int .i64 0, .int .i64 0, .int .i64 0, .int .i64 0, .int .i64 0, .int .i64 0, .int .u16 0, .int .i64 0, .int .i64 0, .int .i64 0, .islice (some 0) [], .int .i64 0, .int .u8 0, .int .u8 0, .int .u8 0, .int .u8 0, .int .u8 0, .int .u8 0, .int .u8 0, .int .u8 0, .int .u8 0, .int .i64 0, .int .u8 0, .int .i64 0, .bool false, .int .i64 0]) } := by kernel_rfl
@[simp] theorem ty52 : tyOf Tryz.prog 52 = some { agg := false, sz := 1, bytes := 24, kind := .slice 3 24 38, zero := some (.islice (some 0) []) } := by kernel_rfl
@[simp] theorem ty53 : tyOf Tryz.prog 53 = some { agg := false, sz := 1, bytes := 24, kind := .slice 2 16 238, zero := some (.islice (some 0) []) } := by kernel_rfl
@[simp] theorem ty54 : tyOf Tryz.prog 54 = some { agg := false, sz := 1, bytes := 24, kind := .slice 2 32 228, zero := some (.islice (some 0) []) } := by kernel_rfl
@[simp] theorem ty55 : tyOf Tryz.prog 55 = some { agg := true, sz := 3, bytes := 72, kind := .struct [(0, 1, false), (1, 1, false), (2, 1, false)], zero := some (.agg [.islice (some 0) [], .islice (some 0) [], .islice (some 0) []]) } := by kernel_rfl
@[simp] theorem ty56 : tyOf Tryz.prog 56 = some { agg := true, sz := 3, bytes := 72, kind := .struct [(0, 1, false), (1, 1, false), (2, 1, false)], zero := some (.agg [.islice (some 0) [], .islice (some 0) [], .islice (some 0) []]) } := by kernel_rfl
@[simp] theorem ty57 : tyOf Tryz.prog 57 = some { agg := false, sz := 1, bytes := 24, kind := .slice 4 4 45, zero := some (.islice (some 0) []) } := by kernel_rfl
@[simp] theorem ty58 : tyOf Tryz.prog 58 = some { agg := true, sz := 3, bytes := 40, kind := .struct [(0, 1, false), (1, 1, false), (2, 1, false)], zero := some (.agg [.int .i64 0, .int .i64 0, .islice (some 0) []]) } := by kernel_rfl
@[simp] theorem ty59 : tyOf Tryz.prog 59 = some { agg := true, sz := 3, bytes := 40, kind := .struct [(0, 1, false), (1, 1, false), (2, 1, false)], zero := some (.agg [.int .i64 0, .int .i64 0, .islice (some 0) []]) } := by kernel_rfl
@[simp] theorem ty60 : tyOf Tryz.prog 60 = some { agg := true, sz := 45, bytes := 384, kind := .struct [(0, 1, false), (1, 2, true), (3, 2, true), (5, 1, false), (6, 33, true), (39, 3, true), (42, 3, true)], zero := some (.agg [.int .u8 0, .int .i64 0, .int .i64 0, .int .i64 0, .int .i64 0, .int .i64 0, .int .u8 0, .int .i64 0, .int .i64 0, .int .i64 0, .int .i64 0, .int .i64 0, .int .i64 0, .int .i64 0, .int .i64 0, .int .i64 0, .int .i64 0, .int .i64 0, .int .i64 0, .int .u16 0, .int .i64 0, .int .i64 0, .int .i64 0, .islice (some 0) [], .int .i64 0, .int .u8 0, .int .u8 0, .int .u8 0, .int .u8 0, .int .u8 0, .int .u8 0, .int .u8 0, .int .u8 0, .int .u8 0, .int .i64 0, .int .u8 0, .int .i64 0, .bool false, .int .i64 0, .islice (some 0) [], .islice (some 0) [], .islice (some 0) [], .int .i64 0, .int .i64 0, .islice (some 0) []]) } := by kernel_rfl
@[simp] theorem ty61 : tyOf Tryz.prog 61 = some { agg := true, sz := 45, bytes := 384, kind := .struct [(0, 1, false), (1, 2, true), (3, 2, true), (5, 1, false), (6, 33, true), (39, 3, true), (42, 3, true)], zero := some (.agg [.int .u8 0, .int .i64 0, .int .i64 0, .int .i64 0, .int .i64 0, .int .i64 0, .int .u8 0, .int .i64 0, .int .i64 0, .int .i64 0, .int .i64 0, .int .i64 0, .int .i64 0, .int .i64 0, .int .i64 0, .int .i64 0, .int .i64 0, .int .i64 0, .int .i64 0, .int .u16 0, .int .i64 0, .int .i64 0, .int .i64 0, .islice (some 0) [], .int .i64 0, .int .u8 0, .int .u8 0, .int .u8 0, .int .u8 0, .int .u8 0, .int .u8 0, .int .u8 0, .int .u8 0, .int .u8 0, .int .i64 0, .int .u8 0, .int .i64 0, .bool false, .int .i64 0, .islice (some 0) [], .islice (some 0) [], .islice (some 0) [], .int .i64 0, .int .i64 0, .islice (some 0) []]) } := by kernel_rfl
@[simp] theorem ty62 : tyOf Tryz.prog 62 = some { agg := false, sz := 1, bytes := 8, kind := .func, zero := some (.nilFunc) } := by kernel_rfl
@[simp] theorem ty63 : tyOf Tryz.prog 63 = some { agg := false, sz := 1, bytes := 8, kind := .func, zero := some (.nilFunc) } := by kernel_rfl
@[simp] theorem ty64 : tyOf Tryz.prog 64 = some { agg := false, sz := 1, bytes := 8, kind := .func, zero := some (.nilFunc) } := by kernel_rfl
@[simp] theorem ty65 : tyOf Tryz.prog 65 = some { agg := true, sz := 3, bytes := 24, kind := .struct [(0, 2, true), (2, 1, false)], zero := some (.agg [.int .i64 0, .int .i64 0, .int .i64 0]) } := by kernel_rfl
@[simp] theorem ty66 : tyOf Tryz.prog 66 = some { agg := true, sz := 3, bytes := 24, kind := .struct [(0, 2, true), (2, 1, false)], zero := some (.agg [.int .i64 0, .int .i64 0, .int .i64 0]) } := by kernel_rfl
@[simp] theorem ty67 : tyOf Tryz.prog 67 = some { agg := false, sz := 1, bytes := 8, kind := .int .i64, zero := some (.int .i64 0) } := by kernel_rfl
@[simp] theorem ty69 : tyOf Tryz.prog 69 = some { agg := false, sz := 1, bytes := 8, kind := .func, zero := some (.nilFunc) } := by kernel_rfl
@[simp] theorem ty71 : tyOf Tryz.prog 71 = some { agg := false, sz := 1, bytes := 8, kind := .func, zero := some (.nilFunc) } := by kernel_rfl
@[simp] theorem ty72 : tyOf Tryz.prog 72 = some { agg := false, sz := 1, bytes := 8, kind := .func, zero := some (.nilFunc) } := by kernel_rfl
@[simp] theorem ty73 : tyOf Tryz.prog 73 = some { agg := false, sz := 1, bytes := 8, kind := .func, zero := some (.nilFunc) } := by kernel_rfl
@[simp] theorem ty74 : tyOf Tryz.prog 74 = some { agg := false, sz := 1, bytes := 8, kind := .func, zero := some (.nilFunc) } := by kernel_rfl
@[simp] theorem ty75 : tyOf Tryz.prog 75 = some { agg := false, sz := 1, bytes := 8, kind := .func, zero := some (.nilFunc) } := by kernel_rfl
@[simp] theorem ty76 : tyOf Tryz.prog 76 = some { agg := false, sz := 1, bytes := 8, kind := .func, zero := some (.nilFunc) } := by kernel_rfl
@[simp] theorem ty77 : tyOf Tryz.prog 77 = some { agg := false, sz := 1, bytes := 8, kind := .func, zero := some (.nilFunc) } := by kernel_rfl
@[simp] theorem ty78 : tyOf Tryz.prog 78 = some { agg := false, sz := 1, bytes := 24, kind := .slice 2 16 32, zero := some (.islice (some 0) []) } := by kernel_rfl
@[simp] theorem ty79 : tyOf Tryz.prog 79 = some { agg := true, sz := 2, bytes := 16, kind := .struct [(0, 1, false), (1, 1, false)], zero := some (.agg [.int .i64 0, .bool false]) } := by kernel_rfl
@[simp] theorem ty80 : tyOf Tryz.prog 80 = some { agg := true, sz := 2, bytes := 16, kind := .struct [(0, 1, false), (1, 1, false)], zero := some (.agg [.int .i64 0, .bool false]) } := by kernel_rfl
@[simp] theorem ty81 : tyOf Tryz.prog 81 = some { agg := false, sz := 1, bytes := 8, kind := .func, zero := some (.nilFunc) } := by kernel_rfl
@[simp] theorem ty82 : tyOf Tryz.prog 82 = some { agg := false, sz := 1, bytes := 24, kind := .slice 45 384 61, zero := some (.islice (some 0) []) } := by kernel_rfl
@[simp] theorem ty83 : tyOf Tryz.prog 83 = some { agg := false, sz := 1, bytes := 8, kind := .func, zero := some (.nilFunc) } := by kernel_rfl
@[simp] theorem ty84 : tyOf Tryz.prog 84 = some { agg := false, sz := 1, bytes := 8, kind := .func, zero := some (.nilFunc) } := by kernel_rfl
@[simp] theorem ty85 : tyOf Tryz.prog 85 = some { agg := false, sz := 1, bytes := 24, kind := .slice 2 48 89, zero := some (.islice (some 0) []) } := by kernel_rfl
@[simp] theorem ty86 : tyOf Tryz.prog 86 = some { agg := false, sz := 1, bytes := 0, kind := .other, zero := some (.tup [.islice (some 0) [], .int .i64 0]) } := by kernel_rfl
@[simp] theorem ty87 : tyOf Tryz.prog 87 = some { agg := false, sz := 1, bytes := 8, kind := .func, zero := some (.nilFunc) } := by kernel_rfl
@[simp] theorem ty88 : tyOf Tryz.prog 88 = some { agg := true, sz := 2, bytes := 48, kind := .struct [(0, 1, false), (1, 1, false)], zero := some (.agg [.islice (some 0) [], .islice (some 0) []]) } := by kernel_rfl
@[simp] theorem ty89 : tyOf Tryz.prog 89 = some { agg := true, sz := 2, bytes := 48, kind := .struct [(0, 1, false), (1, 1, false)], zero := some (.agg [.islice (some 0) [], .islice (some 0) []]) } := by kernel_rfl
@[simp] theorem ty91 : tyOf Tryz.prog 91 = some { agg := false, sz := 1, bytes := 8, kind := .func, zero := some (.nilFunc) } := by kernel_rfl
@[simp] theorem ty92 : tyOf Tryz.prog 92 = some { agg := false, sz := 1, bytes := 8, kind := .func, zero := some (.nilFunc) } := by kernel_rfl
@[simp] theorem ty93 : tyOf Tryz.prog 93 = some { agg := false, sz := 1, bytes := 8, kind := .func, zero := some (.nilFunc) } := by kernel_rfl
@[simp] theorem ty94 : tyOf Tryz.prog 94 = some { agg := false, sz := 1, bytes := 8, kind := .func, zero := some (.nilFunc) } := by kernel_rfl
@[simp] theorem ty96 : tyOf Tryz.prog 96 = some { agg := false, sz := 1, bytes := 8, kind := .func, zero := some (.nilFunc) } := by kernel_rfl
@[simp] theorem ty97 : tyOf Tryz.prog 97 = some { agg := false, sz := 1, bytes := 0, kind := .other, zero := some (.tup [.bool false, .int .i64 0]) } := by kernel_rfl
@[simp] theorem ty98 : tyOf Tryz.prog 98 = some { agg := false, sz := 1, bytes := 8, kind := .func, zero := some (.nilFunc) } := by kernel_rfl
@[simp] theorem ty100 : tyOf Tryz.prog 100 = some { agg := false, sz := 1, bytes := 8, kind := .func, zero := some (.nilFunc) } := by kernel_rfl
@[simp] theorem ty101 : tyOf Tryz.prog 101 = some { agg := false, sz := 1, bytes := 24, kind := .slice 18 168 191, zero := some (.islice (some 0) []) } := by kernel_rfl
@[simp] theorem ty102 : tyOf Tryz.prog 102 = some { agg := true, sz := 2, bytes := 48, kind := .struct [(0, 1, false), (1, 1, false)], zero := some (.agg [.islice (some 0) [], .islice (some 0) []]) } := by kernel_rfl
@[simp] theorem ty103 : tyOf Tryz.prog 103 = some { agg := true, sz := 2, bytes := 48, kind := .struct [(0, 1, false), (1, 1, false)], zero := some (.agg [.islice (some 0) [], .islice (some 0) []]) } := by kernel_rfl
@[simp] theorem ty104 : tyOf Tryz.prog 104 = some { agg := true, sz := 16, bytes := 128, kind := .struct [(0, 3, true), (3, 9, true), (12, 1, false), (13, 1, false), (14, 1, false), (15, 1, false)], zero := some (.agg [.int .i64 0, .int .i64 0, .int .i64 0, .int .i64 0, .int .i64 0, .int .i64 0, .int .i64 0, .int .i64 0, .int .i64 0, .int .i64 0, .int .i64 0, .int .i64 0, .int .i64 0, .int .i64 0, .int .i64 0, .int .i64 0]) } := by kernel_rfl
@[simp] theorem ty105 : tyOf Tryz.prog 105 = some { agg := true, sz := 16, bytes := 128, kind := .struct [(0, 3, true), (3, 9, true), (12, 1, false), (13, 1, false), (14, 1, false), (15, 1, false)], zero := some (.agg [.int .i64 0, .int .i64 0, .int .i64 0, .int .i64 0, .int .i64 0, .int .i64 0, .int .i64 0, .int .i64 0, .int .i64 0, .int .i64 0, .int .i64 0, .int .i64 0, .int .i64 0, .int .i64 0, .int .i64 0, .int .i64 0]) } := by kernel_rfl
@[simp] theorem ty106 : tyOf Tryz.prog 106 = some { agg := true, sz := 6, bytes := 112, kind := .struct [(0, 1, false), (1, 1, false), (2, 1, false), (3, 1, false), (4, 1, false), (5, 1, false)], zero := some (.agg [.int .i64 0, .int .i64 0, .islice (some 0) [], .islice (some 0) [], .islice (some 0) [], .islice (some 0) []]) } := by kernel_rfl
@[simp] theorem ty107 : tyOf Tryz.prog 107 = some { agg := true, sz := 6, bytes := 112, kind := .struct [(0, 1, false), (1, 1, false), (2, 1, false), (3, 1, false), (4, 1, false), (5, 1, false)], zero := some (.agg [.int .i64 0, .int .i64 0, .islice (some 0) [], .islice (some 0) [], .islice (some 0) [], .islice (some 0) []]) } := by kernel_rfl
@[simp] theorem ty109 : tyOf Tryz.prog 109 = some { agg := false, sz := 1, bytes := 8, kind := .func, zero := some (.nilFunc) } := by kernel_rfl
@[simp] theorem ty110 : tyOf Tryz.prog 110 = some { agg := false, sz := 1, bytes := 8, kind := .func, zero := some (.nilFunc) } := by kernel_rfl
@[simp] theorem ty111 : tyOf Tryz.prog 111 = some { agg := false, sz := 1, bytes := 8, kind := .func, zero := some (.nilFunc) } := by kernel_rfl
@[simp] theorem ty112 : tyOf Tryz.prog 112 = some { agg := true, sz := 4, bytes := 32, kind := .struct [(0, 1, false), (1, 1, false), (2, 1, false), (3, 1, false)], zero := some (.agg [.int .i64 0, .int .i64 0, .int .i64 0, .int .i64 0]) } := by kernel_rfl
@[simp] theorem ty113 : tyOf Tryz.prog 113 = some { agg := true, sz := 4, bytes := 32, kind := .struct [(0, 1, false), (1, 1, false), (2, 1, false), (3, 1, false)], zero := some (.agg [.int .i64 0, .int .i64 0, .int .i64 0, .int .i64 0]) } := by kernel_rfl
@[simp] theorem ty114 : tyOf Tryz.prog 114 = some { agg := false, sz := 1, bytes := 24, kind := .slice 2 16 118, zero := some (.islice (some 0) []) } := by kernel_rfl
@[simp] theorem ty115 : tyOf Tryz.prog 115 = some { agg := false, sz := 1, bytes := 8, kind := .func, zero := some (.nilFunc) } := by kernel_rfl
@[simp] theorem ty116 : tyOf Tryz.prog 116 = some { agg := false, sz := 1, bytes := 8, kind := .func, zero := some (.nilFunc) } := by kernel_rfl
@[simp] theorem ty117 : tyOf Tryz.prog 117 = some { agg := true, sz := 2, bytes := 16, kind := .struct [(0, 1, false), (1, 1, false)], zero := some (.agg [.int .i64 0, .int .i64 0]) } := by kernel_rfl
@[simp] theorem ty118 : tyOf Tryz.prog 118 = some { agg := true, sz := 2, bytes := 16, kind := .struct [(0, 1, false), (1, 1, false)], zero := some (.agg [.int .i64 0, .int .i64 0]) } := by kernel_rfl
@[simp] theorem ty119 : tyOf Tryz.prog 119 = some { agg := false, sz := 1, bytes := 8, kind := .func, zero := some (.nilFunc) } := by kernel_rfl
@[simp] theorem ty120 : tyOf Tryz.prog 120 = some { agg := false, sz := 1, bytes := 8, kind := .func, zero := some (.nilFunc) } := by kernel_rfl
@[simp] theorem ty121 : tyOf Tryz.prog 121 = some { agg := false, sz := 1, bytes := 24, kind := .slice 1 1 5, zero := some (.islice (some 0) []) } := by kernel_rfl
@[simp] theorem ty122 : tyOf Tryz.prog 122 = some { agg := false, sz := 1, bytes := 0, kind := .other, zero := some (.tup [.islice (some 0) [], .int .i64 0]) } := by kernel_rfl
@[simp] theorem ty123 : tyOf Tryz.prog 123 = some { agg := false, sz := 1, bytes := 8, kind := .func, zero := some (.nilFunc) } := by kernel_rfl
@[simp] theorem ty124 : tyOf Tryz.prog 124 = some { agg := false, sz := 1, bytes := 8, kind := .func, zero := some (.nilFunc) } := by kernel_rfl
@[simp] theorem ty125 : tyOf Tryz.prog 125 = some { agg := false, sz := 1, bytes := 8, kind := .func, zero := some (.nilFunc) } := by kernel_rfl
@[simp] theorem ty126 : tyOf Tryz.prog 126 = some { agg := false, sz := 1, bytes := 8, kind := .func, zero := some (.nilFunc) } := by kernel_rfl
@[simp] theorem ty127 : tyOf Tryz.prog 127 = some { agg := false, sz := 1, bytes := 8, kind := .func, zero := some (.nilFunc) } := by kernel_rfl
@[simp] theorem ty128 : tyOf Tryz.prog 128 = some { agg := false, sz := 1, bytes := 8, kind := .func, zero := some (.nilFunc) } := by kernel_rfl
@[simp] theorem ty129 : tyOf Tryz.prog 129 = some { agg := false, sz := 1, bytes := 8, kind := .func, zero := some (.nilFunc) } := by kernel_rfl
@[simp] theorem ty130 : tyOf Tryz.prog 130 = some { agg := false, sz := 1, bytes := 8, kind := .func, zero := some (.nilFunc) } := by kernel_rfl
@[simp] theorem ty131 : tyOf Tryz.prog 131 = some { agg := false, sz := 1, bytes := 8, kind := .func, zero := some (.nilFunc) } := by kernel_rfl
@[simp] theorem ty132 : tyOf Tryz.prog 132 = some { agg := false, sz := 1, bytes := 8, kind := .func, zero := some (.nilFunc) } := by kernel_rfl
@[simp] theorem ty133 : tyOf Tryz.prog 133 = some { agg := false, sz := 1, bytes := 8, kind := .func, zero := some (.nilFunc) } := by kernel_rfl
@[simp] theorem ty134 : tyOf Tryz.prog 134 = some { agg := false, sz := 1, bytes := 0, kind := .other, zero := some (.tup [.nilFunc, .bool false]) } := by kernel_rfl
@[simp] theorem ty135 : tyOf Tryz.prog 135 = some { agg := false, sz := 1, bytes := 8, kind := .map 5 133, zero := some (.nilMap) } := by kernel_rfl
@[simp] theorem ty136 : tyOf Tryz.prog 136 = some { agg := false, sz := 1, bytes := 8, kind := .func, zero := some (.nilFunc) } := by kernel_rfl
@[simp] theorem ty137 : tyOf Tryz.prog 137 = some { agg := false, sz := 1, bytes := 8, kind := .ptr 139, zero := some (.nilPtr) } := by kernel_rfl
@[simp] theorem ty138 : tyOf Tryz.prog 138 = some { agg := true, sz := 7, bytes := 136, kind := .struct [(0, 7, true)], zero := some (.agg [.islice (some 0) [], .islice (some 0) [], .islice (some 0) [], .islice (some 0) [], .islice (some 0) [], .int .i64 0, .int .i64 0]) } := by kernel_rfl
@[simp] theorem ty139 : tyOf Tryz.prog 139 = some { agg := true, sz := 7, bytes := 136, kind := .struct [(0, 7, true)], zero := some (.agg [.islice (some 0) [], .islice (some 0) [], .islice (some 0) [], .islice (some 0) [], .islice (some 0) [], .int .i64 0, .int .i64 0]) } := by kernel_rfl
@[simp] theorem ty141 : tyOf Tryz.prog 141 = some { agg := false, sz := 1, bytes := 8, kind := .func, zero := some (.nilFunc) } := by kernel_rfl
@[simp] theorem ty142 : tyOf Tryz.prog 142 = some { agg := false, sz := 1, bytes := 8, kind := .func, zero := some (.nilFunc) } := by kernel_rfl
@[simp] theorem ty143 : tyOf Tryz.prog 143 = some { agg := false, sz := 1, bytes := 8, kind := .func, zero := some (.nilFunc) } := by kernel_rfl
@[simp] theorem ty144 : tyOf Tryz.prog 144 = some { agg := false, sz := 1, bytes := 8, kind := .func, zero := some (.nilFunc) } := by kernel_rfl
@[simp] theorem ty145 : tyOf Tryz.prog 145 = some { agg := false, sz := 1, bytes := 8, kind := .func, zero := some (.nilFunc) } := by kernel_rfl
@[simp] theorem ty146 : tyOf Tryz.prog 146 = some { agg := false, sz := 1, bytes := 8, kind := .func, zero := some (.nilFunc) } := by kernel_rfl
@[simp] theorem ty147 : tyOf Tryz.prog 147 = some { agg := false, sz := 1, bytes := 8, kind := .func, zero := some (.nilFunc) } := by kernel_rfl
@[simp] theorem ty148 : tyOf Tryz.prog 148 = some { agg := false, sz := 1, bytes := 8, kind := .func, zero := some (.nilFunc) } := by kernel_rfl
@[simp] theorem ty149 : tyOf Tryz.prog 149 = some { agg := false, sz := 1, bytes := 8, kind := .func, zero := some (.nilFunc) } := by kernel_rfl
@[simp] theorem ty150 : tyOf Tryz.prog 150 = some { agg := false, sz := 1, bytes := 8, kind := .func, zero := some (.nilFunc) } := by kernel_rfl
@[simp] theorem ty151 : tyOf Tryz.prog 151 = some { agg := false, sz := 1, bytes := 8, kind := .func, zero := some (.nilFunc) } := by kernel_rfl
@[simp] theorem ty152 : tyOf Tryz.prog 152 = some { agg := false, sz := 1, bytes := 8, kind := .func, zero := some (.nilFunc) } := by kernel_rfl
@[simp] theorem ty153 : tyOf Tryz.prog 153 = some { agg := false, sz := 1, bytes := 8, kind := .func, zero := some (.nilFunc) } := by kernel_rfl
@[simp] theorem ty154 : tyOf Tryz.prog 154 = some { agg := false, sz := 1, bytes := 8, kind := .func, zero := some (.nilFunc) } := by kernel_rfl
@[simp] theorem ty172 : tyOf Tryz.prog 172 = some { agg := false, sz := 1, bytes := 8, kind := .map 32 32, zero := some (.nilMap) } := by kernel_rfl
@[simp] theorem ty173 : tyOf Tryz.prog 173 = some { agg := false, sz := 1, bytes := 8, kind := .func, zero := some (.nilFunc) } := by kernel_rfl
@[simp] theorem ty174 : tyOf Tryz.prog 174 = some { agg := false, sz := 1, bytes := 8, kind := .func, zero := some (.nilFunc) } := by kernel_rfl
@[simp] theorem ty176 : tyOf Tryz.prog 176 = some { agg := false, sz := 1, bytes := 8, kind := .func, zero := some (.nilFunc) } := by kernel_rfl
@[simp] theorem ty177 : tyOf Tryz.prog 177 = some { agg := false, sz := 1, bytes := 8, kind := .func, zero := some (.nilFunc) } := by kernel_rfl
@[simp] theorem ty178 : tyOf Tryz.prog 178 = some { agg := false, sz := 1, bytes := 24, kind := .slice 21 168 272, zero := some (.islice (some 0) []) } := by kernel_rfl
@[simp] theorem ty180 : tyOf Tryz.prog 180 = some { agg := true, sz := 3, bytes := 72, kind := .struct [(0, 2, true), (2, 1, false)], zero := some (.agg [.islice (some 0) [], .islice (some 0) [], .islice (some 0) []]) } := by kernel_rfl
@[simp] theorem ty181 : tyOf Tryz.prog 181 = some { agg := false, sz := 1, bytes := 8, kind := .func, zero := some (.nilFunc) } := by kernel_rfl
@[simp] theorem ty187 : tyOf Tryz.prog 187 = some { agg := false, sz := 1, bytes := 24, kind := .slice 3 24 35, zero := some (.islice (some 0) []) } := by kernel_rfl
@[simp] theorem ty191 : tyOf Tryz.prog 191 = some { agg := true, sz := 18, bytes := 168, kind := .struct [(0, 1, false), (1, 1, false), (2, 1, false), (3, 9, true), (12, 6, true)], zero := some (.agg [.islice (some 0) [], .islice (some 0) [], .islice (some 0) [], .int .u8 0, .int .u8 0, .int .u8 0, .int .u8 0, .int .i64 0, .int .u8 0, .int .i64 0, .bool false, .int .i64 0, .int .i64 0, .int .i64 0, .int .i64 0, .int .i64 0, .int .i64 0, .int .i64 0]) } := by kernel_rfl
@[simp] theorem ty200 : tyOf Tryz.prog 200 = some { agg := true, sz := 5, bytes := 40, kind := .struct [(0, 1, false), (1, 1, false), (2, 1, false), (3, 1, false), (4, 1, false)], zero := some (.agg [.int .i64 0, .int .i64 0, .int .i64 0, .int .i64 0, .int .i64 0]) } := by kernel_rfl
@[simp] theorem ty210 : tyOf Tryz.prog 210 = some { agg := false, sz := 1, bytes := 8, kind := .func, zero := some (.nilFunc) } := by kernel_rfl
@[simp] theorem ty214 : tyOf Tryz.prog 214 = some { agg := true, sz := 1, bytes := 24, kind := .struct [(0, 1, false)], zero := some (.agg [.islice (some 0) []]) } := by kernel_rfl
@[simp] theorem ty217 : tyOf Tryz.prog 217 = some { agg := false, sz := 1, bytes := 8, kind := .func, zero := some (.nilFunc) } := by kernel_rfl
@[simp] theorem ty218 : tyOf Tryz.prog 218 = some { agg := false, sz := 1, bytes := 8, kind := .func, zero := some (.nilFunc) } := by kernel_rfl
@[simp] theorem ty219 : tyOf Tryz.prog 219 = some { agg := false, sz := 1, bytes := 8, kind := .func, zero := some (.nilFunc) } := by kernel_rfl
@[simp] theorem ty220 : tyOf Tryz.prog 220 = some { agg := false, sz := 1, bytes := 8, kind := .func, zero := some (.nilFunc) } := by kernel_rfl
@[simp] theorem ty221 : tyOf Tryz.prog 221 = some { agg := false, sz := 1, bytes := 0, kind := .other, zero := some (.tup [.islice (some 0) [], .int .i64 0, .int .i64 0]) } := by kernel_rfl
@[simp] theorem ty225 : tyOf Tryz.prog 225 = some { agg := true, sz := 2, bytes := 32, kind := .struct [(0, 1, false), (1, 1, false)], zero := some (.agg [.islice (some 0) [], .bool false]) } := by kernel_rfl
@[simp] theorem ty226 : tyOf Tryz.prog 226 = some { agg := false, sz := 1, bytes := 8, kind := .func, zero := some (.nilFunc) } := by kernel_rfl
@[simp] theorem ty227 : tyOf Tryz.prog 227 = some { agg := true, sz := 2, bytes := 32, kind := .struct [(0, 1, false), (1, 1, false)], zero := some (.agg [.int .u8 0, .islice (some 0) []]) } := by kernel_rfl
@[simp] theorem ty228 : tyOf Tryz.prog 228 = some { agg := true, sz := 2, bytes := 32, kind := .struct [(0, 1, false), (1, 1, false)], zero := some (.agg [.int .u8 0, .islice (some 0) []]) } := by kernel_rfl
@[simp] theorem ty229 : tyOf Tryz.prog 229 = some { agg := false, sz := 1, bytes := 8, kind := .func, zero := some (.nilFunc) } := by kernel_rfl
@[simp] theorem ty230 : tyOf Tryz.prog 230 = some { agg := false, sz := 1, bytes := 8, kind := .func, zero := some (.nilFunc) } := by kernel_rfl
@[simp] theorem ty231 : tyOf Tryz.prog 231 = some { agg := false, sz := 1, bytes := 8, kind := .func, zero := some (.nilFunc) } := by kernel_rfl
@[simp] theorem ty234 : tyOf Tryz.prog 234 = some { agg := false, sz := 1, bytes := 8, kind := .func, zero := some (.nilFunc) } := by kernel_rfl
@[simp] theorem ty235 : tyOf Tryz.prog 235 = some { agg := false, sz := 1, bytes := 8, kind := .func, zero := some (.nilFunc) } := by kernel_rfl
@[simp] theorem ty236 : tyOf Tryz.prog 236 = some { agg := false, sz := 1, bytes := 8, kind := .func, zero := some (.nilFunc) } := by kernel_rfl
@[simp] theorem ty237 : tyOf Tryz.prog 237 = some { agg := false, sz := 1, bytes := 8, kind := .func, zero := some (.nilFunc) } := by kernel_rfl
@[simp] theorem ty238 : tyOf Tryz.prog 238 = some { agg := true, sz := 2, bytes := 16, kind := .array 2 1 false, zero := some (.agg [.int .i64 0, .int .i64 0]) } := by kernel_rfl
@[simp] theorem ty239 : tyOf Tryz.prog 239 = some { agg := false, sz := 1, bytes := 8, kind := .func, zero := some (.nilFunc) } := by kernel_rfl
@[simp] theorem ty240 : tyOf Tryz.prog 240 = some { agg := false, sz := 1, bytes := 8, kind := .func, zero := some (.nilFunc) } := by kernel_rfl
@[simp] theorem ty241 : tyOf Tryz.prog 241 = some { agg := false, sz := 1, bytes := 8, kind := .func, zero := some (.nilFunc) } := by kernel_rfl
@[simp] theorem ty242 : tyOf Tryz.prog 242 = some { agg := false, sz := 1, bytes := 8, kind := .func, zero := some (.nilFunc) } := by kernel_rfl
@[simp] theorem ty243 : tyOf Tryz.prog 243 = some { agg := false, sz := 1, bytes := 8, kind := .func, zero := some (.nilFunc) } := by kernel_rfl
@[simp] theorem ty244 : tyOf Tryz.prog 244 = some { agg := false, sz := 1, bytes := 0, kind := .other, zero := some (.tup [.islice (some 0) [], .bool false]) } := by kernel_rfl
@[simp] theorem ty245 : tyOf Tryz.prog 245 = some { agg := false, sz := 1, bytes := 8, kind := .func, zero := some (.nilFunc) } := by kernel_rfl
@[simp] theorem ty246 : tyOf Tryz.prog 246 = some { agg := false, sz := 1, bytes := 8, kind := .func, zero := some (.nilFunc) } := by kernel_rfl
@[simp] theorem ty247 : tyOf Tryz.prog 247 = some { agg := false, sz := 1, bytes := 8, kind := .func, zero := some (.nilFunc) } := by kernel_rfl
@[simp] theorem ty248 : tyOf Tryz.prog 248 = some { agg := false, sz := 1, bytes := 8, kind := .func, zero := some (.nilFunc) } := by kernel_rfl
@[simp] theorem ty249 : tyOf Tryz.prog 249 = some { agg := false, sz := 1, bytes := 8, kind := .func, zero := some (.nilFunc) } := by kernel_rfl
@[simp] theorem ty250 : tyOf Tryz.prog 250 = some { agg := false, sz := 1, bytes := 8, kind := .map 32 4, zero := some (.nilMap) } := by kernel_rfl
@[simp] theorem ty253 : tyOf Tryz.prog 253 = some { agg := false, sz := 1, bytes := 8, kind := .func, zero := some (.nilFunc) } := by kernel_rfl
@[simp] theorem ty255 : tyOf Tryz.prog 255 = some { agg := false, sz := 1, bytes := 8, kind := .func, zero := some (.nilFunc) } := by kernel_rfl
@[simp] theorem ty272 : tyOf Tryz.prog 272 = some { agg := true, sz := 21, bytes := 168, kind := .struct [(0, 15, true), (15, 6, true)], zero := some (.agg [.int .i64 0, .int .i64 0, .int .i64 0, .int .i64 0, .int .i64 0, .int .i64 0, .int .i64 0, .int .i64 0, .int .i64 0, .int .i64 0, .int .i64 0, .int .i64 0, .int .i64 0, .int .i64 0, .int .i64 0, .int .i64 0, .int .i64 0, .int .i64 0, .int .i64 0, .int .i64 0, .int .i64 0]) } := by kernel_rfl
@[simp] theorem ty278 : tyOf Tryz.prog 278 = some { agg := false, sz := 1, bytes := 8, kind := .func, zero := some (.nilFunc) } := by kernel_rfl
@[simp] theorem ty279 : tyOf Tryz.prog 279 = some { agg := false, sz := 1, bytes := 8, kind := .func, zero := some (.nilFunc) } := by kernel_rfl
@[simp] theorem ty283 : tyOf Tryz.prog 283 = some { agg := false, sz := 1, bytes := 0, kind := .other, zero := some (.tup [.int .u64 0, .int .u64 0]) } := by kernel_rfl
@[simp] theorem ty284 : tyOf Tryz.prog 284 = some { agg := false, sz := 1, bytes := 8, kind := .func, zero := some (.nilFunc) } := by kernel_rfl
@[simp] theorem ty285 : tyOf Tryz.prog 285 = some { agg := false, sz := 1, bytes := 8, kind := .func, zero := some (.nilFunc) } := by kernel_rfl
@[simp] theorem ty286 : tyOf Tryz.prog 286 = some { agg := false, sz := 1, bytes := 8, kind := .func, zero := some (.nilFunc) } := by kernel_rfl
@[simp] theorem ty287 : tyOf Tryz.prog 287 = some { agg := false, sz := 1, bytes := 8, kind := .func, zero := some (.nilFunc) } := by kernel_rfl
@[simp] theorem ty288 : tyOf Tryz.prog 288 = some { agg := true, sz := 6, bytes := 112, kind := .struct [(0, 6, true)], zero := some (.agg [.int .i64 0, .int .i64 0, .islice (some 0) [], .islice (some 0) [], .islice (some 0) [], .islice (some 0) []]) } := by kernel_rfl
@[simp] theorem ty289 : tyOf Tryz.prog 289 = some { agg := true, sz := 6, bytes := 112, kind := .struct [(0, 6, true)], zero := some (.agg [.int .i64 0, .int .i64 0, .islice (some 0) [], .islice (some 0) [], .islice (some 0) [], .islice (some 0) []]) } := by kernel_rfl
@[simp] theorem ty291 : tyOf Tryz.prog 291 = some { agg := false, sz := 1, bytes := 8, kind := .func, zero := some (.nilFunc) } := by kernel_rfl
@[simp] theorem ty292 : tyOf Tryz.prog 292 = some { agg := false, sz := 1, bytes := 8, kind := .func, zero := some (.nilFunc) } := by kernel_rfl
@[simp] theorem ty293 : tyOf Tryz.prog 293 = some { agg := false, sz := 1, bytes := 0, kind := .other, zero := some (.tup [.int .i64 0, .int .i64 0]) } := by kernel_rfl
@[simp] theorem ty294 : tyOf Tryz.prog 294 = some { agg := false, sz := 1, bytes := 8, kind := .func, zero := some (.nilFunc) } := by kernel_rfl
@[simp] theorem ty295 : tyOf Tryz.prog 295 = some { agg := false, sz := 1, bytes := 8, kind := .func, zero := some (.nilFunc) } := by kernel_rfl
@[simp] theorem ty297 : tyOf Tryz.prog 297 = some { agg := false, sz := 1, bytes := 8, kind := .func, zero := some (.nilFunc) } := by kernel_rfl
@[simp] theorem ty298 : tyOf Tryz.prog 298 = some { agg := false, sz := 1, bytes := 0, kind := .other, zero := some (.tup [.int .i64 0, .int .i64 0]) } := by kernel_rfl
@[simp] theorem ty299 : tyOf Tryz.prog 299 = some { agg := false, sz := 1, bytes := 8, kind := .func, zero := some (.nilFunc) } := by kernel_rfl
@[simp] theorem ty300 : tyOf Tryz.prog 300 = some { agg := false, sz := 1, bytes := 8, kind := .func, zero := some (.nilFunc) } := by kernel_rfl
@[simp] theorem ty302 : tyOf Tryz.prog 302 = some { agg := false, sz := 1, bytes := 8, kind := .func, zero := some (.nilFunc) } := by kernel_rfl
@[simp] theorem ty303 : tyOf Tryz.prog 303 = some { agg := false, sz := 1, bytes := 8, kind := .func, zero := some (.nilFunc) } := by kernel_rfl
@[simp] theorem ty306 : tyOf Tryz.prog 306 = some { agg := false, sz := 1, bytes := 8, kind := .func, zero := some (.nilFunc) } := by kernel_rfl
@[simp] theorem ty308 : tyOf Tryz.prog 308 = some { agg := false, sz := 1, bytes := 0, kind := .other, zero := some (.tup [.int .i64 0, .int .i64 0, .int .i64 0]) } := by kernel_rfl
@[simp] theorem ty309 : tyOf Tryz.prog 309 = some { agg := false, sz := 1, bytes := 8, kind := .func, zero := some (.nilFunc) } := by kernel_rfl
@[simp] theorem ty312 : tyOf Tryz.prog 312 = some { agg := false, sz := 1, bytes := 8, kind := .func, zero := some (.nilFunc) } := by kernel_rfl
@[simp] theorem ty313 : tyOf Tryz.prog 313 = some { agg := false, sz := 1, bytes := 8, kind := .func, zero := some (.nilFunc) } := by kernel_rfl
@[simp] theorem ty316 : tyOf Tryz.prog 316 = some { agg := false, sz := 1, bytes := 8, kind := .func, zero := some (.nilFunc) } := by kernel_rfl
@[simp] theorem ty319 : tyOf Tryz.prog 319 = some { agg := false, sz := 1, bytes := 8, kind := .func, zero := some (.nilFunc) } := by kernel_rfl
@[simp] theorem ty320 : tyOf Tryz.prog 320 = some { agg := false, sz := 1, bytes := 8, kind := .func, zero := some (.nilFunc) } := by kernel_rfl
@[simp] theorem ty324 : tyOf Tryz.prog 324 = some { agg := false, sz := 1, bytes := 8, kind := .func, zero := some (.nilFunc) } := by kernel_rfl
@[simp] theorem ty325 : tyOf Tryz.prog 325 = some { agg := false, sz := 1, bytes := 8, kind := .func, zero := some (.nilFunc) } := by kernel_rfl
@[simp] theorem ty326 : tyOf Tryz.prog 326 = some { agg := false, sz := 1, bytes := 8, kind := .func, zero := some (.nilFunc) } := by kernel_rfl
@[simp] theorem ty329 : tyOf Tryz.prog 329 = some { agg := false, sz := 1, bytes := 8, kind := .func, zero := some (.nilFunc) } := by kernel_rfl
@[simp] theorem ty346 : tyOf Tryz.prog 346 = some { agg := false, sz := 1, bytes := 0, kind := .other, zero := some (.tup [.islice (some 0) [], .int .i64 0]) } := by kernel_rfl
@[simp] theorem ty348 : tyOf Tryz.prog 348 = some { agg := false, sz := 1, bytes := 8, kind := .func, zero := some (.nilFunc) } := by kernel_rfl
@[simp] theorem ty353 : tyOf Tryz.prog 353 = some { agg := false, sz := 1, bytes := 8, kind := .func, zero := some (.nilFunc) } := by kernel_rfl
@[simp] theorem ty354 : tyOf Tryz.prog 354 = some { agg := true, sz := 5, bytes := 40, kind := .array 5 1 false, zero := some (.agg [.nilFunc, .nilFunc, .nilFunc, .nilFunc, .nilFunc]) } := by kernel_rfl
@[simp] theorem ty355 : tyOf Tryz.prog 355 = some { agg := false, sz := 1, bytes := 8, kind := .func, zero := some (.nilFunc) } := by kernel_rfl
@[simp] theorem ty356 : tyOf Tryz.prog 356 = some { agg := false, sz := 1, bytes := 8, kind := .ptr 47, zero := some (.nilPtr) } := by kernel_rfl
@[simp] theorem ty357 : tyOf Tryz.prog 357 = some { agg := false, sz := 1, bytes := 8, kind := .func, zero := some (.nilFunc) } := by kernel_rfl
@[simp] theorem ty358 : tyOf Tryz.prog 358 = some { agg := false, sz := 1, bytes := 8, kind := .func, zero := some (.nilFunc) } := by kernel_rfl
@[simp] theorem ty362 : tyOf Tryz.prog 362 = some { agg := true, sz := 5, bytes := 40, kind := .struct [(0, 3, true), (3, 1, false), (4, 1, false)], zero := some (.agg [.int .i64 0, .int .i64 0, .int .i64 0, .int .i64 0, .int .i64 0]) } := by kernel_rfl
@[simp] theorem ty400 : tyOf Tryz.prog 400 = some { agg := false, sz := 1, bytes := 8, kind := .func, zero := some (.nilFunc) } := by kernel_rfl
@[simp] theorem ty420 : tyOf Tryz.prog 420 = some { agg := false, sz := 1, bytes := 8, kind := .int .i64, zero := some (.int .i64 0) } := by kernel_rfl
@[simp] theorem ty441 : tyOf Tryz.prog 441 = some { agg := true, sz := 4, bytes := 40, kind := .struct [(0, 1, false), (1, 1, false), (2, 1, false), (3, 1, false)], zero := some (.agg [.nilPtr, .nilPtr, .nilPtr, .str ⟨#[]⟩]) } := by kernel_rfl
@[simp] theorem ty444 : tyOf Tryz.prog 444 = some { agg := true, sz := 0, bytes := 0, kind := .struct [(0, 0, true)], zero := some (.agg []) } := by kernel_rfl
@[simp] theorem ty452 : tyOf Tryz.prog 452 = some { agg := true, sz := 11, bytes := 48, kind := .struct [(0, 1, false), (1, 1, false), (2, 1, false), (3, 1, false), (4, 1, false), (5, 1, false), (6, 1, false), (7, 1, false), (8, 1, false), (9, 1, false), (10, 1, false)], zero := some (.agg [.int .u64 0, .int .u64 0, .int .u32 0, .int .u8 0, .int .u8 0, .int .u8 0, .int .u8 0, .nilFunc, .nilPtr, .int .i32 0, .int .i32 0]) } := by kernel_rfl
@[simp] theorem fl7 : flatT Tryz.prog 7 = some [.i, .i, .b, .i] := by kernel_rfl
@[simp] theorem ag7 : aggOf Tryz.prog 7 = true := by kernel_rfl
@[simp] theorem fl8 : flatT Tryz.prog 8 = some [.i, .i, .b, .i] := by kernel_rfl
@[simp] theorem ag8 : aggOf Tryz.prog 8 = true := by kernel_rfl
@[simp] theorem fl31 : flatT Tryz.prog 31 = some [.i, .i] := by kernel_rfl
@[simp] theorem ag31 : aggOf Tryz.prog 31 = true := by kernel_rfl
@[simp] theorem fl32 : flatT Tryz.prog 32 = some [.i, .i] := by kernel_rfl
@[simp] theorem ag32 : aggOf Tryz.prog 32 = true := by kernel_rfl
@[simp] theorem fl35 : flatT Tryz.prog 35 = some [.i, .i, .i] := by kernel_rfl
@[simp] theorem ag35 : aggOf Tryz.prog 35 = true := by kernel_rfl
@[simp] theorem fl36 : flatT Tryz.prog 36 = some [.i, .i, .i, .i, .i, .i, .i, .i, .i] := by kernel_rfl
@[simp] theorem ag36 : aggOf Tryz.prog 36 = true := by kernel_rfl
@[simp] theorem fl37 : flatT Tryz.prog 37 = some [.i, .i, .i] := by kernel_rfl
@[simp] theorem ag37 : aggOf Tryz.prog 37 = true := by kernel_rfl
@[simp] theorem fl38 : flatT Tryz.prog 38 = some [.i, .i, .i] := by kernel_rfl
@[simp] theorem ag38 : aggOf Tryz.prog 38 = true := by kernel_rfl
@[simp] theorem fl39 : flatT Tryz.prog 39 = some [.i, .i, .i, .i, .i, .i, .i, .i, .i, .i, .i, .i] := by kernel_rfl
@[simp] theorem ag39 : aggOf Tryz.prog 39 = true := by kernel_rfl
@[simp] theorem fl40 : flatT Tryz.prog 40 = some [.i, .i, .i, .i, .i, .i, .i, .i, .i, .i, .i, .i] := by kernel_rfl
@[simp] theorem ag40 : aggOf Tryz.prog 40 = true := by kernel_rfl
@[simp] theorem fl43 : flatT Tryz.prog 43 = some [.i, .i, .i, .i, .i] := by kernel_rfl
@[simp] theorem ag43 : aggOf Tryz.prog 43 = true := by kernel_rfl
@[simp] theorem fl44 : flatT Tryz.prog 44 = some [.i, .i, .i, .i] := by kernel_rfl
@[simp] theorem ag44 : aggOf Tryz.prog 44 = true := by kernel_rfl
@[simp] theorem fl45 : flatT Tryz.prog 45 = some [.i, .i, .i, .i] := by kernel_rfl
@[simp] theorem ag45 : aggOf Tryz.prog 45 = true := by kernel_rfl
@[simp] theorem fl46 : flatT Tryz.prog 46 = some [.i, .i, .i, .i, .i, .i, .i, .b, .i] := by kernel_rfl
@[simp] theorem ag46 : aggOf Tryz.prog 46 = true := by kernel_rfl
@[simp] theorem fl47 : flatT Tryz.prog 47 = some [.i, .i, .i, .i, .i, .i, .i, .b, .i] := by kernel_rfl
@[simp] theorem ag47 : aggOf Tryz.prog 47 = true := by kernel_rfl
@[simp] theorem fl48 : flatT Tryz.prog 48 = some [.i, .i, .i, .i, .i, .i, .i, .i, .i, .i, .i, .i, .b, .i] := by kernel_rfl
@[simp] theorem ag48 : aggOf Tryz.prog 48 = true := by kernel_rfl
@[simp] theorem fl49 : flatT Tryz.prog 49 = some [.i, .i, .i, .i, .i, .i, .i, .i, .i, .i, .i, .i, .b, .i] := by kernel_rfl
@[simp] theorem ag49 : aggOf Tryz.prog 49 = true := by kernel_rfl
@[simp] theorem fl65 : flatT Tryz.prog 65 = some [.i, .i, .i] := by kernel_rfl
@[simp] theorem ag65 : aggOf Tryz.prog 65 = true := by kernel_rfl
@[simp] theorem fl66 : flatT Tryz.prog 66 = some [.i, .i, .i] := by kernel_rfl
@[simp] theorem ag66 : aggOf Tryz.prog 66 = true := by kernel_rfl
@[simp] theorem fl79 : flatT Tryz.prog 79 = some [.i, .b] := by kernel_rfl
@[simp] theorem ag79 : aggOf Tryz.prog 79 = true := by kernel_rfl
@[simp] theorem fl80 : flatT Tryz.prog 80 = some [.i, .b] := by kernel_rfl
@[simp] theorem ag80 : aggOf Tryz.prog 80 = true := by kernel_rfl
@[simp] theorem fl104 : flatT Tryz.prog 104 = some [.i, .i, .i, .i, .i, .i, .i, .i, .i, .i, .i, .i, .i, .i, .i, .i] := by kernel_rfl
@[simp] theorem ag104 : aggOf Tryz.prog 104 = true := by kernel_rfl
@[simp] theorem fl105 : flatT Tryz.prog 105 = some [.i, .i, .i, .i, .i, .i, .i, .i, .i, .i, .i, .i, .i, .i, .i, .i] := by kernel_rfl
@[simp] theorem ag105 : aggOf Tryz.prog 105 = true := by kernel_rfl
@[simp] theorem fl112 : flatT Tryz.prog 112 = some [.i, .i, .i, .i] := by kernel_rfl
@[simp] theorem ag112 : aggOf Tryz.prog 112 = true := by kernel_rfl
@[simp] theorem fl113 : flatT Tryz.prog 113 = some [.i, .i, .i, .i] := by kernel_rfl
@[simp] theorem ag113 : aggOf Tryz.prog 113 = true := by kernel_rfl
@[simp] theorem fl117 : flatT Tryz.prog 117 = some [.i, .i] := by kernel_rfl
@[simp] theorem ag117 : aggOf Tryz.prog 117 = true := by kernel_rfl
@[simp] theorem fl118 : flatT Tryz.prog 118 = some [.i, .i] := by kernel_rfl
@[simp] theorem ag118 : aggOf Tryz.prog 118 = true := by kernel_rfl
@[simp] theorem fl200 : flatT Tryz.prog 200 = some [.i, .i, .i, .i, .i] := by kernel_rfl
@[simp] theorem ag200 : aggOf Tryz.prog 200 = true := by kernel_rfl
@[simp] theorem fl238 : flatT Tryz.prog 238 = some [.i, .i] := by kernel_rfl
@[simp] theorem ag238 : aggOf Tryz.prog 238 = true := by kernel_rfl
@[simp] theorem fl272 : flatT Tryz.prog 272 = some [.i, .i, .i, .i, .i, .i, .i, .i, .i, .i, .i, .i, .i, .i, .i, .i, .i, .i, .i, .i, .i] := by kernel_rfl
@[simp] theorem ag272 : aggOf Tryz.prog 272 = true := by kernel_rfl
@[simp] theorem fl362 : flatT Tryz.prog 362 = some [.i, .i, .i, .i, .i] := by kernel_rfl
@[simp] theorem ag362 : aggOf Tryz.prog 362 = true := by kernel_rfl
attribute [simp] pEqT
end Go.Pv

namespace Go.Pv
open Go
def qa := @Pwp.seq
def qb := @thenP_normal
def qc := @thenP_ret
def qd := @thenP_exit
def qe := @blockP_normal
def qf := @blockP_ret
def qg := @blockP_same
def qh := @roundN_ret
def qi := @roundN_exit
def qj := @Pwp.block
def qk := @Pwp.skip
def ql := @Pwp.exit
def qm := @Pwp.ret
def qn := @gsplit_TT
def qo := @gsplit_FF
def qp := @gsplit_TF
def qq := @gsplit_FT
def qr := @gsplit_pT
def qs := @gsplit_pF
def qt := @gsplit_npT
def qu := @gsplit_npF
def qv := @gsplit_bT
def qw := @gsplit_bF
def qx := @vsel_pT
def qy := @vsel_pF
def qz := @vsel_npT
def qqa := @vsel_npF
def qqb := @vsel_bT
def qqc := @vsel_bF
def qqd := @dsel_pT
def qqe := @dsel_pF
def qqf := @dsel_npT
def qqg := @dsel_npF
def qqh := @dsel_bT
def qqi := @dsel_bF
def qqj := @endP_ret0
def qqk := @endP_normal0
def qql := @obk_go'
def qqm := @dobk_go
def qqn := @vrun_go
def qqo := @drun_go
def qqp := @vops_go
def qqq := @dvops_go
end Go.Pv

