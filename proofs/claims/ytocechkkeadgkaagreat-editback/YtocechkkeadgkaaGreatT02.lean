/- EditBack: for every scene and node, the law EditBack returns true, and what it was given reads as before. Part 3 of 6. -/
import Derived.Test.YtocechkkeadgkaaGreatT01
set_option linter.unusedVariables false
set_option linter.unusedSimpArgs false
set_option maxRecDepth 100000
namespace Go.Pv
open Go Go.Proofs

theorem ent292 : enters Tryz.prog 292 = true := by kernel_rfl
theorem runs292 (A : Key) (l : List Slot) (p : Slot → Bool) (g : FuncId) (fi ca : List PV) (hl : l.length < 4611686018427387904) (hg : ∀ A', ∀ x ∈ l, Runs Tryz.prog A' g (fi ++ ([x.pv] ++ ca)) [] (.bool (p x)) []) :
    Runs Tryz.prog A 292 [slotsPv l, .func (.func g) fi ca] [] (.int .i64 (idxF p l)) [] := by
  refine Runs.body (rs := [.tmp 4]) ent292 Tryz.func292 rfl Tryz.ntmps292 rfl (fun x h => by cases h) ?_
  repeat' first
   |(with_reducible first|apply qa|apply qb|apply qc|apply qd|apply qe|apply qf|apply qg|apply qh|apply qi|apply qj|apply qk|apply ql|apply qm|apply qn|apply qo|apply qp|apply qq|refine blockP_ne (by decide) ?_)
   |((with_reducible refine Pwp.reg fun K hK=>?_);simp[*])
   |((with_reducible refine Hid.go hK ?_);clear hK K)|((with_reducible apply Pwp.condG);rfl)|((with_reducible first|apply qqj|apply qqk);simp[*];done)|((with_reducible first|apply qr|apply qs|apply qt|apply qu|apply qv|apply qw)<;>intro h)
   |((with_reducible first|apply qx|apply qy|apply qz|apply qqa|apply qqb|apply qqc)<;>intro h<;>try simp[h, *])
   |((with_reducible refine and_go ?_ fun hs=>?_);focus omega
     try simp[*])
   |((with_reducible first|apply qql|apply qqn|apply qqp);simp[*])
  refine Pwp.loopN (ι := Nat) (S := fun i => ⟨[slotsPv l, .func (.func g) fi ca, .any, .any, .any, .any, .any, .int .i64 l.length, .int .i64 i, .any, .any, .any, .any, .any, .any, .any, .any, .any, .any], [], i :: 4 :: A, 0⟩)
    (C := fun i => i ≤ l.length ∧ ∀ j, (h : j < l.length) → j < i → p l[j] = false) (μ := fun i => l.length - i) 0 ?_ ?_ ?_
  · refine PLe.tellIn [] ?_ ?_ ?_ ?_
    · simp
    · exact Sub.nil _
    · simp [ObLe.refl, *]
    · repeat' first | exact VLeL.nil | refine VLeL.cons ?_ ?_
      all_goals first | exact VLe.any _ | exact VLe.refl _ | exact VLe.ghost _ ⟨_, rfl, by omega, by omega⟩ | (apply VLe.row (h := ELe.refl _); (focus (first | exact St.find_hd _ _ _ | exact St.find_tl (by simp) (St.find_hd _ _ _) | exact St.find_tl (by simp) (St.find_tl (by simp) (St.find_hd _ _ _)))); (simp [*]; done)) | exact VLe.of_eq (by simp [*])
  · simp
  · rintro i ⟨hi, hp⟩
    repeat' first
     |(with_reducible first|apply qa|apply qb|apply qc|apply qd|apply qe|apply qf|apply qg|apply qh|apply qi|apply qj|apply qk|apply ql|apply qm|apply qn|apply qo|apply qp|apply qq|refine blockP_ne (by decide) ?_)
     |((with_reducible refine Pwp.reg fun K hK=>?_);simp[*])
     |((with_reducible refine Hid.go hK ?_);clear hK K)|((with_reducible apply Pwp.condG);rfl)|((with_reducible first|apply qqj|apply qqk);simp[*];done)|((with_reducible first|apply qr|apply qs|apply qt|apply qu|apply qv|apply qw)<;>intro h)
     |((with_reducible first|apply qx|apply qy|apply qz|apply qqa|apply qqb|apply qqc)<;>intro h<;>try simp[h, *])
     |((with_reducible refine and_go ?_ fun hs=>?_);focus omega
       try simp[*])
     |((with_reducible first|apply qql|apply qqn|apply qqp);simp[*])
    · have hi' := h
      refine vcallk_pure (hg _ _ (List.getElem_mem hi')) ?_
      repeat' first
       |(with_reducible first|apply qa|apply qb|apply qc|apply qd|apply qe|apply qf|apply qg|apply qh|apply qi|apply qj|apply qk|apply ql|apply qm|apply qn|apply qo|apply qp|apply qq|refine blockP_ne (by decide) ?_)
       |((with_reducible refine Pwp.reg fun K hK=>?_);simp[*, wrap_succ i (by omega)])
       |((with_reducible refine Hid.go hK ?_);clear hK K)|((with_reducible apply Pwp.condG);rfl)|((with_reducible first|apply qqj|apply qqk);simp[*, wrap_succ i (by omega)];done)|((with_reducible first|apply qr|apply qs|apply qt|apply qu|apply qv|apply qw)<;>intro h)
       |((with_reducible first|apply qx|apply qy|apply qz|apply qqa|apply qqb|apply qqc)<;>intro h<;>try simp[h, *, wrap_succ i (by omega)])
       |((with_reducible refine and_go ?_ fun hs=>?_);focus omega
         try simp[*, wrap_succ i (by omega)])
       |((with_reducible first|apply qql|apply qqn|apply qqp);simp[*, wrap_succ i (by omega)])
      · refine endP_ret0 ?_
        simp [idxF_hit hi' hp h]
      · refine roundN_go (i + 1) ?_ ⟨hi', fun j h1 h2 => ?_⟩ (by omega)
        · refine PLe.tellNext (pre := []) [] ?_ ?_ ?_ ?_
          · simp
          · exact Sub.nil _
          · simp [ObLe.refl, *]
          · repeat' first | exact VLeL.nil | refine VLeL.cons ?_ ?_
            all_goals first | exact VLe.any _ | exact VLe.refl _ | exact VLe.ghost _ ⟨_, rfl, by omega, by omega⟩ | (apply VLe.row (h := ELe.refl _); (focus (first | exact St.find_hd _ _ _ | exact St.find_tl (by simp) (St.find_hd _ _ _) | exact St.find_tl (by simp) (St.find_tl (by simp) (St.find_hd _ _ _)))); (simp [*]; done)) | exact VLe.of_eq (by simp [*])
        · by_cases e : j = i
          · subst e; exact h
          · exact hp j h1 (by omega)
    · refine endP_ret0 ?_
      simp [idxF_miss (p := p) fun j hj => hp j hj (by omega)]

theorem ent241 : enters Tryz.prog 241 = true := by kernel_rfl
theorem runs241 (A : Key) (l : List Slot) (p : Slot → Bool) (g : FuncId) (fi ca : List PV) (hl : l.length < 4611686018427387904) (hg : ∀ A', ∀ x ∈ l, Runs Tryz.prog A' g (fi ++ ([x.pv] ++ ca)) [] (.bool (p x)) []) :
    Runs Tryz.prog A 241 [slotsPv l, .func (.func g) fi ca] [] (.bool (l.any p)) [] := by
  refine Runs.body (rs := [.tmp 4]) ent241 Tryz.func241 rfl Tryz.ntmps241 rfl (fun x h => by cases h) ?_
  repeat' first
   |(with_reducible first|apply qa|apply qb|apply qc|apply qd|apply qe|apply qf|apply qg|apply qh|apply qi|apply qj|apply qk|apply ql|apply qm|apply qn|apply qo|apply qp|apply qq|refine blockP_ne (by decide) ?_)
   |((with_reducible refine Pwp.reg fun K hK=>?_);simp[*])
   |((with_reducible refine Hid.go hK ?_);clear hK K)|((with_reducible apply Pwp.condG);rfl)|((with_reducible first|apply qqj|apply qqk);simp[*];done)|((with_reducible first|apply qr|apply qs|apply qt|apply qu|apply qv|apply qw)<;>intro h)
   |((with_reducible first|apply qx|apply qy|apply qz|apply qqa|apply qqb|apply qqc)<;>intro h<;>try simp[h, *])
   |((with_reducible refine and_go ?_ fun hs=>?_);focus omega
     try simp[*])
   |((with_reducible first|apply qql|apply qqn|apply qqp);simp[*])
  refine vcallk_pure (runs292 _ l p g fi ca hl hg) ?_
  repeat' first
   |(with_reducible first|apply qa|apply qb|apply qc|apply qd|apply qe|apply qf|apply qg|apply qh|apply qi|apply qj|apply qk|apply ql|apply qm|apply qn|apply qo|apply qp|apply qq|refine blockP_ne (by decide) ?_)
   |((with_reducible refine Pwp.reg fun K hK=>?_);simp[*])
   |((with_reducible refine Hid.go hK ?_);clear hK K)|((with_reducible apply Pwp.condG);rfl)|((with_reducible first|apply qqj|apply qqk);simp[*];done)|((with_reducible first|apply qr|apply qs|apply qt|apply qu|apply qv|apply qw)<;>intro h)
   |((with_reducible first|apply qx|apply qy|apply qz|apply qqa|apply qqb|apply qqc)<;>intro h<;>try simp[h, *])
   |((with_reducible refine and_go ?_ fun hs=>?_);focus omega
     try simp[*])
   |((with_reducible first|apply qql|apply qqn|apply qqp);simp[*])
  refine endP_ret0 ?_
  simp [idxF_any]

theorem ent150 : enters Tryz.prog 150 = true := by kernel_rfl
theorem runs150 (A : Key) (l : List Mesh) (p : Mesh → Bool) (g : FuncId) (fi ca : List PV) (hl : l.length < 4611686018427387904) (hg : ∀ A', ∀ x ∈ l, Runs Tryz.prog A' g (fi ++ ([x.pv] ++ ca)) [] (.bool (p x)) []) :
    Runs Tryz.prog A 150 [meshesPv l, .func (.func g) fi ca] [] (.int .i64 (idxF p l)) [] := by
  refine Runs.body (rs := [.tmp 4]) ent150 Tryz.func150 rfl Tryz.ntmps150 rfl (fun x h => by cases h) ?_
  repeat' first
   |(with_reducible first|apply qa|apply qb|apply qc|apply qd|apply qe|apply qf|apply qg|apply qh|apply qi|apply qj|apply qk|apply ql|apply qm|apply qn|apply qo|apply qp|apply qq|refine blockP_ne (by decide) ?_)
   |((with_reducible refine Pwp.reg fun K hK=>?_);simp[*])
   |((with_reducible refine Hid.go hK ?_);clear hK K)|((with_reducible apply Pwp.condG);rfl)|((with_reducible first|apply qqj|apply qqk);simp[*];done)|((with_reducible first|apply qr|apply qs|apply qt|apply qu|apply qv|apply qw)<;>intro h)
   |((with_reducible first|apply qx|apply qy|apply qz|apply qqa|apply qqb|apply qqc)<;>intro h<;>try simp[h, *])
   |((with_reducible refine and_go ?_ fun hs=>?_);focus omega
     try simp[*])
   |((with_reducible first|apply qql|apply qqn|apply qqp);simp[*])
  refine Pwp.loopN (ι := Nat) (S := fun i => ⟨[meshesPv l, .func (.func g) fi ca, .any, .any, .any, .any, .any, .int .i64 l.length, .int .i64 i, .any, .any, .any, .any, .any, .any, .any, .any, .any, .any], [], i :: 4 :: A, 0⟩)
    (C := fun i => i ≤ l.length ∧ ∀ j, (h : j < l.length) → j < i → p l[j] = false) (μ := fun i => l.length - i) 0 ?_ ?_ ?_
  · refine PLe.tellIn [] ?_ ?_ ?_ ?_
    · simp
    · exact Sub.nil _
    · simp [ObLe.refl, *]
    · repeat' first | exact VLeL.nil | refine VLeL.cons ?_ ?_
      all_goals first | exact VLe.any _ | exact VLe.refl _ | exact VLe.ghost _ ⟨_, rfl, by omega, by omega⟩ | (apply VLe.row (h := ELe.refl _); (focus (first | exact St.find_hd _ _ _ | exact St.find_tl (by simp) (St.find_hd _ _ _) | exact St.find_tl (by simp) (St.find_tl (by simp) (St.find_hd _ _ _)))); (simp [*]; done)) | exact VLe.of_eq (by simp [*])
  · simp
  · rintro i ⟨hi, hp⟩
    repeat' first
     |(with_reducible first|apply qa|apply qb|apply qc|apply qd|apply qe|apply qf|apply qg|apply qh|apply qi|apply qj|apply qk|apply ql|apply qm|apply qn|apply qo|apply qp|apply qq|refine blockP_ne (by decide) ?_)
     |((with_reducible refine Pwp.reg fun K hK=>?_);simp[*])
     |((with_reducible refine Hid.go hK ?_);clear hK K)|((with_reducible apply Pwp.condG);rfl)|((with_reducible first|apply qqj|apply qqk);simp[*];done)|((with_reducible first|apply qr|apply qs|apply qt|apply qu|apply qv|apply qw)<;>intro h)
     |((with_reducible first|apply qx|apply qy|apply qz|apply qqa|apply qqb|apply qqc)<;>intro h<;>try simp[h, *])
     |((with_reducible refine and_go ?_ fun hs=>?_);focus omega
       try simp[*])
     |((with_reducible first|apply qql|apply qqn|apply qqp);simp[*])
    · have hi' := h
      refine vcallk_pure (hg _ _ (List.getElem_mem hi')) ?_
      repeat' first
       |(with_reducible first|apply qa|apply qb|apply qc|apply qd|apply qe|apply qf|apply qg|apply qh|apply qi|apply qj|apply qk|apply ql|apply qm|apply qn|apply qo|apply qp|apply qq|refine blockP_ne (by decide) ?_)
       |((with_reducible refine Pwp.reg fun K hK=>?_);simp[*, wrap_succ i (by omega)])
       |((with_reducible refine Hid.go hK ?_);clear hK K)|((with_reducible apply Pwp.condG);rfl)|((with_reducible first|apply qqj|apply qqk);simp[*, wrap_succ i (by omega)];done)|((with_reducible first|apply qr|apply qs|apply qt|apply qu|apply qv|apply qw)<;>intro h)
       |((with_reducible first|apply qx|apply qy|apply qz|apply qqa|apply qqb|apply qqc)<;>intro h<;>try simp[h, *, wrap_succ i (by omega)])
       |((with_reducible refine and_go ?_ fun hs=>?_);focus omega
         try simp[*, wrap_succ i (by omega)])
       |((with_reducible first|apply qql|apply qqn|apply qqp);simp[*, wrap_succ i (by omega)])
      · refine endP_ret0 ?_
        simp [idxF_hit hi' hp h]
      · refine roundN_go (i + 1) ?_ ⟨hi', fun j h1 h2 => ?_⟩ (by omega)
        · refine PLe.tellNext (pre := []) [] ?_ ?_ ?_ ?_
          · simp
          · exact Sub.nil _
          · simp [ObLe.refl, *]
          · repeat' first | exact VLeL.nil | refine VLeL.cons ?_ ?_
            all_goals first | exact VLe.any _ | exact VLe.refl _ | exact VLe.ghost _ ⟨_, rfl, by omega, by omega⟩ | (apply VLe.row (h := ELe.refl _); (focus (first | exact St.find_hd _ _ _ | exact St.find_tl (by simp) (St.find_hd _ _ _) | exact St.find_tl (by simp) (St.find_tl (by simp) (St.find_hd _ _ _)))); (simp [*]; done)) | exact VLe.of_eq (by simp [*])
        · by_cases e : j = i
          · subst e; exact h
          · exact hp j h1 (by omega)
    · refine endP_ret0 ?_
      simp [idxF_miss (p := p) fun j hj => hp j hj (by omega)]

theorem ent67 : enters Tryz.prog 67 = true := by kernel_rfl
theorem runs67 (A : Key) (l : List Mesh) (p : Mesh → Bool) (g : FuncId) (fi ca : List PV) (hl : l.length < 4611686018427387904) (hg : ∀ A', ∀ x ∈ l, Runs Tryz.prog A' g (fi ++ ([x.pv] ++ ca)) [] (.bool (p x)) []) :
    Runs Tryz.prog A 67 [meshesPv l, .func (.func g) fi ca] [] (.bool (l.any p)) [] := by
  refine Runs.body (rs := [.tmp 4]) ent67 Tryz.func67 rfl Tryz.ntmps67 rfl (fun x h => by cases h) ?_
  repeat' first
   |(with_reducible first|apply qa|apply qb|apply qc|apply qd|apply qe|apply qf|apply qg|apply qh|apply qi|apply qj|apply qk|apply ql|apply qm|apply qn|apply qo|apply qp|apply qq|refine blockP_ne (by decide) ?_)
   |((with_reducible refine Pwp.reg fun K hK=>?_);simp[*])
   |((with_reducible refine Hid.go hK ?_);clear hK K)|((with_reducible apply Pwp.condG);rfl)|((with_reducible first|apply qqj|apply qqk);simp[*];done)|((with_reducible first|apply qr|apply qs|apply qt|apply qu|apply qv|apply qw)<;>intro h)
   |((with_reducible first|apply qx|apply qy|apply qz|apply qqa|apply qqb|apply qqc)<;>intro h<;>try simp[h, *])
   |((with_reducible refine and_go ?_ fun hs=>?_);focus omega
     try simp[*])
   |((with_reducible first|apply qql|apply qqn|apply qqp);simp[*])
  refine vcallk_pure (runs150 _ l p g fi ca hl hg) ?_
  repeat' first
   |(with_reducible first|apply qa|apply qb|apply qc|apply qd|apply qe|apply qf|apply qg|apply qh|apply qi|apply qj|apply qk|apply ql|apply qm|apply qn|apply qo|apply qp|apply qq|refine blockP_ne (by decide) ?_)
   |((with_reducible refine Pwp.reg fun K hK=>?_);simp[*])
   |((with_reducible refine Hid.go hK ?_);clear hK K)|((with_reducible apply Pwp.condG);rfl)|((with_reducible first|apply qqj|apply qqk);simp[*];done)|((with_reducible first|apply qr|apply qs|apply qt|apply qu|apply qv|apply qw)<;>intro h)
   |((with_reducible first|apply qx|apply qy|apply qz|apply qqa|apply qqb|apply qqc)<;>intro h<;>try simp[h, *])
   |((with_reducible refine and_go ?_ fun hs=>?_);focus omega
     try simp[*])
   |((with_reducible first|apply qql|apply qqn|apply qqp);simp[*])
  refine endP_ret0 ?_
  simp [idxF_any]

theorem ent151 : enters Tryz.prog 151 = true := by kernel_rfl
theorem runs151 (A : Key) (l : List Texture) (p : Texture → Bool) (g : FuncId) (fi ca : List PV) (hl : l.length < 4611686018427387904) (hg : ∀ A', ∀ x ∈ l, Runs Tryz.prog A' g (fi ++ ([x.pv] ++ ca)) [] (.bool (p x)) []) :
    Runs Tryz.prog A 151 [texturesPv l, .func (.func g) fi ca] [] (.int .i64 (idxF p l)) [] := by
  refine Runs.body (rs := [.tmp 4]) ent151 Tryz.func151 rfl Tryz.ntmps151 rfl (fun x h => by cases h) ?_
  repeat' first
   |(with_reducible first|apply qa|apply qb|apply qc|apply qd|apply qe|apply qf|apply qg|apply qh|apply qi|apply qj|apply qk|apply ql|apply qm|apply qn|apply qo|apply qp|apply qq|refine blockP_ne (by decide) ?_)
   |((with_reducible refine Pwp.reg fun K hK=>?_);simp[*])
   |((with_reducible refine Hid.go hK ?_);clear hK K)|((with_reducible apply Pwp.condG);rfl)|((with_reducible first|apply qqj|apply qqk);simp[*];done)|((with_reducible first|apply qr|apply qs|apply qt|apply qu|apply qv|apply qw)<;>intro h)
   |((with_reducible first|apply qx|apply qy|apply qz|apply qqa|apply qqb|apply qqc)<;>intro h<;>try simp[h, *])
   |((with_reducible refine and_go ?_ fun hs=>?_);focus omega
     try simp[*])
   |((with_reducible first|apply qql|apply qqn|apply qqp);simp[*])
  refine Pwp.loopN (ι := Nat) (S := fun i => ⟨[texturesPv l, .func (.func g) fi ca, .any, .any, .any, .any, .any, .int .i64 l.length, .int .i64 i, .any, .any, .any, .any, .any, .any, .any, .any, .any, .any], [], i :: 4 :: A, 0⟩)
    (C := fun i => i ≤ l.length ∧ ∀ j, (h : j < l.length) → j < i → p l[j] = false) (μ := fun i => l.length - i) 0 ?_ ?_ ?_
  · refine PLe.tellIn [] ?_ ?_ ?_ ?_
    · simp
    · exact Sub.nil _
    · simp [ObLe.refl, *]
    · repeat' first | exact VLeL.nil | refine VLeL.cons ?_ ?_
      all_goals first | exact VLe.any _ | exact VLe.refl _ | exact VLe.ghost _ ⟨_, rfl, by omega, by omega⟩ | (apply VLe.row (h := ELe.refl _); (focus (first | exact St.find_hd _ _ _ | exact St.find_tl (by simp) (St.find_hd _ _ _) | exact St.find_tl (by simp) (St.find_tl (by simp) (St.find_hd _ _ _)))); (simp [*]; done)) | exact VLe.of_eq (by simp [*])
  · simp
  · rintro i ⟨hi, hp⟩
    repeat' first
     |(with_reducible first|apply qa|apply qb|apply qc|apply qd|apply qe|apply qf|apply qg|apply qh|apply qi|apply qj|apply qk|apply ql|apply qm|apply qn|apply qo|apply qp|apply qq|refine blockP_ne (by decide) ?_)
     |((with_reducible refine Pwp.reg fun K hK=>?_);simp[*])
     |((with_reducible refine Hid.go hK ?_);clear hK K)|((with_reducible apply Pwp.condG);rfl)|((with_reducible first|apply qqj|apply qqk);simp[*];done)|((with_reducible first|apply qr|apply qs|apply qt|apply qu|apply qv|apply qw)<;>intro h)
     |((with_reducible first|apply qx|apply qy|apply qz|apply qqa|apply qqb|apply qqc)<;>intro h<;>try simp[h, *])
     |((with_reducible refine and_go ?_ fun hs=>?_);focus omega
       try simp[*])
     |((with_reducible first|apply qql|apply qqn|apply qqp);simp[*])
    · have hi' := h
      refine vcallk_pure (hg _ _ (List.getElem_mem hi')) ?_
      repeat' first
       |(with_reducible first|apply qa|apply qb|apply qc|apply qd|apply qe|apply qf|apply qg|apply qh|apply qi|apply qj|apply qk|apply ql|apply qm|apply qn|apply qo|apply qp|apply qq|refine blockP_ne (by decide) ?_)
       |((with_reducible refine Pwp.reg fun K hK=>?_);simp[*, wrap_succ i (by omega)])
       |((with_reducible refine Hid.go hK ?_);clear hK K)|((with_reducible apply Pwp.condG);rfl)|((with_reducible first|apply qqj|apply qqk);simp[*, wrap_succ i (by omega)];done)|((with_reducible first|apply qr|apply qs|apply qt|apply qu|apply qv|apply qw)<;>intro h)
       |((with_reducible first|apply qx|apply qy|apply qz|apply qqa|apply qqb|apply qqc)<;>intro h<;>try simp[h, *, wrap_succ i (by omega)])
       |((with_reducible refine and_go ?_ fun hs=>?_);focus omega
         try simp[*, wrap_succ i (by omega)])
       |((with_reducible first|apply qql|apply qqn|apply qqp);simp[*, wrap_succ i (by omega)])
      · refine endP_ret0 ?_
        simp [idxF_hit hi' hp h]
      · refine roundN_go (i + 1) ?_ ⟨hi', fun j h1 h2 => ?_⟩ (by omega)
        · refine PLe.tellNext (pre := []) [] ?_ ?_ ?_ ?_
          · simp
          · exact Sub.nil _
          · simp [ObLe.refl, *]
          · repeat' first | exact VLeL.nil | refine VLeL.cons ?_ ?_
            all_goals first | exact VLe.any _ | exact VLe.refl _ | exact VLe.ghost _ ⟨_, rfl, by omega, by omega⟩ | (apply VLe.row (h := ELe.refl _); (focus (first | exact St.find_hd _ _ _ | exact St.find_tl (by simp) (St.find_hd _ _ _) | exact St.find_tl (by simp) (St.find_tl (by simp) (St.find_hd _ _ _)))); (simp [*]; done)) | exact VLe.of_eq (by simp [*])
        · by_cases e : j = i
          · subst e; exact h
          · exact hp j h1 (by omega)
    · refine endP_ret0 ?_
      simp [idxF_miss (p := p) fun j hj => hp j hj (by omega)]

theorem ent68 : enters Tryz.prog 68 = true := by kernel_rfl
theorem runs68 (A : Key) (l : List Texture) (p : Texture → Bool) (g : FuncId) (fi ca : List PV) (hl : l.length < 4611686018427387904) (hg : ∀ A', ∀ x ∈ l, Runs Tryz.prog A' g (fi ++ ([x.pv] ++ ca)) [] (.bool (p x)) []) :
    Runs Tryz.prog A 68 [texturesPv l, .func (.func g) fi ca] [] (.bool (l.any p)) [] := by
  refine Runs.body (rs := [.tmp 4]) ent68 Tryz.func68 rfl Tryz.ntmps68 rfl (fun x h => by cases h) ?_
  repeat' first
   |(with_reducible first|apply qa|apply qb|apply qc|apply qd|apply qe|apply qf|apply qg|apply qh|apply qi|apply qj|apply qk|apply ql|apply qm|apply qn|apply qo|apply qp|apply qq|refine blockP_ne (by decide) ?_)
   |((with_reducible refine Pwp.reg fun K hK=>?_);simp[*])
   |((with_reducible refine Hid.go hK ?_);clear hK K)|((with_reducible apply Pwp.condG);rfl)|((with_reducible first|apply qqj|apply qqk);simp[*];done)|((with_reducible first|apply qr|apply qs|apply qt|apply qu|apply qv|apply qw)<;>intro h)
   |((with_reducible first|apply qx|apply qy|apply qz|apply qqa|apply qqb|apply qqc)<;>intro h<;>try simp[h, *])
   |((with_reducible refine and_go ?_ fun hs=>?_);focus omega
     try simp[*])
   |((with_reducible first|apply qql|apply qqn|apply qqp);simp[*])
  refine vcallk_pure (runs151 _ l p g fi ca hl hg) ?_
  repeat' first
   |(with_reducible first|apply qa|apply qb|apply qc|apply qd|apply qe|apply qf|apply qg|apply qh|apply qi|apply qj|apply qk|apply ql|apply qm|apply qn|apply qo|apply qp|apply qq|refine blockP_ne (by decide) ?_)
   |((with_reducible refine Pwp.reg fun K hK=>?_);simp[*])
   |((with_reducible refine Hid.go hK ?_);clear hK K)|((with_reducible apply Pwp.condG);rfl)|((with_reducible first|apply qqj|apply qqk);simp[*];done)|((with_reducible first|apply qr|apply qs|apply qt|apply qu|apply qv|apply qw)<;>intro h)
   |((with_reducible first|apply qx|apply qy|apply qz|apply qqa|apply qqb|apply qqc)<;>intro h<;>try simp[h, *])
   |((with_reducible refine and_go ?_ fun hs=>?_);focus omega
     try simp[*])
   |((with_reducible first|apply qql|apply qqn|apply qqp);simp[*])
  refine endP_ret0 ?_
  simp [idxF_any]

theorem ent237 : enters Tryz.prog 237 = true := by kernel_rfl
theorem runs237 (A : Key) (l : List Vec) (p : Vec → Bool) (g : FuncId) (fi ca : List PV) (hl : l.length < 4611686018427387904) (hg : ∀ A', ∀ x ∈ l, Runs Tryz.prog A' g (fi ++ ([x.pv] ++ ca)) [] (.bool (p x)) []) :
    Runs Tryz.prog A 237 [vecsPv l, .func (.func g) fi ca] [] (.int .i64 (idxF p l)) [] := by
  refine Runs.body (rs := [.tmp 4]) ent237 Tryz.func237 rfl Tryz.ntmps237 rfl (fun x h => by cases h) ?_
  repeat' first
   |(with_reducible first|apply qa|apply qb|apply qc|apply qd|apply qe|apply qf|apply qg|apply qh|apply qi|apply qj|apply qk|apply ql|apply qm|apply qn|apply qo|apply qp|apply qq|refine blockP_ne (by decide) ?_)
   |((with_reducible refine Pwp.reg fun K hK=>?_);simp[*])
   |((with_reducible refine Hid.go hK ?_);clear hK K)|((with_reducible apply Pwp.condG);rfl)|((with_reducible first|apply qqj|apply qqk);simp[*];done)|((with_reducible first|apply qr|apply qs|apply qt|apply qu|apply qv|apply qw)<;>intro h)
   |((with_reducible first|apply qx|apply qy|apply qz|apply qqa|apply qqb|apply qqc)<;>intro h<;>try simp[h, *])
   |((with_reducible refine and_go ?_ fun hs=>?_);focus omega
     try simp[*])
   |((with_reducible first|apply qql|apply qqn|apply qqp);simp[*])
  refine Pwp.loopN (ι := Nat) (S := fun i => ⟨[vecsPv l, .func (.func g) fi ca, .any, .any, .any, .any, .any, .int .i64 l.length, .int .i64 i, .any, .any, .any, .any, .any, .any, .any, .any, .any, .any], [], i :: 4 :: A, 0⟩)
    (C := fun i => i ≤ l.length ∧ ∀ j, (h : j < l.length) → j < i → p l[j] = false) (μ := fun i => l.length - i) 0 ?_ ?_ ?_
  · refine PLe.tellIn [] ?_ ?_ ?_ ?_
    · simp
    · exact Sub.nil _
    · simp [ObLe.refl, *]
    · repeat' first | exact VLeL.nil | refine VLeL.cons ?_ ?_
      all_goals first | exact VLe.any _ | exact VLe.refl _ | exact VLe.ghost _ ⟨_, rfl, by omega, by omega⟩ | (apply VLe.row (h := ELe.refl _); (focus (first | exact St.find_hd _ _ _ | exact St.find_tl (by simp) (St.find_hd _ _ _) | exact St.find_tl (by simp) (St.find_tl (by simp) (St.find_hd _ _ _)))); (simp [*]; done)) | exact VLe.of_eq (by simp [*])
  · simp
  · rintro i ⟨hi, hp⟩
    repeat' first
     |(with_reducible first|apply qa|apply qb|apply qc|apply qd|apply qe|apply qf|apply qg|apply qh|apply qi|apply qj|apply qk|apply ql|apply qm|apply qn|apply qo|apply qp|apply qq|refine blockP_ne (by decide) ?_)
     |((with_reducible refine Pwp.reg fun K hK=>?_);simp[*])
     |((with_reducible refine Hid.go hK ?_);clear hK K)|((with_reducible apply Pwp.condG);rfl)|((with_reducible first|apply qqj|apply qqk);simp[*];done)|((with_reducible first|apply qr|apply qs|apply qt|apply qu|apply qv|apply qw)<;>intro h)
     |((with_reducible first|apply qx|apply qy|apply qz|apply qqa|apply qqb|apply qqc)<;>intro h<;>try simp[h, *])
     |((with_reducible refine and_go ?_ fun hs=>?_);focus omega
       try simp[*])
     |((with_reducible first|apply qql|apply qqn|apply qqp);simp[*])
    · have hi' := h
      refine vcallk_pure (hg _ _ (List.getElem_mem hi')) ?_
      repeat' first
       |(with_reducible first|apply qa|apply qb|apply qc|apply qd|apply qe|apply qf|apply qg|apply qh|apply qi|apply qj|apply qk|apply ql|apply qm|apply qn|apply qo|apply qp|apply qq|refine blockP_ne (by decide) ?_)
       |((with_reducible refine Pwp.reg fun K hK=>?_);simp[*, wrap_succ i (by omega)])
       |((with_reducible refine Hid.go hK ?_);clear hK K)|((with_reducible apply Pwp.condG);rfl)|((with_reducible first|apply qqj|apply qqk);simp[*, wrap_succ i (by omega)];done)|((with_reducible first|apply qr|apply qs|apply qt|apply qu|apply qv|apply qw)<;>intro h)
       |((with_reducible first|apply qx|apply qy|apply qz|apply qqa|apply qqb|apply qqc)<;>intro h<;>try simp[h, *, wrap_succ i (by omega)])
       |((with_reducible refine and_go ?_ fun hs=>?_);focus omega
         try simp[*, wrap_succ i (by omega)])
       |((with_reducible first|apply qql|apply qqn|apply qqp);simp[*, wrap_succ i (by omega)])
      · refine endP_ret0 ?_
        simp [idxF_hit hi' hp h]
      · refine roundN_go (i + 1) ?_ ⟨hi', fun j h1 h2 => ?_⟩ (by omega)
        · refine PLe.tellNext (pre := []) [] ?_ ?_ ?_ ?_
          · simp
          · exact Sub.nil _
          · simp [ObLe.refl, *]
          · repeat' first | exact VLeL.nil | refine VLeL.cons ?_ ?_
            all_goals first | exact VLe.any _ | exact VLe.refl _ | exact VLe.ghost _ ⟨_, rfl, by omega, by omega⟩ | (apply VLe.row (h := ELe.refl _); (focus (first | exact St.find_hd _ _ _ | exact St.find_tl (by simp) (St.find_hd _ _ _) | exact St.find_tl (by simp) (St.find_tl (by simp) (St.find_hd _ _ _)))); (simp [*]; done)) | exact VLe.of_eq (by simp [*])
        · by_cases e : j = i
          · subst e; exact h
          · exact hp j h1 (by omega)
    · refine endP_ret0 ?_
      simp [idxF_miss (p := p) fun j hj => hp j hj (by omega)]

theorem ent141 : enters Tryz.prog 141 = true := by kernel_rfl
theorem runs141 (A : Key) (l : List Vec) (p : Vec → Bool) (g : FuncId) (fi ca : List PV) (hl : l.length < 4611686018427387904) (hg : ∀ A', ∀ x ∈ l, Runs Tryz.prog A' g (fi ++ ([x.pv] ++ ca)) [] (.bool (p x)) []) :
    Runs Tryz.prog A 141 [vecsPv l, .func (.func g) fi ca] [] (.bool (l.any p)) [] := by
  refine Runs.body (rs := [.tmp 4]) ent141 Tryz.func141 rfl Tryz.ntmps141 rfl (fun x h => by cases h) ?_
  repeat' first
   |(with_reducible first|apply qa|apply qb|apply qc|apply qd|apply qe|apply qf|apply qg|apply qh|apply qi|apply qj|apply qk|apply ql|apply qm|apply qn|apply qo|apply qp|apply qq|refine blockP_ne (by decide) ?_)
   |((with_reducible refine Pwp.reg fun K hK=>?_);simp[*])
   |((with_reducible refine Hid.go hK ?_);clear hK K)|((with_reducible apply Pwp.condG);rfl)|((with_reducible first|apply qqj|apply qqk);simp[*];done)|((with_reducible first|apply qr|apply qs|apply qt|apply qu|apply qv|apply qw)<;>intro h)
   |((with_reducible first|apply qx|apply qy|apply qz|apply qqa|apply qqb|apply qqc)<;>intro h<;>try simp[h, *])
   |((with_reducible refine and_go ?_ fun hs=>?_);focus omega
     try simp[*])
   |((with_reducible first|apply qql|apply qqn|apply qqp);simp[*])
  refine vcallk_pure (runs237 _ l p g fi ca hl hg) ?_
  repeat' first
   |(with_reducible first|apply qa|apply qb|apply qc|apply qd|apply qe|apply qf|apply qg|apply qh|apply qi|apply qj|apply qk|apply ql|apply qm|apply qn|apply qo|apply qp|apply qq|refine blockP_ne (by decide) ?_)
   |((with_reducible refine Pwp.reg fun K hK=>?_);simp[*])
   |((with_reducible refine Hid.go hK ?_);clear hK K)|((with_reducible apply Pwp.condG);rfl)|((with_reducible first|apply qqj|apply qqk);simp[*];done)|((with_reducible first|apply qr|apply qs|apply qt|apply qu|apply qv|apply qw)<;>intro h)
   |((with_reducible first|apply qx|apply qy|apply qz|apply qqa|apply qqb|apply qqc)<;>intro h<;>try simp[h, *])
   |((with_reducible refine and_go ?_ fun hs=>?_);focus omega
     try simp[*])
   |((with_reducible first|apply qql|apply qqn|apply qqp);simp[*])
  refine endP_ret0 ?_
  simp [idxF_any]

theorem ent238 : enters Tryz.prog 238 = true := by kernel_rfl
theorem runs238 (A : Key) (l : List UV) (p : UV → Bool) (g : FuncId) (fi ca : List PV) (hl : l.length < 4611686018427387904) (hg : ∀ A', ∀ x ∈ l, Runs Tryz.prog A' g (fi ++ ([x.pv] ++ ca)) [] (.bool (p x)) []) :
    Runs Tryz.prog A 238 [uvsPv l, .func (.func g) fi ca] [] (.int .i64 (idxF p l)) [] := by
  refine Runs.body (rs := [.tmp 4]) ent238 Tryz.func238 rfl Tryz.ntmps238 rfl (fun x h => by cases h) ?_
  repeat' first
   |(with_reducible first|apply qa|apply qb|apply qc|apply qd|apply qe|apply qf|apply qg|apply qh|apply qi|apply qj|apply qk|apply ql|apply qm|apply qn|apply qo|apply qp|apply qq|refine blockP_ne (by decide) ?_)
   |((with_reducible refine Pwp.reg fun K hK=>?_);simp[*])
   |((with_reducible refine Hid.go hK ?_);clear hK K)|((with_reducible apply Pwp.condG);rfl)|((with_reducible first|apply qqj|apply qqk);simp[*];done)|((with_reducible first|apply qr|apply qs|apply qt|apply qu|apply qv|apply qw)<;>intro h)
   |((with_reducible first|apply qx|apply qy|apply qz|apply qqa|apply qqb|apply qqc)<;>intro h<;>try simp[h, *])
   |((with_reducible refine and_go ?_ fun hs=>?_);focus omega
     try simp[*])
   |((with_reducible first|apply qql|apply qqn|apply qqp);simp[*])
  refine Pwp.loopN (ι := Nat) (S := fun i => ⟨[uvsPv l, .func (.func g) fi ca, .any, .any, .any, .any, .any, .int .i64 l.length, .int .i64 i, .any, .any, .any, .any, .any, .any, .any, .any, .any, .any], [], i :: 4 :: A, 0⟩)
    (C := fun i => i ≤ l.length ∧ ∀ j, (h : j < l.length) → j < i → p l[j] = false) (μ := fun i => l.length - i) 0 ?_ ?_ ?_
  · refine PLe.tellIn [] ?_ ?_ ?_ ?_
    · simp
    · exact Sub.nil _
    · simp [ObLe.refl, *]
    · repeat' first | exact VLeL.nil | refine VLeL.cons ?_ ?_
      all_goals first | exact VLe.any _ | exact VLe.refl _ | exact VLe.ghost _ ⟨_, rfl, by omega, by omega⟩ | (apply VLe.row (h := ELe.refl _); (focus (first | exact St.find_hd _ _ _ | exact St.find_tl (by simp) (St.find_hd _ _ _) | exact St.find_tl (by simp) (St.find_tl (by simp) (St.find_hd _ _ _)))); (simp [*]; done)) | exact VLe.of_eq (by simp [*])
  · simp
  · rintro i ⟨hi, hp⟩
    repeat' first
     |(with_reducible first|apply qa|apply qb|apply qc|apply qd|apply qe|apply qf|apply qg|apply qh|apply qi|apply qj|apply qk|apply ql|apply qm|apply qn|apply qo|apply qp|apply qq|refine blockP_ne (by decide) ?_)
     |((with_reducible refine Pwp.reg fun K hK=>?_);simp[*])
     |((with_reducible refine Hid.go hK ?_);clear hK K)|((with_reducible apply Pwp.condG);rfl)|((with_reducible first|apply qqj|apply qqk);simp[*];done)|((with_reducible first|apply qr|apply qs|apply qt|apply qu|apply qv|apply qw)<;>intro h)
     |((with_reducible first|apply qx|apply qy|apply qz|apply qqa|apply qqb|apply qqc)<;>intro h<;>try simp[h, *])
     |((with_reducible refine and_go ?_ fun hs=>?_);focus omega
       try simp[*])
     |((with_reducible first|apply qql|apply qqn|apply qqp);simp[*])
    · have hi' := h
      refine vcallk_pure (hg _ _ (List.getElem_mem hi')) ?_
      repeat' first
       |(with_reducible first|apply qa|apply qb|apply qc|apply qd|apply qe|apply qf|apply qg|apply qh|apply qi|apply qj|apply qk|apply ql|apply qm|apply qn|apply qo|apply qp|apply qq|refine blockP_ne (by decide) ?_)
       |((with_reducible refine Pwp.reg fun K hK=>?_);simp[*, wrap_succ i (by omega)])
       |((with_reducible refine Hid.go hK ?_);clear hK K)|((with_reducible apply Pwp.condG);rfl)|((with_reducible first|apply qqj|apply qqk);simp[*, wrap_succ i (by omega)];done)|((with_reducible first|apply qr|apply qs|apply qt|apply qu|apply qv|apply qw)<;>intro h)
       |((with_reducible first|apply qx|apply qy|apply qz|apply qqa|apply qqb|apply qqc)<;>intro h<;>try simp[h, *, wrap_succ i (by omega)])
       |((with_reducible refine and_go ?_ fun hs=>?_);focus omega
         try simp[*, wrap_succ i (by omega)])
       |((with_reducible first|apply qql|apply qqn|apply qqp);simp[*, wrap_succ i (by omega)])
      · refine endP_ret0 ?_
        simp [idxF_hit hi' hp h]
      · refine roundN_go (i + 1) ?_ ⟨hi', fun j h1 h2 => ?_⟩ (by omega)
        · refine PLe.tellNext (pre := []) [] ?_ ?_ ?_ ?_
          · simp
          · exact Sub.nil _
          · simp [ObLe.refl, *]
          · repeat' first | exact VLeL.nil | refine VLeL.cons ?_ ?_
            all_goals first | exact VLe.any _ | exact VLe.refl _ | exact VLe.ghost _ ⟨_, rfl, by omega, by omega⟩ | (apply VLe.row (h := ELe.refl _); (focus (first | exact St.find_hd _ _ _ | exact St.find_tl (by simp) (St.find_hd _ _ _) | exact St.find_tl (by simp) (St.find_tl (by simp) (St.find_hd _ _ _)))); (simp [*]; done)) | exact VLe.of_eq (by simp [*])
        · by_cases e : j = i
          · subst e; exact h
          · exact hp j h1 (by omega)
    · refine endP_ret0 ?_
      simp [idxF_miss (p := p) fun j hj => hp j hj (by omega)]

theorem ent142 : enters Tryz.prog 142 = true := by kernel_rfl
theorem runs142 (A : Key) (l : List UV) (p : UV → Bool) (g : FuncId) (fi ca : List PV) (hl : l.length < 4611686018427387904) (hg : ∀ A', ∀ x ∈ l, Runs Tryz.prog A' g (fi ++ ([x.pv] ++ ca)) [] (.bool (p x)) []) :
    Runs Tryz.prog A 142 [uvsPv l, .func (.func g) fi ca] [] (.bool (l.any p)) [] := by
  refine Runs.body (rs := [.tmp 4]) ent142 Tryz.func142 rfl Tryz.ntmps142 rfl (fun x h => by cases h) ?_
  repeat' first
   |(with_reducible first|apply qa|apply qb|apply qc|apply qd|apply qe|apply qf|apply qg|apply qh|apply qi|apply qj|apply qk|apply ql|apply qm|apply qn|apply qo|apply qp|apply qq|refine blockP_ne (by decide) ?_)
   |((with_reducible refine Pwp.reg fun K hK=>?_);simp[*])
   |((with_reducible refine Hid.go hK ?_);clear hK K)|((with_reducible apply Pwp.condG);rfl)|((with_reducible first|apply qqj|apply qqk);simp[*];done)|((with_reducible first|apply qr|apply qs|apply qt|apply qu|apply qv|apply qw)<;>intro h)
   |((with_reducible first|apply qx|apply qy|apply qz|apply qqa|apply qqb|apply qqc)<;>intro h<;>try simp[h, *])
   |((with_reducible refine and_go ?_ fun hs=>?_);focus omega
     try simp[*])
   |((with_reducible first|apply qql|apply qqn|apply qqp);simp[*])
  refine vcallk_pure (runs238 _ l p g fi ca hl hg) ?_
  repeat' first
   |(with_reducible first|apply qa|apply qb|apply qc|apply qd|apply qe|apply qf|apply qg|apply qh|apply qi|apply qj|apply qk|apply ql|apply qm|apply qn|apply qo|apply qp|apply qq|refine blockP_ne (by decide) ?_)
   |((with_reducible refine Pwp.reg fun K hK=>?_);simp[*])
   |((with_reducible refine Hid.go hK ?_);clear hK K)|((with_reducible apply Pwp.condG);rfl)|((with_reducible first|apply qqj|apply qqk);simp[*];done)|((with_reducible first|apply qr|apply qs|apply qt|apply qu|apply qv|apply qw)<;>intro h)
   |((with_reducible first|apply qx|apply qy|apply qz|apply qqa|apply qqb|apply qqc)<;>intro h<;>try simp[h, *])
   |((with_reducible refine and_go ?_ fun hs=>?_);focus omega
     try simp[*])
   |((with_reducible first|apply qql|apply qqn|apply qqp);simp[*])
  refine endP_ret0 ?_
  simp [idxF_any]

theorem ent242 : enters Tryz.prog 242 = true := by kernel_rfl
theorem runs242 (A : Key) (l : List Handle) (p : Handle → Bool) (g : FuncId) (fi ca : List PV) (hl : l.length < 4611686018427387904) (hg : ∀ A', ∀ x ∈ l, Runs Tryz.prog A' g (fi ++ ([x.pv] ++ ca)) [] (.bool (p x)) []) :
    Runs Tryz.prog A 242 [handlesPv l, .func (.func g) fi ca] [] (.int .i64 (idxF p l)) [] := by
  refine Runs.body (rs := [.tmp 4]) ent242 Tryz.func242 rfl Tryz.ntmps242 rfl (fun x h => by cases h) ?_
  repeat' first
   |(with_reducible first|apply qa|apply qb|apply qc|apply qd|apply qe|apply qf|apply qg|apply qh|apply qi|apply qj|apply qk|apply ql|apply qm|apply qn|apply qo|apply qp|apply qq|refine blockP_ne (by decide) ?_)
   |((with_reducible refine Pwp.reg fun K hK=>?_);simp[*])
   |((with_reducible refine Hid.go hK ?_);clear hK K)|((with_reducible apply Pwp.condG);rfl)|((with_reducible first|apply qqj|apply qqk);simp[*];done)|((with_reducible first|apply qr|apply qs|apply qt|apply qu|apply qv|apply qw)<;>intro h)
   |((with_reducible first|apply qx|apply qy|apply qz|apply qqa|apply qqb|apply qqc)<;>intro h<;>try simp[h, *])
   |((with_reducible refine and_go ?_ fun hs=>?_);focus omega
     try simp[*])
   |((with_reducible first|apply qql|apply qqn|apply qqp);simp[*])
  refine Pwp.loopN (ι := Nat) (S := fun i => ⟨[handlesPv l, .func (.func g) fi ca, .any, .any, .any, .any, .any, .int .i64 l.length, .int .i64 i, .any, .any, .any, .any, .any, .any, .any, .any, .any, .any], [], i :: 4 :: A, 0⟩)
    (C := fun i => i ≤ l.length ∧ ∀ j, (h : j < l.length) → j < i → p l[j] = false) (μ := fun i => l.length - i) 0 ?_ ?_ ?_
  · refine PLe.tellIn [] ?_ ?_ ?_ ?_
    · simp
    · exact Sub.nil _
    · simp [ObLe.refl, *]
    · repeat' first | exact VLeL.nil | refine VLeL.cons ?_ ?_
      all_goals first | exact VLe.any _ | exact VLe.refl _ | exact VLe.ghost _ ⟨_, rfl, by omega, by omega⟩ | (apply VLe.row (h := ELe.refl _); (focus (first | exact St.find_hd _ _ _ | exact St.find_tl (by simp) (St.find_hd _ _ _) | exact St.find_tl (by simp) (St.find_tl (by simp) (St.find_hd _ _ _)))); (simp [*]; done)) | exact VLe.of_eq (by simp [*])
  · simp
  · rintro i ⟨hi, hp⟩
    repeat' first
     |(with_reducible first|apply qa|apply qb|apply qc|apply qd|apply qe|apply qf|apply qg|apply qh|apply qi|apply qj|apply qk|apply ql|apply qm|apply qn|apply qo|apply qp|apply qq|refine blockP_ne (by decide) ?_)
     |((with_reducible refine Pwp.reg fun K hK=>?_);simp[*])
     |((with_reducible refine Hid.go hK ?_);clear hK K)|((with_reducible apply Pwp.condG);rfl)|((with_reducible first|apply qqj|apply qqk);simp[*];done)|((with_reducible first|apply qr|apply qs|apply qt|apply qu|apply qv|apply qw)<;>intro h)
     |((with_reducible first|apply qx|apply qy|apply qz|apply qqa|apply qqb|apply qqc)<;>intro h<;>try simp[h, *])
     |((with_reducible refine and_go ?_ fun hs=>?_);focus omega
       try simp[*])
     |((with_reducible first|apply qql|apply qqn|apply qqp);simp[*])
    · have hi' := h
      refine vcallk_pure (hg _ _ (List.getElem_mem hi')) ?_
      repeat' first
       |(with_reducible first|apply qa|apply qb|apply qc|apply qd|apply qe|apply qf|apply qg|apply qh|apply qi|apply qj|apply qk|apply ql|apply qm|apply qn|apply qo|apply qp|apply qq|refine blockP_ne (by decide) ?_)
       |((with_reducible refine Pwp.reg fun K hK=>?_);simp[*, wrap_succ i (by omega)])
       |((with_reducible refine Hid.go hK ?_);clear hK K)|((with_reducible apply Pwp.condG);rfl)|((with_reducible first|apply qqj|apply qqk);simp[*, wrap_succ i (by omega)];done)|((with_reducible first|apply qr|apply qs|apply qt|apply qu|apply qv|apply qw)<;>intro h)
       |((with_reducible first|apply qx|apply qy|apply qz|apply qqa|apply qqb|apply qqc)<;>intro h<;>try simp[h, *, wrap_succ i (by omega)])
       |((with_reducible refine and_go ?_ fun hs=>?_);focus omega
         try simp[*, wrap_succ i (by omega)])
       |((with_reducible first|apply qql|apply qqn|apply qqp);simp[*, wrap_succ i (by omega)])
      · refine endP_ret0 ?_
        simp [idxF_hit hi' hp h]
      · refine roundN_go (i + 1) ?_ ⟨hi', fun j h1 h2 => ?_⟩ (by omega)
        · refine PLe.tellNext (pre := []) [] ?_ ?_ ?_ ?_
          · simp
          · exact Sub.nil _
          · simp [ObLe.refl, *]
          · repeat' first | exact VLeL.nil | refine VLeL.cons ?_ ?_
            all_goals first | exact VLe.any _ | exact VLe.refl _ | exact VLe.ghost _ ⟨_, rfl, by omega, by omega⟩ | (apply VLe.row (h := ELe.refl _); (focus (first | exact St.find_hd _ _ _ | exact St.find_tl (by simp) (St.find_hd _ _ _) | exact St.find_tl (by simp) (St.find_tl (by simp) (St.find_hd _ _ _)))); (simp [*]; done)) | exact VLe.of_eq (by simp [*])
        · by_cases e : j = i
          · subst e; exact h
          · exact hp j h1 (by omega)
    · refine endP_ret0 ?_
      simp [idxF_miss (p := p) fun j hj => hp j hj (by omega)]

theorem ent147 : enters Tryz.prog 147 = true := by kernel_rfl
theorem runs147 (A : Key) (l : List Handle) (p : Handle → Bool) (g : FuncId) (fi ca : List PV) (hl : l.length < 4611686018427387904) (hg : ∀ A', ∀ x ∈ l, Runs Tryz.prog A' g (fi ++ ([x.pv] ++ ca)) [] (.bool (p x)) []) :
    Runs Tryz.prog A 147 [handlesPv l, .func (.func g) fi ca] [] (.bool (l.any p)) [] := by
  refine Runs.body (rs := [.tmp 4]) ent147 Tryz.func147 rfl Tryz.ntmps147 rfl (fun x h => by cases h) ?_
  repeat' first
   |(with_reducible first|apply qa|apply qb|apply qc|apply qd|apply qe|apply qf|apply qg|apply qh|apply qi|apply qj|apply qk|apply ql|apply qm|apply qn|apply qo|apply qp|apply qq|refine blockP_ne (by decide) ?_)
   |((with_reducible refine Pwp.reg fun K hK=>?_);simp[*])
   |((with_reducible refine Hid.go hK ?_);clear hK K)|((with_reducible apply Pwp.condG);rfl)|((with_reducible first|apply qqj|apply qqk);simp[*];done)|((with_reducible first|apply qr|apply qs|apply qt|apply qu|apply qv|apply qw)<;>intro h)
   |((with_reducible first|apply qx|apply qy|apply qz|apply qqa|apply qqb|apply qqc)<;>intro h<;>try simp[h, *])
   |((with_reducible refine and_go ?_ fun hs=>?_);focus omega
     try simp[*])
   |((with_reducible first|apply qql|apply qqn|apply qqp);simp[*])
  refine vcallk_pure (runs242 _ l p g fi ca hl hg) ?_
  repeat' first
   |(with_reducible first|apply qa|apply qb|apply qc|apply qd|apply qe|apply qf|apply qg|apply qh|apply qi|apply qj|apply qk|apply ql|apply qm|apply qn|apply qo|apply qp|apply qq|refine blockP_ne (by decide) ?_)
   |((with_reducible refine Pwp.reg fun K hK=>?_);simp[*])
   |((with_reducible refine Hid.go hK ?_);clear hK K)|((with_reducible apply Pwp.condG);rfl)|((with_reducible first|apply qqj|apply qqk);simp[*];done)|((with_reducible first|apply qr|apply qs|apply qt|apply qu|apply qv|apply qw)<;>intro h)
   |((with_reducible first|apply qx|apply qy|apply qz|apply qqa|apply qqb|apply qqc)<;>intro h<;>try simp[h, *])
   |((with_reducible refine and_go ?_ fun hs=>?_);focus omega
     try simp[*])
   |((with_reducible first|apply qql|apply qqn|apply qqp);simp[*])
  refine endP_ret0 ?_
  simp [idxF_any]
end Go.Pv

set_option linter.unusedVariables false
set_option linter.unusedSimpArgs false
set_option maxRecDepth 100000
namespace Go.Pv
open Go Go.Proofs

def slotBad (x : Slot) : Bool := decide (x.gen < 1 ∨ 1073741824 < x.gen)
def arenaBad (l : List Slot) : Bool := decide (128 < l.length) || l.any slotBad
def errIf (b : Bool) : Int := if b then 8 else 0
def Held (l : List Slot) (h : Handle) : Prop := 0 ≤ h.slot ∧ l[h.slot.toNat]? = some ⟨h.gen, true⟩
instance (l : List Slot) (h : Handle) : Decidable (Held l h) := inferInstanceAs (Decidable (_ ∧ _))
def HoldsB (l : List Slot) (h : Handle) : Bool := !arenaBad l && decide (Held l h)

theorem ent240 : enters Tryz.prog 240 = true := by kernel_rfl
theorem runs240 (A : Key) (x : Slot) : Runs Tryz.prog A 240 [x.pv] [] (.bool (slotBad x)) [] := by
  refine Runs.body (rs := [.tmp 2]) ent240 Tryz.func240 rfl Tryz.ntmps240 rfl (fun x h => by cases h) ?_
  repeat' first
   |(with_reducible first|apply qa|apply qb|apply qc|apply qd|apply qe|apply qf|apply qg|apply qh|apply qi|apply qj|apply qk|apply ql|apply qm|apply qn|apply qo|apply qp|apply qq|refine blockP_ne (by decide) ?_)
   |((with_reducible refine Pwp.reg fun K hK=>?_);simp[*])
   |((with_reducible refine Hid.go hK ?_);clear hK K)|((with_reducible apply Pwp.condG);rfl)|((with_reducible first|apply qqj|apply qqk);simp[*];done)|((with_reducible first|apply qr|apply qs|apply qt|apply qu|apply qv|apply qw)<;>intro h)
   |((with_reducible first|apply qx|apply qy|apply qz|apply qqa|apply qqb|apply qqc)<;>intro h<;>try simp[h, *])
   |((with_reducible refine and_go ?_ fun hs=>?_);focus omega
     try simp[*])
   |((with_reducible first|apply qql|apply qqn|apply qqp);simp[*])
  all_goals (refine endP_ret0 ?_; simp [slotBad, h])

theorem ent145 : enters Tryz.prog 145 = true := by kernel_rfl
theorem runs145 (A : Key) (l : List Slot) (hl : l.length < 4611686018427387904) : Runs Tryz.prog A 145 [arenaPv l] [] (.int .i64 (errIf (arenaBad l))) [] := by
  refine Runs.body (rs := [.tmp 2]) ent145 Tryz.func145 rfl Tryz.ntmps145 rfl (fun x h => by cases h) ?_
  repeat' first
   |(with_reducible first|apply qa|apply qb|apply qc|apply qd|apply qe|apply qf|apply qg|apply qh|apply qi|apply qj|apply qk|apply ql|apply qm|apply qn|apply qo|apply qp|apply qq|refine blockP_ne (by decide) ?_)
   |((with_reducible refine Pwp.reg fun K hK=>?_);simp[*])
   |((with_reducible refine Hid.go hK ?_);clear hK K)|((with_reducible apply Pwp.condG);rfl)|((with_reducible first|apply qqj|apply qqk);simp[*];done)|((with_reducible first|apply qr|apply qs|apply qt|apply qu|apply qv|apply qw)<;>intro h)
   |((with_reducible first|apply qx|apply qy|apply qz|apply qqa|apply qqb|apply qqc)<;>intro h<;>try simp[h, *])
   |((with_reducible refine and_go ?_ fun hs=>?_);focus omega
     try simp[*])
   |((with_reducible first|apply qql|apply qqn|apply qqp);simp[*])
  · refine endP_ret0 ?_
    have : 128 < l.length := by omega
    simp [errIf, arenaBad, this]
  · have h1 : ¬ 128 < l.length := by omega
    refine vcallk_pure (runs241 _ l slotBad 240 [] [] hl (fun A' x _ => runs240 A' x)) ?_
    repeat' first
     |(with_reducible first|apply qa|apply qb|apply qc|apply qd|apply qe|apply qf|apply qg|apply qh|apply qi|apply qj|apply qk|apply ql|apply qm|apply qn|apply qo|apply qp|apply qq|refine blockP_ne (by decide) ?_)
     |((with_reducible refine Pwp.reg fun K hK=>?_);simp[*])
     |((with_reducible refine Hid.go hK ?_);clear hK K)|((with_reducible apply Pwp.condG);rfl)|((with_reducible first|apply qqj|apply qqk);simp[*];done)|((with_reducible first|apply qr|apply qs|apply qt|apply qu|apply qv|apply qw)<;>intro h)
     |((with_reducible first|apply qx|apply qy|apply qz|apply qqa|apply qqb|apply qqc)<;>intro h<;>try simp[h, *])
     |((with_reducible refine and_go ?_ fun hs=>?_);focus omega
       try simp[*])
     |((with_reducible first|apply qql|apply qqn|apply qqp);simp[*])
    · refine endP_ret0 ?_
      simp [errIf, arenaBad, h1, h]
    · refine endP_ret0 ?_
      simp [errIf, arenaBad, h1, h]

theorem ent154 : enters Tryz.prog 154 = true := by kernel_rfl
theorem runs154 (A : Key) (l : List Slot) (h : Handle) : Runs Tryz.prog A 154 [arenaPv l, h.pv] [] (.bool (decide (Held l h))) [] := by
  obtain ⟨hs, hg⟩ := h
  cases hx : l[hs.toNat]? with
  | none =>
    refine Runs.body (rs := [.tmp 4]) ent154 Tryz.func154 rfl Tryz.ntmps154 rfl (fun x h => by cases h) ?_
    repeat' first
     |(with_reducible first|apply qa|apply qb|apply qc|apply qd|apply qe|apply qf|apply qg|apply qh|apply qi|apply qj|apply qk|apply ql|apply qm|apply qn|apply qo|apply qp|apply qq|refine blockP_ne (by decide) ?_)
     |((with_reducible refine Pwp.reg fun K hK=>?_);simp[*])
     |((with_reducible refine Pwp.drawn (id := 1) follows_mixed [0, 1, 3, 7, 15, 31, 15, 79, 207, 511, 1023, 2047, 4095, 8191, 4095, 20479, 65535, 131071, 4095, 266239, 790527, 2097151, 4194303, 8388607] [false, true, false, false, false, false, false, false, false, false, false, false, false, false, false, false, false, false, false, false, false, false, false, false] ?_ fun K hK => ?_); focus kernel_rfl
       simp [*])
     |((with_reducible refine Hid.go hK ?_);clear hK K)|((with_reducible apply Pwp.condG);rfl)|((with_reducible first|apply qqj|apply qqk);simp[*];done)|((with_reducible first|apply qr|apply qs|apply qt|apply qu|apply qv|apply qw)<;>intro h)
     |((with_reducible first|apply qx|apply qy|apply qz|apply qqa|apply qqb|apply qqc|apply qqd|apply qqe|apply qqf|apply qqg|apply qqh|apply qqi)<;>intro h<;>try simp[h, *])
     |((with_reducible refine and_go ?_ fun hs=>?_);focus omega
       try simp[*])
     |((with_reducible first|apply qql|apply qqn|apply qqp|apply qqm|apply qqo|apply qqq);simp[*])
    · exfalso
      rw [List.getElem?_eq_none_iff] at hx
      omega
    all_goals (refine endP_ret0 ?_; simp [Held, hx])
  | some x =>
    refine Runs.body (rs := [.tmp 4]) ent154 Tryz.func154 rfl Tryz.ntmps154 rfl (fun x h => by cases h) ?_
    repeat' first
     |(with_reducible first|apply qa|apply qb|apply qc|apply qd|apply qe|apply qf|apply qg|apply qh|apply qi|apply qj|apply qk|apply ql|apply qm|apply qn|apply qo|apply qp|apply qq|refine blockP_ne (by decide) ?_)
     |((with_reducible refine Pwp.reg fun K hK=>?_);simp[*])
     |((with_reducible refine Pwp.drawn (id := 1) follows_mixed [0, 1, 3, 7, 15, 31, 15, 79, 207, 511, 1023, 2047, 4095, 8191, 4095, 20479, 65535, 131071, 4095, 266239, 790527, 2097151, 4194303, 8388607] [false, true, false, false, false, false, false, false, false, false, false, false, false, false, false, false, false, false, false, false, false, false, false, false] ?_ fun K hK => ?_); focus kernel_rfl
       simp [*])
     |((with_reducible refine Hid.go hK ?_);clear hK K)|((with_reducible apply Pwp.condG);rfl)|((with_reducible first|apply qqj|apply qqk);simp[*];done)|((with_reducible first|apply qr|apply qs|apply qt|apply qu|apply qv|apply qw)<;>intro h)
     |((with_reducible first|apply qx|apply qy|apply qz|apply qqa|apply qqb|apply qqc|apply qqd|apply qqe|apply qqf|apply qqg|apply qqh|apply qqi)<;>intro h<;>try simp[h, *])
     |((with_reducible refine and_go ?_ fun hs=>?_);focus omega
       try simp[*])
     |((with_reducible first|apply qql|apply qqn|apply qqp|apply qqm|apply qqo|apply qqq);simp[*])
    · refine endP_ret0 ?_
      rename_i h0
      have hlt : hs.toNat < l.length := by omega
      have e : l[hs.toNat]? = some l[hs.toNat] := List.getElem?_eq_getElem hlt
      have e2 : decide (Held l ⟨hs, hg⟩) = (decide (l[hs.toNat].gen = hg) && l[hs.toNat].live) := by
        rw [Bool.eq_iff_iff]
        simp only [decide_eq_true_eq, Bool.and_eq_true]
        unfold Held
        rw [e]
        generalize l[hs.toNat] = y
        obtain ⟨yg, yl⟩ := y
        simp [h0]
      simp [e2]
    · refine endP_ret0 ?_
      exfalso
      have := (List.getElem?_eq_some_iff.1 hx).1
      omega
    · refine endP_ret0 ?_
      simp [Held, h]

theorem ent71 : enters Tryz.prog 71 = true := by kernel_rfl
theorem runs71 (A : Key) (l : List Slot) (h : Handle) (hl : l.length < 4611686018427387904) : Runs Tryz.prog A 71 [arenaPv l, h.pv] [] (.bool (HoldsB l h)) [] := by
  refine Runs.body (rs := [.tmp 4]) ent71 Tryz.func71 rfl Tryz.ntmps71 rfl (fun x h => by cases h) ?_
  repeat' first
   |(with_reducible first|apply qa|apply qb|apply qc|apply qd|apply qe|apply qf|apply qg|apply qh|apply qi|apply qj|apply qk|apply ql|apply qm|apply qn|apply qo|apply qp|apply qq|refine blockP_ne (by decide) ?_)
   |((with_reducible refine Pwp.reg fun K hK=>?_);simp[*])
   |((with_reducible refine Hid.go hK ?_);clear hK K)|((with_reducible apply Pwp.condG);rfl)|((with_reducible first|apply qqj|apply qqk);simp[*];done)|((with_reducible first|apply qr|apply qs|apply qt|apply qu|apply qv|apply qw)<;>intro h)
   |((with_reducible first|apply qx|apply qy|apply qz|apply qqa|apply qqb|apply qqc)<;>intro h<;>try simp[h, *])
   |((with_reducible refine and_go ?_ fun hs=>?_);focus omega
     try simp[*])
   |((with_reducible first|apply qql|apply qqn|apply qqp);simp[*])
  refine vcallk_pure (runs145 _ l hl) ?_
  cases hb : arenaBad l with
  | true =>
    repeat' first
     |(with_reducible first|apply qa|apply qb|apply qc|apply qd|apply qe|apply qf|apply qg|apply qh|apply qi|apply qj|apply qk|apply ql|apply qm|apply qn|apply qo|apply qp|apply qq|refine blockP_ne (by decide) ?_)
     |((with_reducible refine Pwp.reg fun K hK=>?_);simp[*, errIf])
     |((with_reducible refine Hid.go hK ?_);clear hK K)|((with_reducible apply Pwp.condG);rfl)|((with_reducible first|apply qqj|apply qqk);simp[*, errIf];done)|((with_reducible first|apply qr|apply qs|apply qt|apply qu|apply qv|apply qw)<;>intro h)
     |((with_reducible first|apply qx|apply qy|apply qz|apply qqa|apply qqb|apply qqc)<;>intro h<;>try simp[h, *, errIf])
     |((with_reducible refine and_go ?_ fun hs=>?_);focus omega
       try simp[*, errIf])
     |((with_reducible first|apply qql|apply qqn|apply qqp);simp[*, errIf])
    all_goals (refine endP_ret0 ?_; simp [HoldsB, hb])
  | false =>
    repeat' first
     |(with_reducible first|apply qa|apply qb|apply qc|apply qd|apply qe|apply qf|apply qg|apply qh|apply qi|apply qj|apply qk|apply ql|apply qm|apply qn|apply qo|apply qp|apply qq|refine blockP_ne (by decide) ?_)
     |((with_reducible refine Pwp.reg fun K hK=>?_);simp[*, errIf])
     |((with_reducible refine Hid.go hK ?_);clear hK K)|((with_reducible apply Pwp.condG);rfl)|((with_reducible first|apply qqj|apply qqk);simp[*, errIf];done)|((with_reducible first|apply qr|apply qs|apply qt|apply qu|apply qv|apply qw)<;>intro h)
     |((with_reducible first|apply qx|apply qy|apply qz|apply qqa|apply qqb|apply qqc)<;>intro h<;>try simp[h, *, errIf])
     |((with_reducible refine and_go ?_ fun hs=>?_);focus omega
       try simp[*, errIf])
     |((with_reducible first|apply qql|apply qqn|apply qqp);simp[*, errIf])
    refine vcallk_pure (runs154 _ l h) ?_
    repeat' first
     |(with_reducible first|apply qa|apply qb|apply qc|apply qd|apply qe|apply qf|apply qg|apply qh|apply qi|apply qj|apply qk|apply ql|apply qm|apply qn|apply qo|apply qp|apply qq|refine blockP_ne (by decide) ?_)
     |((with_reducible refine Pwp.reg fun K hK=>?_);simp[*, errIf])
     |((with_reducible refine Hid.go hK ?_);clear hK K)|((with_reducible apply Pwp.condG);rfl)|((with_reducible first|apply qqj|apply qqk);simp[*, errIf];done)|((with_reducible first|apply qr|apply qs|apply qt|apply qu|apply qv|apply qw)<;>intro h)
     |((with_reducible first|apply qx|apply qy|apply qz|apply qqa|apply qqb|apply qqc)<;>intro h<;>try simp[h, *, errIf])
     |((with_reducible refine and_go ?_ fun hs=>?_);focus omega
       try simp[*, errIf])
     |((with_reducible first|apply qql|apply qqn|apply qqp);simp[*, errIf])
    all_goals (refine endP_ret0 ?_; simp [HoldsB, hb])
end Go.Pv

set_option linter.unusedVariables false
set_option linter.unusedSimpArgs false
set_option maxRecDepth 100000
namespace Go.Pv
open Go Go.Proofs

def inB (n : Int) (x : Int) : Bool := decide (-n ≤ x ∧ x ≤ n)

theorem ent294 : enters Tryz.prog 294 = true := by kernel_rfl
theorem runs294 (A : Key) (n : Int) (l : List Int) (hn : 0 ≤ n ∧ n ≤ 1099511627776) (hl : l.length < 4611686018427387904) : Runs Tryz.prog A 294 [.int .i64 n, intsPv l] [] (.bool (l.all (inB n))) [] := by
  refine Runs.body (rs := [.tmp 4]) ent294 Tryz.func294 rfl Tryz.ntmps294 rfl (fun x h => by cases h) ?_
  repeat' first
   |(with_reducible first|apply qa|apply qb|apply qc|apply qd|apply qe|apply qf|apply qg|apply qh|apply qi|apply qj|apply qk|apply ql|apply qm|apply qn|apply qo|apply qp|apply qq|refine blockP_ne (by decide) ?_)
   |((with_reducible refine Pwp.reg fun K hK=>?_);simp[*])
   |((with_reducible refine Hid.go hK ?_);clear hK K)|((with_reducible apply Pwp.condG);rfl)|((with_reducible first|apply qqj|apply qqk);simp[*];done)|((with_reducible first|apply qr|apply qs|apply qt|apply qu|apply qv|apply qw)<;>intro h)
   |((with_reducible first|apply qx|apply qy|apply qz|apply qqa|apply qqb|apply qqc)<;>intro h<;>try simp[h, *])
   |((with_reducible refine and_go ?_ fun hs=>?_);focus omega
     try simp[*])
   |((with_reducible first|apply qql|apply qqn|apply qqp);simp[*])
  refine Pwp.loopN (ι := Nat) (S := fun i => ⟨[.int .i64 n, .any, .any, .any, .any, .any, .any, intsPv l, .int .i64 l.length, .int .i64 i, .any, .any, .any, .any, .any, .any, .any, .any, .any, .any, .any, .any, .any], [], i :: 4 :: A, 0⟩)
    (C := fun i => i ≤ l.length ∧ ∀ j, (h : j < l.length) → j < i → inB n l[j] = true) (μ := fun i => l.length - i) 0 ?_ ?_ ?_
  · refine PLe.tellIn [] ?_ ?_ ?_ ?_
    · simp
    · exact Sub.nil _
    · simp [ObLe.refl, *]
    · repeat' first | exact VLeL.nil | refine VLeL.cons ?_ ?_
      all_goals first | exact VLe.any _ | exact VLe.refl _ | exact VLe.ghost _ ⟨_, rfl, by omega, by omega⟩ | (apply VLe.row (h := ELe.refl _); (focus (first | exact St.find_hd _ _ _ | exact St.find_tl (by simp) (St.find_hd _ _ _) | exact St.find_tl (by simp) (St.find_tl (by simp) (St.find_hd _ _ _)))); (simp [*]; done)) | exact VLe.of_eq (by simp [*])
  · simp
  · rintro i ⟨hi, hp⟩
    have hw := wrap_in (0 - n) (by omega)
    simp only [Int.zero_sub] at hw
    repeat' first
     |(with_reducible first|apply qa|apply qb|apply qc|apply qd|apply qe|apply qf|apply qg|apply qh|apply qi|apply qj|apply qk|apply ql|apply qm|apply qn|apply qo|apply qp|apply qq|refine blockP_ne (by decide) ?_)
     |((with_reducible refine Pwp.reg fun K hK=>?_);simp[*, wrap_succ i (by omega)])
     |((with_reducible refine Hid.go hK ?_);clear hK K)|((with_reducible apply Pwp.condG);rfl)|((with_reducible first|apply qqj|apply qqk);simp[*, wrap_succ i (by omega)];done)|((with_reducible first|apply qr|apply qs|apply qt|apply qu|apply qv|apply qw)<;>intro h)
     |((with_reducible first|apply qx|apply qy|apply qz|apply qqa|apply qqb|apply qqc)<;>intro h<;>try simp[h, *, wrap_succ i (by omega)])
     |((with_reducible refine and_go ?_ fun hs=>?_);focus omega
       try simp[*, wrap_succ i (by omega)])
     |((with_reducible first|apply qql|apply qqn|apply qqp);simp[*, wrap_succ i (by omega)])
    · rename_i hi'
      refine endP_ret0 ?_
      simp [all_hit hi' (p := inB n) (by simp [inB]; omega)]
    · rename_i hi' _
      refine endP_ret0 ?_
      simp [all_hit hi' (p := inB n) (by simp [inB]; omega)]
    · rename_i hi' _
      refine roundN_go (i + 1) ?_ ⟨hi', upto_succ hp hi' (by simp [inB]; omega)⟩ (by omega)
      refine PLe.tellNext (pre := []) [] ?_ ?_ ?_ ?_
      · simp
      · exact Sub.nil _
      · simp [ObLe.refl, *]
      · repeat' first | exact VLeL.nil | refine VLeL.cons ?_ ?_
        all_goals first | exact VLe.any _ | exact VLe.refl _ | exact VLe.ghost _ ⟨_, rfl, by omega, by omega⟩ | (apply VLe.row (h := ELe.refl _); (focus (first | exact St.find_hd _ _ _ | exact St.find_tl (by simp) (St.find_hd _ _ _) | exact St.find_tl (by simp) (St.find_tl (by simp) (St.find_hd _ _ _)))); (simp [*]; done)) | exact VLe.of_eq (by simp [*])
    · refine endP_ret0 ?_
      simp [all_miss (p := inB n) fun j hj => hp j hj (by omega)]

def vecOk (v : Vec) : Bool := [v.x, v.y, v.z].all (inB 4096)

theorem ent245 : enters Tryz.prog 245 = true := by kernel_rfl
theorem runs245 (A : Key) (v : Vec) : Runs Tryz.prog A 245 [v.pv] [] (.int .i64 (if vecOk v then 0 else 20)) [] := by
  refine Runs.body (rs := [.tmp 2]) ent245 Tryz.func245 rfl Tryz.ntmps245 rfl (fun x h => by cases h) ?_
  repeat' first
   |(with_reducible first|apply qa|apply qb|apply qc|apply qd|apply qe|apply qf|apply qg|apply qh|apply qi|apply qj|apply qk|apply ql|apply qm|apply qn|apply qo|apply qp|apply qq|refine blockP_ne (by decide) ?_)
   |((with_reducible refine Pwp.reg fun K hK=>?_);simp[*])
   |((with_reducible refine Hid.go hK ?_);clear hK K)|((with_reducible apply Pwp.condG);rfl)|((with_reducible first|apply qqj|apply qqk);simp[*];done)|((with_reducible first|apply qr|apply qs|apply qt|apply qu|apply qv|apply qw)<;>intro h)
   |((with_reducible first|apply qx|apply qy|apply qz|apply qqa|apply qqb|apply qqc)<;>intro h<;>try simp[h, *])
   |((with_reducible refine and_go ?_ fun hs=>?_);focus omega
     try simp[*])
   |((with_reducible first|apply qql|apply qqn|apply qqp);simp[*])
  refine vcallk_new (Runs.borrow [(8 :: A, Ob.row 1 [.int .i64 v.x, .int .i64 v.y, .int .i64 v.z])] (runs294 _ 4096 [v.x, v.y, v.z] (by omega) (by simp)) ?_ rfl) (Sub.one (by simp)) ?_
  · exact VLeL.cons (VLe.refl _) (VLeL.cons (VLe.row (es := [.int .i64 v.x, .int .i64 v.y, .int .i64 v.z]) (sz := 1) (by simp [St.find]) rfl (ELe.refl _)) VLeL.nil)
  · repeat' first
     |(with_reducible first|apply qa|apply qb|apply qc|apply qd|apply qe|apply qf|apply qg|apply qh|apply qi|apply qj|apply qk|apply ql|apply qm|apply qn|apply qo|apply qp|apply qq|refine blockP_ne (by decide) ?_)
     |((with_reducible refine Pwp.reg fun K hK=>?_);simp[*])
     |((with_reducible refine Hid.go hK ?_);clear hK K)|((with_reducible apply Pwp.condG);rfl)|((with_reducible first|apply qqj|apply qqk);simp[*];done)|((with_reducible first|apply qr|apply qs|apply qt|apply qu|apply qv|apply qw)<;>intro h)
     |((with_reducible first|apply qx|apply qy|apply qz|apply qqa|apply qqb|apply qqc)<;>intro h<;>try simp[h, *])
     |((with_reducible refine and_go ?_ fun hs=>?_);focus omega
       try simp[*])
     |((with_reducible first|apply qql|apply qqn|apply qqp);simp[*])
    · refine endP_ret0 ?_
      have : vecOk v = false := by
        simp only [vecOk, List.all_cons, List.all_nil, Bool.and_true]
        cases h1 : inB 4096 v.x <;> cases h2 : inB 4096 v.y <;> cases h3 : inB 4096 v.z <;> simp_all
      simp [this]
    · refine endP_ret0 ?_
      have : vecOk v = true := by
        simp only [vecOk, List.all_cons, List.all_nil, Bool.and_true]
        cases h1 : inB 4096 v.x <;> cases h2 : inB 4096 v.y <;> cases h3 : inB 4096 v.z <;> simp_all
      simp [this]
end Go.Pv

set_option linter.unusedVariables false
set_option linter.unusedSimpArgs false
set_option maxRecDepth 100000
namespace Go.Pv
open Go Go.Proofs

def rowOk (a b c : Int) : Bool := [a, b, c].all (inB 1024)
def nine (a b c d e f g k i : Int) : PV := .agg [.int .i64 a, .int .i64 b, .int .i64 c, .int .i64 d, .int .i64 e, .int .i64 f, .int .i64 g, .int .i64 k, .int .i64 i]

theorem ent293 : enters Tryz.prog 293 = true := by kernel_rfl
theorem runs293 (A : Key) (a b c d e f g k i : Int) : Runs Tryz.prog A 293 [nine a b c d e f g k i] [] (.bool (rowOk a b c && rowOk d e f && rowOk g k i)) [] := by
  unfold nine
  refine Runs.body (rs := [.tmp 2]) ent293 Tryz.func293 rfl Tryz.ntmps293 rfl (fun x h => by cases h) ?_
  repeat' first
   |(with_reducible first|apply qa|apply qb|apply qc|apply qd|apply qe|apply qf|apply qg|apply qh|apply qi|apply qj|apply qk|apply ql|apply qm|apply qn|apply qo|apply qp|apply qq|refine blockP_ne (by decide) ?_)
   |((with_reducible refine Pwp.reg fun K hK=>?_);simp[*])
   |((with_reducible refine Hid.go hK ?_);clear hK K)|((with_reducible apply Pwp.condG);rfl)|((with_reducible first|apply qqj|apply qqk);simp[*];done)|((with_reducible first|apply qr|apply qs|apply qt|apply qu|apply qv|apply qw)<;>intro h)
   |((with_reducible first|apply qx|apply qy|apply qz|apply qqa|apply qqb|apply qqc)<;>intro h<;>try simp[h, *])
   |((with_reducible refine and_go ?_ fun hs=>?_);focus omega
     try simp[*])
   |((with_reducible first|apply qql|apply qqn|apply qqp);simp[*])
  refine Pwp.loopN (ι := Nat) (S := fun j => ⟨[.any, .any, .any, .any, .any, nine a b c d e f g k i, .int .i64 j, .any, .any, .any, .any, .any, .any], [], j :: 4 :: A, 0⟩)
    (C := fun j => j = 0 ∨ (j = 1 ∧ rowOk a b c = true) ∨ (j = 2 ∧ rowOk a b c = true ∧ rowOk d e f = true) ∨ (j = 3 ∧ rowOk a b c = true ∧ rowOk d e f = true ∧ rowOk g k i = true)) (μ := fun j => 3 - j) 0 ?_ ?_ ?_
  · refine PLe.tellIn [] ?_ ?_ ?_ ?_
    · simp
    · exact Sub.nil _
    · simp [ObLe.refl, *]
    · repeat' first | exact VLeL.nil | refine VLeL.cons ?_ ?_
      all_goals first | exact VLe.any _ | exact VLe.refl _ | exact VLe.ghost _ ⟨_, rfl, by omega, by omega⟩ | (apply VLe.row (h := ELe.refl _); (focus (first | exact St.find_hd _ _ _ | exact St.find_tl (by simp) (St.find_hd _ _ _) | exact St.find_tl (by simp) (St.find_tl (by simp) (St.find_hd _ _ _)))); (simp [*]; done)) | exact VLe.of_eq (by simp [*])
  · simp
  · rintro j hj
    unfold nine
    rcases hj with rfl | ⟨rfl, h1⟩ | ⟨rfl, h1, h2⟩ | ⟨rfl, h1, h2, h3⟩
    · repeat' first
       |(with_reducible first|apply qa|apply qb|apply qc|apply qd|apply qe|apply qf|apply qg|apply qh|apply qi|apply qj|apply qk|apply ql|apply qm|apply qn|apply qo|apply qp|apply qq|refine blockP_ne (by decide) ?_)
       |((with_reducible refine Hid.go hK ?_);clear hK K)|((with_reducible apply Pwp.condG);rfl)|((with_reducible first|apply qqj|apply qqk);simp[*];done)|((with_reducible first|apply qr|apply qs|apply qt|apply qu|apply qv|apply qw)<;>intro h)
       |((with_reducible first|apply qx|apply qy|apply qz|apply qqa|apply qqb|apply qqc)<;>intro h<;>try simp[h, *])
       |((with_reducible refine and_go ?_ fun hs=>?_);focus omega
         try simp[*])
       |((with_reducible first|apply qql|apply qqn|apply qqp);simp[*])
      refine Pwp.reg fun K hK => ?_
      simp [*]
      refine Hid.go hK ?_
      clear hK K
      repeat' first
       |(with_reducible first|apply qa|apply qb|apply qc|apply qd|apply qe|apply qf|apply qg|apply qh|apply qi|apply qj|apply qk|apply ql|apply qm|apply qn|apply qo|apply qp|apply qq|refine blockP_ne (by decide) ?_)
       |((with_reducible refine Hid.go hK ?_);clear hK K)|((with_reducible apply Pwp.condG);rfl)|((with_reducible first|apply qqj|apply qqk);simp[*];done)|((with_reducible first|apply qr|apply qs|apply qt|apply qu|apply qv|apply qw)<;>intro h)
       |((with_reducible first|apply qx|apply qy|apply qz|apply qqa|apply qqb|apply qqc)<;>intro h<;>try simp[h, *])
       |((with_reducible refine and_go ?_ fun hs=>?_);focus omega
         try simp[*])
       |((with_reducible first|apply qql|apply qqn|apply qqp);simp[*])
      refine Pwp.reg fun K hK => ?_
      simp [*]
      refine Hid.go hK ?_
      clear hK K
      repeat' first
       |(with_reducible first|apply qa|apply qb|apply qc|apply qd|apply qe|apply qf|apply qg|apply qh|apply qi|apply qj|apply qk|apply ql|apply qm|apply qn|apply qo|apply qp|apply qq|refine blockP_ne (by decide) ?_)
       |((with_reducible refine Hid.go hK ?_);clear hK K)|((with_reducible apply Pwp.condG);rfl)|((with_reducible first|apply qqj|apply qqk);simp[*];done)|((with_reducible first|apply qr|apply qs|apply qt|apply qu|apply qv|apply qw)<;>intro h)
       |((with_reducible first|apply qx|apply qy|apply qz|apply qqa|apply qqb|apply qqc)<;>intro h<;>try simp[h, *])
       |((with_reducible refine and_go ?_ fun hs=>?_);focus omega
         try simp[*])
       |((with_reducible first|apply qql|apply qqn|apply qqp);simp[*])
      refine Pwp.weaken (PLe.tellRet (env' := [.any, .any, .any, .any, .iptr [.agg [.int .i64 a, .int .i64 b, .int .i64 c]] 0 0, nine a b c d e f g k i, .int .i64 0, .any, .any, .any, .any, .any, .any]) (st' := []) [(2 :: 0 :: 4 :: A, Ob.row 3 [.agg [.int .i64 a, .int .i64 b, .int .i64 c]])] (Sub.one (by simp)) (by simp) ?_) ?_
      · unfold nine
        repeat' first | exact VLeL.nil | refine VLeL.cons ?_ ?_
        all_goals first | exact VLe.any _ | exact VLe.refl _ | exact VLe.prow (sz := 3) (by simp [St.find]) rfl (ELe.refl _)
      unfold nine
      repeat' first
       |(with_reducible first|apply qa|apply qb|apply qc|apply qd|apply qe|apply qf|apply qg|apply qh|apply qi|apply qj|apply qk|apply ql|apply qm|apply qn|apply qo|apply qp|apply qq|refine blockP_ne (by decide) ?_)
       |((with_reducible refine Pwp.reg fun K hK=>?_);simp[*, PV.scalar])
       |((with_reducible refine Hid.go hK ?_);clear hK K)|((with_reducible apply Pwp.condG);rfl)|((with_reducible first|apply qqj|apply qqk);simp[*, PV.scalar];done)|((with_reducible first|apply qr|apply qs|apply qt|apply qu|apply qv|apply qw)<;>intro h)
       |((with_reducible first|apply qx|apply qy|apply qz|apply qqa|apply qqb|apply qqc)<;>intro h<;>try simp[h, *, PV.scalar])
       |((with_reducible refine and_go ?_ fun hs=>?_);focus omega
         try simp[*, PV.scalar])
       |((with_reducible first|apply qql|apply qqn|apply qqp);simp[*, PV.scalar])
      refine vcallk_pure (Runs.args (runs294 _ 1024 [a, b, c] (by omega) (by simp)) (VLeL.cons (VLe.refl _) (VLeL.cons (VLe.cap _ _) VLeL.nil))) ?_
      have hr : rowOk a b c = (inB 1024 a && (inB 1024 b && inB 1024 c)) := by simp [rowOk]
      repeat' first
       |(with_reducible first|apply qa|apply qb|apply qc|apply qd|apply qe|apply qf|apply qg|apply qh|apply qi|apply qj|apply qk|apply ql|apply qm|apply qn|apply qo|apply qp|apply qq|refine blockP_ne (by decide) ?_)
       |((with_reducible refine Pwp.reg fun K hK=>?_);simp[*])
       |((with_reducible refine Hid.go hK ?_);clear hK K)|((with_reducible apply Pwp.condG);rfl)|((with_reducible first|apply qqj|apply qqk);simp[*];done)|((with_reducible first|apply qr|apply qs|apply qt|apply qu|apply qv|apply qw)<;>intro h)
       |((with_reducible first|apply qx|apply qy|apply qz|apply qqa|apply qqb|apply qqc)<;>intro h<;>try simp[h, *])
       |((with_reducible refine and_go ?_ fun hs=>?_);focus omega
         try simp[*])
       |((with_reducible first|apply qql|apply qqn|apply qqp);simp[*])
      · refine endP_ret0 ?_
        have : rowOk a b c = false := by rw [hr]; have hh := ‹(_ || _) = true›; revert hh; cases inB 1024 a <;> cases inB 1024 b <;> cases inB 1024 c <;> simp
        simp [this]
      · have : rowOk a b c = true := by rw [hr]; have hh := ‹(_ || _) = false›; revert hh; cases inB 1024 a <;> cases inB 1024 b <;> cases inB 1024 c <;> simp
        refine roundN_go 1 ?_ (by simp [this]) (by omega)
        refine PLe.tellNext (pre := []) [] ?_ ?_ ?_ ?_
        · simp
        · exact Sub.nil _
        · simp [ObLe.refl, *]
        · repeat' first | exact VLeL.nil | refine VLeL.cons ?_ ?_
          all_goals first | exact VLe.any _ | exact VLe.refl _ | exact VLe.ghost _ ⟨_, rfl, by omega, by omega⟩ | (apply VLe.row (h := ELe.refl _); (focus (first | exact St.find_hd _ _ _ | exact St.find_tl (by simp) (St.find_hd _ _ _) | exact St.find_tl (by simp) (St.find_tl (by simp) (St.find_hd _ _ _)))); (simp [*]; done)) | exact VLe.of_eq (by simp [*])
    · repeat' first
       |(with_reducible first|apply qa|apply qb|apply qc|apply qd|apply qe|apply qf|apply qg|apply qh|apply qi|apply qj|apply qk|apply ql|apply qm|apply qn|apply qo|apply qp|apply qq|refine blockP_ne (by decide) ?_)
       |((with_reducible refine Hid.go hK ?_);clear hK K)|((with_reducible apply Pwp.condG);rfl)|((with_reducible first|apply qqj|apply qqk);simp[*];done)|((with_reducible first|apply qr|apply qs|apply qt|apply qu|apply qv|apply qw)<;>intro h)
       |((with_reducible first|apply qx|apply qy|apply qz|apply qqa|apply qqb|apply qqc)<;>intro h<;>try simp[h, *])
       |((with_reducible refine and_go ?_ fun hs=>?_);focus omega
         try simp[*])
       |((with_reducible first|apply qql|apply qqn|apply qqp);simp[*])
      refine Pwp.reg fun K hK => ?_
      simp [*]
      refine Hid.go hK ?_
      clear hK K
      repeat' first
       |(with_reducible first|apply qa|apply qb|apply qc|apply qd|apply qe|apply qf|apply qg|apply qh|apply qi|apply qj|apply qk|apply ql|apply qm|apply qn|apply qo|apply qp|apply qq|refine blockP_ne (by decide) ?_)
       |((with_reducible refine Hid.go hK ?_);clear hK K)|((with_reducible apply Pwp.condG);rfl)|((with_reducible first|apply qqj|apply qqk);simp[*];done)|((with_reducible first|apply qr|apply qs|apply qt|apply qu|apply qv|apply qw)<;>intro h)
       |((with_reducible first|apply qx|apply qy|apply qz|apply qqa|apply qqb|apply qqc)<;>intro h<;>try simp[h, *])
       |((with_reducible refine and_go ?_ fun hs=>?_);focus omega
         try simp[*])
       |((with_reducible first|apply qql|apply qqn|apply qqp);simp[*])
      refine Pwp.reg fun K hK => ?_
      simp [*]
      refine Hid.go hK ?_
      clear hK K
      repeat' first
       |(with_reducible first|apply qa|apply qb|apply qc|apply qd|apply qe|apply qf|apply qg|apply qh|apply qi|apply qj|apply qk|apply ql|apply qm|apply qn|apply qo|apply qp|apply qq|refine blockP_ne (by decide) ?_)
       |((with_reducible refine Hid.go hK ?_);clear hK K)|((with_reducible apply Pwp.condG);rfl)|((with_reducible first|apply qqj|apply qqk);simp[*];done)|((with_reducible first|apply qr|apply qs|apply qt|apply qu|apply qv|apply qw)<;>intro h)
       |((with_reducible first|apply qx|apply qy|apply qz|apply qqa|apply qqb|apply qqc)<;>intro h<;>try simp[h, *])
       |((with_reducible refine and_go ?_ fun hs=>?_);focus omega
         try simp[*])
       |((with_reducible first|apply qql|apply qqn|apply qqp);simp[*])
      refine Pwp.weaken (PLe.tellRet (env' := [.any, .any, .any, .any, .iptr [.agg [.int .i64 d, .int .i64 e, .int .i64 f]] 0 0, nine a b c d e f g k i, .int .i64 1, .any, .any, .any, .any, .any, .any]) (st' := []) [(2 :: 1 :: 4 :: A, Ob.row 3 [.agg [.int .i64 d, .int .i64 e, .int .i64 f]])] (Sub.one (by simp)) (by simp) ?_) ?_
      · unfold nine
        repeat' first | exact VLeL.nil | refine VLeL.cons ?_ ?_
        all_goals first | exact VLe.any _ | exact VLe.refl _ | exact VLe.prow (sz := 3) (by simp [St.find]) rfl (ELe.refl _)
      unfold nine
      repeat' first
       |(with_reducible first|apply qa|apply qb|apply qc|apply qd|apply qe|apply qf|apply qg|apply qh|apply qi|apply qj|apply qk|apply ql|apply qm|apply qn|apply qo|apply qp|apply qq|refine blockP_ne (by decide) ?_)
       |((with_reducible refine Pwp.reg fun K hK=>?_);simp[*, PV.scalar])
       |((with_reducible refine Hid.go hK ?_);clear hK K)|((with_reducible apply Pwp.condG);rfl)|((with_reducible first|apply qqj|apply qqk);simp[*, PV.scalar];done)|((with_reducible first|apply qr|apply qs|apply qt|apply qu|apply qv|apply qw)<;>intro h)
       |((with_reducible first|apply qx|apply qy|apply qz|apply qqa|apply qqb|apply qqc)<;>intro h<;>try simp[h, *, PV.scalar])
       |((with_reducible refine and_go ?_ fun hs=>?_);focus omega
         try simp[*, PV.scalar])
       |((with_reducible first|apply qql|apply qqn|apply qqp);simp[*, PV.scalar])
      refine vcallk_pure (Runs.args (runs294 _ 1024 [d, e, f] (by omega) (by simp)) (VLeL.cons (VLe.refl _) (VLeL.cons (VLe.cap _ _) VLeL.nil))) ?_
      have hr : rowOk d e f = (inB 1024 d && (inB 1024 e && inB 1024 f)) := by simp [rowOk]
      repeat' first
       |(with_reducible first|apply qa|apply qb|apply qc|apply qd|apply qe|apply qf|apply qg|apply qh|apply qi|apply qj|apply qk|apply ql|apply qm|apply qn|apply qo|apply qp|apply qq|refine blockP_ne (by decide) ?_)
       |((with_reducible refine Pwp.reg fun K hK=>?_);simp[*])
       |((with_reducible refine Hid.go hK ?_);clear hK K)|((with_reducible apply Pwp.condG);rfl)|((with_reducible first|apply qqj|apply qqk);simp[*];done)|((with_reducible first|apply qr|apply qs|apply qt|apply qu|apply qv|apply qw)<;>intro h)
       |((with_reducible first|apply qx|apply qy|apply qz|apply qqa|apply qqb|apply qqc)<;>intro h<;>try simp[h, *])
       |((with_reducible refine and_go ?_ fun hs=>?_);focus omega
         try simp[*])
       |((with_reducible first|apply qql|apply qqn|apply qqp);simp[*])
      · refine endP_ret0 ?_
        have : rowOk d e f = false := by rw [hr]; have hh := ‹(_ || _) = true›; revert hh; cases inB 1024 d <;> cases inB 1024 e <;> cases inB 1024 f <;> simp
        simp [this]
      · have : rowOk d e f = true := by rw [hr]; have hh := ‹(_ || _) = false›; revert hh; cases inB 1024 d <;> cases inB 1024 e <;> cases inB 1024 f <;> simp
        refine roundN_go 2 ?_ (by simp [this, h1]) (by omega)
        refine PLe.tellNext (pre := []) [] ?_ ?_ ?_ ?_
        · simp
        · exact Sub.nil _
        · simp [ObLe.refl, *]
        · repeat' first | exact VLeL.nil | refine VLeL.cons ?_ ?_
          all_goals first | exact VLe.any _ | exact VLe.refl _ | exact VLe.ghost _ ⟨_, rfl, by omega, by omega⟩ | (apply VLe.row (h := ELe.refl _); (focus (first | exact St.find_hd _ _ _ | exact St.find_tl (by simp) (St.find_hd _ _ _) | exact St.find_tl (by simp) (St.find_tl (by simp) (St.find_hd _ _ _)))); (simp [*]; done)) | exact VLe.of_eq (by simp [*])
    · repeat' first
       |(with_reducible first|apply qa|apply qb|apply qc|apply qd|apply qe|apply qf|apply qg|apply qh|apply qi|apply qj|apply qk|apply ql|apply qm|apply qn|apply qo|apply qp|apply qq|refine blockP_ne (by decide) ?_)
       |((with_reducible refine Hid.go hK ?_);clear hK K)|((with_reducible apply Pwp.condG);rfl)|((with_reducible first|apply qqj|apply qqk);simp[*];done)|((with_reducible first|apply qr|apply qs|apply qt|apply qu|apply qv|apply qw)<;>intro h)
       |((with_reducible first|apply qx|apply qy|apply qz|apply qqa|apply qqb|apply qqc)<;>intro h<;>try simp[h, *])
       |((with_reducible refine and_go ?_ fun hs=>?_);focus omega
         try simp[*])
       |((with_reducible first|apply qql|apply qqn|apply qqp);simp[*])
      refine Pwp.reg fun K hK => ?_
      simp [*]
      refine Hid.go hK ?_
      clear hK K
      repeat' first
       |(with_reducible first|apply qa|apply qb|apply qc|apply qd|apply qe|apply qf|apply qg|apply qh|apply qi|apply qj|apply qk|apply ql|apply qm|apply qn|apply qo|apply qp|apply qq|refine blockP_ne (by decide) ?_)
       |((with_reducible refine Hid.go hK ?_);clear hK K)|((with_reducible apply Pwp.condG);rfl)|((with_reducible first|apply qqj|apply qqk);simp[*];done)|((with_reducible first|apply qr|apply qs|apply qt|apply qu|apply qv|apply qw)<;>intro h)
       |((with_reducible first|apply qx|apply qy|apply qz|apply qqa|apply qqb|apply qqc)<;>intro h<;>try simp[h, *])
       |((with_reducible refine and_go ?_ fun hs=>?_);focus omega
         try simp[*])
       |((with_reducible first|apply qql|apply qqn|apply qqp);simp[*])
      refine Pwp.reg fun K hK => ?_
      simp [*]
      refine Hid.go hK ?_
      clear hK K
      repeat' first
       |(with_reducible first|apply qa|apply qb|apply qc|apply qd|apply qe|apply qf|apply qg|apply qh|apply qi|apply qj|apply qk|apply ql|apply qm|apply qn|apply qo|apply qp|apply qq|refine blockP_ne (by decide) ?_)
       |((with_reducible refine Hid.go hK ?_);clear hK K)|((with_reducible apply Pwp.condG);rfl)|((with_reducible first|apply qqj|apply qqk);simp[*];done)|((with_reducible first|apply qr|apply qs|apply qt|apply qu|apply qv|apply qw)<;>intro h)
       |((with_reducible first|apply qx|apply qy|apply qz|apply qqa|apply qqb|apply qqc)<;>intro h<;>try simp[h, *])
       |((with_reducible refine and_go ?_ fun hs=>?_);focus omega
         try simp[*])
       |((with_reducible first|apply qql|apply qqn|apply qqp);simp[*])
      refine Pwp.weaken (PLe.tellRet (env' := [.any, .any, .any, .any, .iptr [.agg [.int .i64 g, .int .i64 k, .int .i64 i]] 0 0, nine a b c d e f g k i, .int .i64 2, .any, .any, .any, .any, .any, .any]) (st' := []) [(2 :: 2 :: 4 :: A, Ob.row 3 [.agg [.int .i64 g, .int .i64 k, .int .i64 i]])] (Sub.one (by simp)) (by simp) ?_) ?_
      · unfold nine
        repeat' first | exact VLeL.nil | refine VLeL.cons ?_ ?_
        all_goals first | exact VLe.any _ | exact VLe.refl _ | exact VLe.prow (sz := 3) (by simp [St.find]) rfl (ELe.refl _)
      unfold nine
      repeat' first
       |(with_reducible first|apply qa|apply qb|apply qc|apply qd|apply qe|apply qf|apply qg|apply qh|apply qi|apply qj|apply qk|apply ql|apply qm|apply qn|apply qo|apply qp|apply qq|refine blockP_ne (by decide) ?_)
       |((with_reducible refine Pwp.reg fun K hK=>?_);simp[*, PV.scalar])
       |((with_reducible refine Hid.go hK ?_);clear hK K)|((with_reducible apply Pwp.condG);rfl)|((with_reducible first|apply qqj|apply qqk);simp[*, PV.scalar];done)|((with_reducible first|apply qr|apply qs|apply qt|apply qu|apply qv|apply qw)<;>intro h)
       |((with_reducible first|apply qx|apply qy|apply qz|apply qqa|apply qqb|apply qqc)<;>intro h<;>try simp[h, *, PV.scalar])
       |((with_reducible refine and_go ?_ fun hs=>?_);focus omega
         try simp[*, PV.scalar])
       |((with_reducible first|apply qql|apply qqn|apply qqp);simp[*, PV.scalar])
      refine vcallk_pure (Runs.args (runs294 _ 1024 [g, k, i] (by omega) (by simp)) (VLeL.cons (VLe.refl _) (VLeL.cons (VLe.cap _ _) VLeL.nil))) ?_
      have hr : rowOk g k i = (inB 1024 g && (inB 1024 k && inB 1024 i)) := by simp [rowOk]
      repeat' first
       |(with_reducible first|apply qa|apply qb|apply qc|apply qd|apply qe|apply qf|apply qg|apply qh|apply qi|apply qj|apply qk|apply ql|apply qm|apply qn|apply qo|apply qp|apply qq|refine blockP_ne (by decide) ?_)
       |((with_reducible refine Pwp.reg fun K hK=>?_);simp[*])
       |((with_reducible refine Hid.go hK ?_);clear hK K)|((with_reducible apply Pwp.condG);rfl)|((with_reducible first|apply qqj|apply qqk);simp[*];done)|((with_reducible first|apply qr|apply qs|apply qt|apply qu|apply qv|apply qw)<;>intro h)
       |((with_reducible first|apply qx|apply qy|apply qz|apply qqa|apply qqb|apply qqc)<;>intro h<;>try simp[h, *])
       |((with_reducible refine and_go ?_ fun hs=>?_);focus omega
         try simp[*])
       |((with_reducible first|apply qql|apply qqn|apply qqp);simp[*])
      · refine endP_ret0 ?_
        have : rowOk g k i = false := by rw [hr]; have hh := ‹(_ || _) = true›; revert hh; cases inB 1024 g <;> cases inB 1024 k <;> cases inB 1024 i <;> simp
        simp [this]
      · have : rowOk g k i = true := by rw [hr]; have hh := ‹(_ || _) = false›; revert hh; cases inB 1024 g <;> cases inB 1024 k <;> cases inB 1024 i <;> simp
        refine roundN_go 3 ?_ (by simp [this, h1, h2]) (by omega)
        refine PLe.tellNext (pre := []) [] ?_ ?_ ?_ ?_
        · simp
        · exact Sub.nil _
        · simp [ObLe.refl, *]
        · repeat' first | exact VLeL.nil | refine VLeL.cons ?_ ?_
          all_goals first | exact VLe.any _ | exact VLe.refl _ | exact VLe.ghost _ ⟨_, rfl, by omega, by omega⟩ | (apply VLe.row (h := ELe.refl _); (focus (first | exact St.find_hd _ _ _ | exact St.find_tl (by simp) (St.find_hd _ _ _) | exact St.find_tl (by simp) (St.find_tl (by simp) (St.find_hd _ _ _)))); (simp [*]; done)) | exact VLe.of_eq (by simp [*])
    · repeat' first
       |(with_reducible first|apply qa|apply qb|apply qc|apply qd|apply qe|apply qf|apply qg|apply qh|apply qi|apply qj|apply qk|apply ql|apply qm|apply qn|apply qo|apply qp|apply qq|refine blockP_ne (by decide) ?_)
       |((with_reducible refine Pwp.reg fun K hK=>?_);simp[*])
       |((with_reducible refine Hid.go hK ?_);clear hK K)|((with_reducible apply Pwp.condG);rfl)|((with_reducible first|apply qqj|apply qqk);simp[*];done)|((with_reducible first|apply qr|apply qs|apply qt|apply qu|apply qv|apply qw)<;>intro h)
       |((with_reducible first|apply qx|apply qy|apply qz|apply qqa|apply qqb|apply qqc)<;>intro h<;>try simp[h, *])
       |((with_reducible refine and_go ?_ fun hs=>?_);focus omega
         try simp[*])
       |((with_reducible first|apply qql|apply qqn|apply qqp);simp[*])
end Go.Pv

set_option linter.unusedVariables false
set_option linter.unusedSimpArgs false
set_option maxRecDepth 100000
namespace Go.Pv
open Go Go.Proofs

def matOk (m : Mat) : Bool := (rowOk m.m0 m.m1 m.m2 && rowOk m.m3 m.m4 m.m5 && rowOk m.m6 m.m7 m.m8) && vecOk m.t

theorem ent244 : enters Tryz.prog 244 = true := by kernel_rfl
theorem runs244 (A : Key) (m : Mat) : Runs Tryz.prog A 244 [m.pv] [] (.int .i64 (if matOk m then 0 else 20)) [] := by
  refine Runs.body (rs := [.tmp 2]) ent244 Tryz.func244 rfl Tryz.ntmps244 rfl (fun x h => by cases h) ?_
  repeat' first
   |(with_reducible first|apply qa|apply qb|apply qc|apply qd|apply qe|apply qf|apply qg|apply qh|apply qi|apply qj|apply qk|apply ql|apply qm|apply qn|apply qo|apply qp|apply qq|refine blockP_ne (by decide) ?_)
   |((with_reducible refine Pwp.reg fun K hK=>?_);simp[*])
   |((with_reducible refine Hid.go hK ?_);clear hK K)|((with_reducible apply Pwp.condG);rfl)|((with_reducible first|apply qqj|apply qqk);simp[*];done)|((with_reducible first|apply qr|apply qs|apply qt|apply qu|apply qv|apply qw)<;>intro h)
   |((with_reducible first|apply qx|apply qy|apply qz|apply qqa|apply qqb|apply qqc)<;>intro h<;>try simp[h, *])
   |((with_reducible refine and_go ?_ fun hs=>?_);focus omega
     try simp[*])
   |((with_reducible first|apply qql|apply qqn|apply qqp);simp[*])
  refine vcallk_pure (runs293 _ m.m0 m.m1 m.m2 m.m3 m.m4 m.m5 m.m6 m.m7 m.m8) ?_
  cases hb : (rowOk m.m0 m.m1 m.m2 && rowOk m.m3 m.m4 m.m5 && rowOk m.m6 m.m7 m.m8) with
  | false =>
    repeat' first
     |(with_reducible first|apply qa|apply qb|apply qc|apply qd|apply qe|apply qf|apply qg|apply qh|apply qi|apply qj|apply qk|apply ql|apply qm|apply qn|apply qo|apply qp|apply qq|refine blockP_ne (by decide) ?_)
     |((with_reducible refine Pwp.reg fun K hK=>?_);simp[*])
     |((with_reducible refine Hid.go hK ?_);clear hK K)|((with_reducible apply Pwp.condG);rfl)|((with_reducible first|apply qqj|apply qqk);simp[*];done)|((with_reducible first|apply qr|apply qs|apply qt|apply qu|apply qv|apply qw)<;>intro h)
     |((with_reducible first|apply qx|apply qy|apply qz|apply qqa|apply qqb|apply qqc)<;>intro h<;>try simp[h, *])
     |((with_reducible refine and_go ?_ fun hs=>?_);focus omega
       try simp[*])
     |((with_reducible first|apply qql|apply qqn|apply qqp);simp[*])
    all_goals (refine endP_ret0 ?_; simp [matOk, hb])
  | true =>
    repeat' first
     |(with_reducible first|apply qa|apply qb|apply qc|apply qd|apply qe|apply qf|apply qg|apply qh|apply qi|apply qj|apply qk|apply ql|apply qm|apply qn|apply qo|apply qp|apply qq|refine blockP_ne (by decide) ?_)
     |((with_reducible refine Pwp.reg fun K hK=>?_);simp[*])
     |((with_reducible refine Hid.go hK ?_);clear hK K)|((with_reducible apply Pwp.condG);rfl)|((with_reducible first|apply qqj|apply qqk);simp[*];done)|((with_reducible first|apply qr|apply qs|apply qt|apply qu|apply qv|apply qw)<;>intro h)
     |((with_reducible first|apply qx|apply qy|apply qz|apply qqa|apply qqb|apply qqc)<;>intro h<;>try simp[h, *])
     |((with_reducible refine and_go ?_ fun hs=>?_);focus omega
       try simp[*])
     |((with_reducible first|apply qql|apply qqn|apply qqp);simp[*])
    refine vcallk_pure (runs245 _ m.t) ?_
    repeat' first
     |(with_reducible first|apply qa|apply qb|apply qc|apply qd|apply qe|apply qf|apply qg|apply qh|apply qi|apply qj|apply qk|apply ql|apply qm|apply qn|apply qo|apply qp|apply qq|refine blockP_ne (by decide) ?_)
     |((with_reducible refine Pwp.reg fun K hK=>?_);simp[*])
     |((with_reducible refine Hid.go hK ?_);clear hK K)|((with_reducible apply Pwp.condG);rfl)|((with_reducible first|apply qqj|apply qqk);simp[*];done)|((with_reducible first|apply qr|apply qs|apply qt|apply qu|apply qv|apply qw)<;>intro h)
     |((with_reducible first|apply qx|apply qy|apply qz|apply qqa|apply qqb|apply qqc)<;>intro h<;>try simp[h, *])
     |((with_reducible refine and_go ?_ fun hs=>?_);focus omega
       try simp[*])
     |((with_reducible first|apply qql|apply qqn|apply qqp);simp[*])
    all_goals (refine endP_ret0 ?_; simp [matOk, hb])

def farGo : Int → List Int → Bool
  | _, [] => true
  | last, x :: r => if x < last ∨ 8192 < x then false else farGo x r
def farOk (l : List Int) : Bool := farGo 0 l && decide (l.length ≤ 16)

theorem ent246 : enters Tryz.prog 246 = true := by kernel_rfl
theorem runs246 (A : Key) (l : List Int) (hl : l.length < 4611686018427387904) : Runs Tryz.prog A 246 [intsPv l] [] (.bool (farOk l)) [] := by
  refine Runs.body (rs := [.tmp 2]) ent246 Tryz.func246 rfl Tryz.ntmps246 rfl (fun x h => by cases h) ?_
  repeat' first
   |(with_reducible first|apply qa|apply qb|apply qc|apply qd|apply qe|apply qf|apply qg|apply qh|apply qi|apply qj|apply qk|apply ql|apply qm|apply qn|apply qo|apply qp|apply qq|refine blockP_ne (by decide) ?_)
   |((with_reducible refine Pwp.reg fun K hK=>?_);simp[*])
   |((with_reducible refine Hid.go hK ?_);clear hK K)|((with_reducible apply Pwp.condG);rfl)|((with_reducible first|apply qqj|apply qqk);simp[*];done)|((with_reducible first|apply qr|apply qs|apply qt|apply qu|apply qv|apply qw)<;>intro h)
   |((with_reducible first|apply qx|apply qy|apply qz|apply qqa|apply qqb|apply qqc)<;>intro h<;>try simp[h, *])
   |((with_reducible refine and_go ?_ fun hs=>?_);focus omega
     try simp[*])
   |((with_reducible first|apply qql|apply qqn|apply qqp);simp[*])
  refine Pwp.loopN (ι := Nat × Int) (S := fun i => ⟨[intsPv l, .any, .any, .int .i64 i.2, .any, .any, intsPv l, .int .i64 l.length, .int .i64 i.1, .any, .any, .any, .any, .any, .any, .any, .any, .any, .any, .any, .any, .any, .any, .any], [], i.1 :: 5 :: A, 0⟩)
    (C := fun i => i.1 ≤ l.length ∧ farGo i.2 (l.drop i.1) = farGo 0 l) (μ := fun i => l.length - i.1) (0, 0) ?_ ?_ ?_
  · refine PLe.tellIn [] ?_ ?_ ?_ ?_
    · simp
    · exact Sub.nil _
    · simp [ObLe.refl, *]
    · repeat' first | exact VLeL.nil | refine VLeL.cons ?_ ?_
      all_goals first | exact VLe.any _ | exact VLe.refl _ | exact VLe.ghost _ ⟨_, rfl, by omega, by omega⟩ | (apply VLe.row (h := ELe.refl _); (focus (first | exact St.find_hd _ _ _ | exact St.find_tl (by simp) (St.find_hd _ _ _) | exact St.find_tl (by simp) (St.find_tl (by simp) (St.find_hd _ _ _)))); (simp [*]; done)) | exact VLe.of_eq (by simp [*])
  · simp
  · rintro ⟨i, last⟩ ⟨hi, hp⟩
    simp only at hi hp
    by_cases hlt : i < l.length
    · have hd : l.drop i = l[i] :: l.drop (i + 1) := List.drop_eq_getElem_cons hlt
      rw [hd] at hp
      simp only [farGo] at hp
      repeat' first
       |(with_reducible first|apply qa|apply qb|apply qc|apply qd|apply qe|apply qf|apply qg|apply qh|apply qi|apply qj|apply qk|apply ql|apply qm|apply qn|apply qo|apply qp|apply qq|refine blockP_ne (by decide) ?_)
       |((with_reducible refine Pwp.reg fun K hK=>?_);simp[*, wrap_succ i (by omega)])
       |((with_reducible refine Hid.go hK ?_);clear hK K)|((with_reducible apply Pwp.condG);rfl)|((with_reducible first|apply qqj|apply qqk);simp[*, wrap_succ i (by omega)];done)|((with_reducible first|apply qr|apply qs|apply qt|apply qu|apply qv|apply qw)<;>intro h)
       |((with_reducible first|apply qx|apply qy|apply qz|apply qqa|apply qqb|apply qqc)<;>intro h<;>try simp[h, *, wrap_succ i (by omega)])
       |((with_reducible refine and_go ?_ fun hs=>?_);focus omega
         try simp[*, wrap_succ i (by omega)])
       |((with_reducible first|apply qql|apply qqn|apply qqp);simp[*, wrap_succ i (by omega)])
      · refine endP_ret0 ?_
        rw [if_pos (.inl (by assumption))] at hp
        simp [farOk, ← hp]
      · refine endP_ret0 ?_
        rw [if_pos (.inr (by assumption))] at hp
        simp [farOk, ← hp]
      · rw [if_neg (by omega)] at hp
        refine roundN_go (i + 1, l[i]) ?_ ⟨hlt, hp⟩ (by simp only; omega)
        refine PLe.tellNext (pre := []) [] ?_ ?_ ?_ ?_
        · simp
        · exact Sub.nil _
        · simp [ObLe.refl, *]
        · repeat' first | exact VLeL.nil | refine VLeL.cons ?_ ?_
          all_goals first | exact VLe.any _ | exact VLe.refl _ | exact VLe.ghost _ ⟨_, rfl, by omega, by omega⟩ | (apply VLe.row (h := ELe.refl _); (focus (first | exact St.find_hd _ _ _ | exact St.find_tl (by simp) (St.find_hd _ _ _) | exact St.find_tl (by simp) (St.find_tl (by simp) (St.find_hd _ _ _)))); (simp [*]; done)) | exact VLe.of_eq (by simp [*])
    · have hd : l.drop i = [] := List.drop_eq_nil_of_le (by omega)
      rw [hd] at hp
      simp only [farGo] at hp
      repeat' first
       |(with_reducible first|apply qa|apply qb|apply qc|apply qd|apply qe|apply qf|apply qg|apply qh|apply qi|apply qj|apply qk|apply ql|apply qm|apply qn|apply qo|apply qp|apply qq|refine blockP_ne (by decide) ?_)
       |((with_reducible refine Pwp.reg fun K hK=>?_);simp[*, wrap_succ i (by omega)])
       |((with_reducible refine Hid.go hK ?_);clear hK K)|((with_reducible apply Pwp.condG);rfl)|((with_reducible first|apply qqj|apply qqk);simp[*, wrap_succ i (by omega)];done)|((with_reducible first|apply qr|apply qs|apply qt|apply qu|apply qv|apply qw)<;>intro h)
       |((with_reducible first|apply qx|apply qy|apply qz|apply qqa|apply qqb|apply qqc)<;>intro h<;>try simp[h, *, wrap_succ i (by omega)])
       |((with_reducible refine and_go ?_ fun hs=>?_);focus omega
         try simp[*, wrap_succ i (by omega)])
       |((with_reducible first|apply qql|apply qqn|apply qqp);simp[*, wrap_succ i (by omega)])
      · refine endP_ret0 ?_
        simp [farOk, ← hp]
        try omega
end Go.Pv

set_option linter.unusedVariables false
set_option linter.unusedSimpArgs false
set_option maxRecDepth 100000
namespace Go.Pv
open Go Go.Proofs

def sideOk (n : Int) : Bool := decide (0 < n ∧ n ≤ 16)
def texBad (t : Texture) : Bool := !sideOk t.w || !sideOk t.h || decide ((t.texels.length : Int) ≠ t.w * t.h)

theorem ent144 : enters Tryz.prog 144 = true := by kernel_rfl
theorem runs144 (A : Key) (n : Int) : Runs Tryz.prog A 144 [.int .i64 n] [] (.bool (sideOk n)) [] := by
  refine Runs.body (rs := [.tmp 2]) ent144 Tryz.func144 rfl Tryz.ntmps144 rfl (fun x h => by cases h) ?_
  repeat' first
   |(with_reducible first|apply qa|apply qb|apply qc|apply qd|apply qe|apply qf|apply qg|apply qh|apply qi|apply qj|apply qk|apply ql|apply qm|apply qn|apply qo|apply qp|apply qq|refine blockP_ne (by decide) ?_)
   |((with_reducible refine Pwp.reg fun K hK=>?_);simp[*])
   |((with_reducible refine Hid.go hK ?_);clear hK K)|((with_reducible apply Pwp.condG);rfl)|((with_reducible first|apply qqj|apply qqk);simp[*];done)|((with_reducible first|apply qr|apply qs|apply qt|apply qu|apply qv|apply qw)<;>intro h)
   |((with_reducible first|apply qx|apply qy|apply qz|apply qqa|apply qqb|apply qqc)<;>intro h<;>try simp[h, *])
   |((with_reducible refine and_go ?_ fun hs=>?_);focus omega
     try simp[*])
   |((with_reducible first|apply qql|apply qqn|apply qqp);simp[*])
  all_goals (refine endP_ret0 ?_; simp [sideOk, *])

theorem ent65 : enters Tryz.prog 65 = true := by kernel_rfl
theorem runs65 (A : Key) (t : Texture) : Runs Tryz.prog A 65 [t.pv] [] (.int .i64 (errIf (texBad t))) [] := by
  refine Runs.body (rs := [.tmp 2]) ent65 Tryz.func65 rfl Tryz.ntmps65 rfl (fun x h => by cases h) ?_
  repeat' first
   |(with_reducible first|apply qa|apply qb|apply qc|apply qd|apply qe|apply qf|apply qg|apply qh|apply qi|apply qj|apply qk|apply ql|apply qm|apply qn|apply qo|apply qp|apply qq|refine blockP_ne (by decide) ?_)
   |((with_reducible refine Pwp.reg fun K hK=>?_);simp[*])
   |((with_reducible refine Hid.go hK ?_);clear hK K)|((with_reducible apply Pwp.condG);rfl)|((with_reducible first|apply qqj|apply qqk);simp[*];done)|((with_reducible first|apply qr|apply qs|apply qt|apply qu|apply qv|apply qw)<;>intro h)
   |((with_reducible first|apply qx|apply qy|apply qz|apply qqa|apply qqb|apply qqc)<;>intro h<;>try simp[h, *])
   |((with_reducible refine and_go ?_ fun hs=>?_);focus omega
     try simp[*])
   |((with_reducible first|apply qql|apply qqn|apply qqp);simp[*])
  refine vcallk_pure (runs144 _ t.w) ?_
  cases h1 : sideOk t.w with
  | false =>
    repeat' first
     |(with_reducible first|apply qa|apply qb|apply qc|apply qd|apply qe|apply qf|apply qg|apply qh|apply qi|apply qj|apply qk|apply ql|apply qm|apply qn|apply qo|apply qp|apply qq|refine blockP_ne (by decide) ?_)
     |((with_reducible refine Pwp.reg fun K hK=>?_);simp[*])
     |((with_reducible refine Hid.go hK ?_);clear hK K)|((with_reducible apply Pwp.condG);rfl)|((with_reducible first|apply qqj|apply qqk);simp[*];done)|((with_reducible first|apply qr|apply qs|apply qt|apply qu|apply qv|apply qw)<;>intro h)
     |((with_reducible first|apply qx|apply qy|apply qz|apply qqa|apply qqb|apply qqc)<;>intro h<;>try simp[h, *])
     |((with_reducible refine and_go ?_ fun hs=>?_);focus omega
       try simp[*])
     |((with_reducible first|apply qql|apply qqn|apply qqp);simp[*])
    all_goals (refine endP_ret0 ?_; simp [texBad, errIf, h1])
  | true =>
    repeat' first
     |(with_reducible first|apply qa|apply qb|apply qc|apply qd|apply qe|apply qf|apply qg|apply qh|apply qi|apply qj|apply qk|apply ql|apply qm|apply qn|apply qo|apply qp|apply qq|refine blockP_ne (by decide) ?_)
     |((with_reducible refine Pwp.reg fun K hK=>?_);simp[*])
     |((with_reducible refine Hid.go hK ?_);clear hK K)|((with_reducible apply Pwp.condG);rfl)|((with_reducible first|apply qqj|apply qqk);simp[*];done)|((with_reducible first|apply qr|apply qs|apply qt|apply qu|apply qv|apply qw)<;>intro h)
     |((with_reducible first|apply qx|apply qy|apply qz|apply qqa|apply qqb|apply qqc)<;>intro h<;>try simp[h, *])
     |((with_reducible refine and_go ?_ fun hs=>?_);focus omega
       try simp[*])
     |((with_reducible first|apply qql|apply qqn|apply qqp);simp[*])
    refine vcallk_pure (runs144 _ t.h) ?_
    cases h2 : sideOk t.h with
    | false =>
      repeat' first
       |(with_reducible first|apply qa|apply qb|apply qc|apply qd|apply qe|apply qf|apply qg|apply qh|apply qi|apply qj|apply qk|apply ql|apply qm|apply qn|apply qo|apply qp|apply qq|refine blockP_ne (by decide) ?_)
       |((with_reducible refine Pwp.reg fun K hK=>?_);simp[*])
       |((with_reducible refine Hid.go hK ?_);clear hK K)|((with_reducible apply Pwp.condG);rfl)|((with_reducible first|apply qqj|apply qqk);simp[*];done)|((with_reducible first|apply qr|apply qs|apply qt|apply qu|apply qv|apply qw)<;>intro h)
       |((with_reducible first|apply qx|apply qy|apply qz|apply qqa|apply qqb|apply qqc)<;>intro h<;>try simp[h, *])
       |((with_reducible refine and_go ?_ fun hs=>?_);focus omega
         try simp[*])
       |((with_reducible first|apply qql|apply qqn|apply qqp);simp[*])
      all_goals (refine endP_ret0 ?_; simp [texBad, errIf, h1, h2])
    | true =>
      have hw : IntKind.i64.wrap (t.w * t.h) = t.w * t.h := by
        simp only [sideOk, decide_eq_true_eq] at h1 h2
        refine wrap_in _ ⟨?_, ?_⟩
        · have := Int.mul_nonneg (show 0 ≤ t.w by omega) (show 0 ≤ t.h by omega)
          omega
        · have := Int.mul_le_mul h1.2 h2.2 (by omega) (by omega)
          omega
      repeat' first
       |(with_reducible first|apply qa|apply qb|apply qc|apply qd|apply qe|apply qf|apply qg|apply qh|apply qi|apply qj|apply qk|apply ql|apply qm|apply qn|apply qo|apply qp|apply qq|refine blockP_ne (by decide) ?_)
       |((with_reducible refine Pwp.reg fun K hK=>?_);simp[*])
       |((with_reducible refine Hid.go hK ?_);clear hK K)|((with_reducible apply Pwp.condG);rfl)|((with_reducible first|apply qqj|apply qqk);simp[*];done)|((with_reducible first|apply qr|apply qs|apply qt|apply qu|apply qv|apply qw)<;>intro h)
       |((with_reducible first|apply qx|apply qy|apply qz|apply qqa|apply qqb|apply qqc)<;>intro h<;>try simp[h, *])
       |((with_reducible refine and_go ?_ fun hs=>?_);focus omega
         try simp[*])
       |((with_reducible first|apply qql|apply qqn|apply qqp);simp[*])
      · refine endP_ret0 ?_
        simp [texBad, errIf, h1, h2, ‹(t.texels.length : Int) = t.w * t.h›]
      · refine endP_ret0 ?_
        simp [texBad, errIf, h1, h2, ‹¬ (t.texels.length : Int) = t.w * t.h›]
end Go.Pv

set_option linter.unusedVariables false
set_option linter.unusedSimpArgs false
set_option maxRecDepth 100000
namespace Go.Pv
open Go Go.Proofs

def vertBad (v : Vec) : Bool := !inB 1024 v.x || !inB 1024 v.y || !inB 1024 v.z
def uvBad (u : UV) : Bool := decide (u.u < 0 ∨ 255 < u.u ∨ u.v < 0 ∨ 255 < u.v)

theorem ent139 : enters Tryz.prog 139 = true := by kernel_rfl
theorem runs139 (A : Key) (n m : Int) (hm : 0 ≤ m ∧ m ≤ 1099511627776) : Runs Tryz.prog A 139 [.int .i64 n, .int .i64 m] [] (.bool (inB m n)) [] := by
  have hw := wrap_in (0 - m) (by omega)
  simp only [Int.zero_sub] at hw
  refine Runs.body (rs := [.tmp 4]) ent139 Tryz.func139 rfl Tryz.ntmps139 rfl (fun x h => by cases h) ?_
  repeat' first
   |(with_reducible first|apply qa|apply qb|apply qc|apply qd|apply qe|apply qf|apply qg|apply qh|apply qi|apply qj|apply qk|apply ql|apply qm|apply qn|apply qo|apply qp|apply qq|refine blockP_ne (by decide) ?_)
   |((with_reducible refine Pwp.reg fun K hK=>?_);simp[*])
   |((with_reducible refine Hid.go hK ?_);clear hK K)|((with_reducible apply Pwp.condG);rfl)|((with_reducible first|apply qqj|apply qqk);simp[*];done)|((with_reducible first|apply qr|apply qs|apply qt|apply qu|apply qv|apply qw)<;>intro h)
   |((with_reducible first|apply qx|apply qy|apply qz|apply qqa|apply qqb|apply qqc)<;>intro h<;>try simp[h, *])
   |((with_reducible refine and_go ?_ fun hs=>?_);focus omega
     try simp[*])
   |((with_reducible first|apply qql|apply qqn|apply qqp);simp[*])
  all_goals (refine endP_ret0 ?_; simp [inB, *])

theorem ent138 : enters Tryz.prog 138 = true := by kernel_rfl
theorem runs138 (A : Key) (v : Vec) : Runs Tryz.prog A 138 [v.pv] [] (.bool (vertBad v)) [] := by
  refine Runs.body (rs := [.tmp 2]) ent138 Tryz.func138 rfl Tryz.ntmps138 rfl (fun x h => by cases h) ?_
  repeat' first
   |(with_reducible first|apply qa|apply qb|apply qc|apply qd|apply qe|apply qf|apply qg|apply qh|apply qi|apply qj|apply qk|apply ql|apply qm|apply qn|apply qo|apply qp|apply qq|refine blockP_ne (by decide) ?_)
   |((with_reducible refine Pwp.reg fun K hK=>?_);simp[*])
   |((with_reducible refine Hid.go hK ?_);clear hK K)|((with_reducible apply Pwp.condG);rfl)|((with_reducible first|apply qqj|apply qqk);simp[*];done)|((with_reducible first|apply qr|apply qs|apply qt|apply qu|apply qv|apply qw)<;>intro h)
   |((with_reducible first|apply qx|apply qy|apply qz|apply qqa|apply qqb|apply qqc)<;>intro h<;>try simp[h, *])
   |((with_reducible refine and_go ?_ fun hs=>?_);focus omega
     try simp[*])
   |((with_reducible first|apply qql|apply qqn|apply qqp);simp[*])
  refine vcallk_pure (runs139 _ v.x 1024 (by omega)) ?_
  cases h1 : inB 1024 v.x with
  | false =>
    repeat' first
     |(with_reducible first|apply qa|apply qb|apply qc|apply qd|apply qe|apply qf|apply qg|apply qh|apply qi|apply qj|apply qk|apply ql|apply qm|apply qn|apply qo|apply qp|apply qq|refine blockP_ne (by decide) ?_)
     |((with_reducible refine Pwp.reg fun K hK=>?_);simp[*])
     |((with_reducible refine Hid.go hK ?_);clear hK K)|((with_reducible apply Pwp.condG);rfl)|((with_reducible first|apply qqj|apply qqk);simp[*];done)|((with_reducible first|apply qr|apply qs|apply qt|apply qu|apply qv|apply qw)<;>intro h)
     |((with_reducible first|apply qx|apply qy|apply qz|apply qqa|apply qqb|apply qqc)<;>intro h<;>try simp[h, *])
     |((with_reducible refine and_go ?_ fun hs=>?_);focus omega
       try simp[*])
     |((with_reducible first|apply qql|apply qqn|apply qqp);simp[*])
    all_goals (refine endP_ret0 ?_; simp [vertBad, h1])
  | true =>
    repeat' first
     |(with_reducible first|apply qa|apply qb|apply qc|apply qd|apply qe|apply qf|apply qg|apply qh|apply qi|apply qj|apply qk|apply ql|apply qm|apply qn|apply qo|apply qp|apply qq|refine blockP_ne (by decide) ?_)
     |((with_reducible refine Pwp.reg fun K hK=>?_);simp[*])
     |((with_reducible refine Hid.go hK ?_);clear hK K)|((with_reducible apply Pwp.condG);rfl)|((with_reducible first|apply qqj|apply qqk);simp[*];done)|((with_reducible first|apply qr|apply qs|apply qt|apply qu|apply qv|apply qw)<;>intro h)
     |((with_reducible first|apply qx|apply qy|apply qz|apply qqa|apply qqb|apply qqc)<;>intro h<;>try simp[h, *])
     |((with_reducible refine and_go ?_ fun hs=>?_);focus omega
       try simp[*])
     |((with_reducible first|apply qql|apply qqn|apply qqp);simp[*])
    refine vcallk_pure (runs139 _ v.y 1024 (by omega)) ?_
    cases h2 : inB 1024 v.y with
    | false =>
      repeat' first
       |(with_reducible first|apply qa|apply qb|apply qc|apply qd|apply qe|apply qf|apply qg|apply qh|apply qi|apply qj|apply qk|apply ql|apply qm|apply qn|apply qo|apply qp|apply qq|refine blockP_ne (by decide) ?_)
       |((with_reducible refine Pwp.reg fun K hK=>?_);simp[*])
       |((with_reducible refine Hid.go hK ?_);clear hK K)|((with_reducible apply Pwp.condG);rfl)|((with_reducible first|apply qqj|apply qqk);simp[*];done)|((with_reducible first|apply qr|apply qs|apply qt|apply qu|apply qv|apply qw)<;>intro h)
       |((with_reducible first|apply qx|apply qy|apply qz|apply qqa|apply qqb|apply qqc)<;>intro h<;>try simp[h, *])
       |((with_reducible refine and_go ?_ fun hs=>?_);focus omega
         try simp[*])
       |((with_reducible first|apply qql|apply qqn|apply qqp);simp[*])
      all_goals (refine endP_ret0 ?_; simp [vertBad, h1, h2])
    | true =>
      repeat' first
       |(with_reducible first|apply qa|apply qb|apply qc|apply qd|apply qe|apply qf|apply qg|apply qh|apply qi|apply qj|apply qk|apply ql|apply qm|apply qn|apply qo|apply qp|apply qq|refine blockP_ne (by decide) ?_)
       |((with_reducible refine Pwp.reg fun K hK=>?_);simp[*])
       |((with_reducible refine Hid.go hK ?_);clear hK K)|((with_reducible apply Pwp.condG);rfl)|((with_reducible first|apply qqj|apply qqk);simp[*];done)|((with_reducible first|apply qr|apply qs|apply qt|apply qu|apply qv|apply qw)<;>intro h)
       |((with_reducible first|apply qx|apply qy|apply qz|apply qqa|apply qqb|apply qqc)<;>intro h<;>try simp[h, *])
       |((with_reducible refine and_go ?_ fun hs=>?_);focus omega
         try simp[*])
       |((with_reducible first|apply qql|apply qqn|apply qqp);simp[*])
      refine vcallk_pure (runs139 _ v.z 1024 (by omega)) ?_
      repeat' first
       |(with_reducible first|apply qa|apply qb|apply qc|apply qd|apply qe|apply qf|apply qg|apply qh|apply qi|apply qj|apply qk|apply ql|apply qm|apply qn|apply qo|apply qp|apply qq|refine blockP_ne (by decide) ?_)
       |((with_reducible refine Pwp.reg fun K hK=>?_);simp[*])
       |((with_reducible refine Hid.go hK ?_);clear hK K)|((with_reducible apply Pwp.condG);rfl)|((with_reducible first|apply qqj|apply qqk);simp[*];done)|((with_reducible first|apply qr|apply qs|apply qt|apply qu|apply qv|apply qw)<;>intro h)
       |((with_reducible first|apply qx|apply qy|apply qz|apply qqa|apply qqb|apply qqc)<;>intro h<;>try simp[h, *])
       |((with_reducible refine and_go ?_ fun hs=>?_);focus omega
         try simp[*])
       |((with_reducible first|apply qql|apply qqn|apply qqp);simp[*])
      all_goals (refine endP_ret0 ?_; simp [vertBad, h1, h2])

theorem ent140 : enters Tryz.prog 140 = true := by kernel_rfl
theorem runs140 (A : Key) (u : UV) : Runs Tryz.prog A 140 [u.pv] [] (.bool (uvBad u)) [] := by
  refine Runs.body (rs := [.tmp 2]) ent140 Tryz.func140 rfl Tryz.ntmps140 rfl (fun x h => by cases h) ?_
  repeat' first
   |(with_reducible first|apply qa|apply qb|apply qc|apply qd|apply qe|apply qf|apply qg|apply qh|apply qi|apply qj|apply qk|apply ql|apply qm|apply qn|apply qo|apply qp|apply qq|refine blockP_ne (by decide) ?_)
   |((with_reducible refine Pwp.reg fun K hK=>?_);simp[*])
   |((with_reducible refine Hid.go hK ?_);clear hK K)|((with_reducible apply Pwp.condG);rfl)|((with_reducible first|apply qqj|apply qqk);simp[*];done)|((with_reducible first|apply qr|apply qs|apply qt|apply qu|apply qv|apply qw)<;>intro h)
   |((with_reducible first|apply qx|apply qy|apply qz|apply qqa|apply qqb|apply qqc)<;>intro h<;>try simp[h, *])
   |((with_reducible refine and_go ?_ fun hs=>?_);focus omega
     try simp[*])
   |((with_reducible first|apply qql|apply qqn|apply qqp);simp[*])
  all_goals (refine endP_ret0 ?_; simp [uvBad, *])
end Go.Pv

set_option linter.unusedVariables false
set_option linter.unusedSimpArgs false
set_option maxRecDepth 100000
namespace Go.Pv
open Go Go.Proofs

theorem tmod3 (n : Nat) : Int.tmod (n : Int) 3 = ((n % 3 : Nat) : Int) := rfl
theorem tmod2 (n : Nat) : Int.tmod (n : Int) 2 = ((n % 2 : Nat) : Int) := rfl

def fits (p : Prim) : Bool :=
  if p.kind = 0 then decide (p.index.length % 3 = 0) else if p.kind = 1 ∨ p.kind = 2 then decide (p.index.length = 0 ∨ 3 ≤ p.index.length) else false

theorem ent291 : enters Tryz.prog 291 = true := by kernel_rfl
theorem runs291 (A : Key) (p : Prim) : Runs Tryz.prog A 291 [p.pv] [] (.bool (fits p)) [] := by
  refine Runs.body (rs := [.tmp 2]) ent291 Tryz.func291 rfl Tryz.ntmps291 rfl (fun x h => by cases h) ?_
  have e3 : ((p.index.length : Int) % 3 = 0) = (p.index.length % 3 = 0) := by rw [eq_iff_iff]; omega
  have e4 : (3 ≤ (p.index.length : Int)) = (3 ≤ p.index.length) := by rw [eq_iff_iff]; omega
  by_cases h0 : p.kind = 0
  · repeat' first
     |(with_reducible first|apply qa|apply qb|apply qc|apply qd|apply qe|apply qf|apply qg|apply qh|apply qi|apply qj|apply qk|apply ql|apply qm|apply qn|apply qo|apply qp|apply qq|refine blockP_ne (by decide) ?_)
     |((with_reducible refine Pwp.reg fun K hK=>?_);simp[*, tmod3])
     |((with_reducible refine Hid.go hK ?_);clear hK K)|((with_reducible apply Pwp.condG);rfl)|((with_reducible first|apply qqj|apply qqk);simp[*, tmod3];done)|((with_reducible first|apply qr|apply qs|apply qt|apply qu|apply qv|apply qw)<;>intro h)
     |((with_reducible first|apply qx|apply qy|apply qz|apply qqa|apply qqb|apply qqc)<;>intro h<;>try simp[h, *, tmod3])
     |((with_reducible refine and_go ?_ fun hs=>?_);focus omega
       try simp[*, tmod3])
     |((with_reducible first|apply qql|apply qqn|apply qqp);simp[*, tmod3])
    all_goals (refine endP_ret0 ?_; simp [fits, *, e3])
  · by_cases h1 : p.kind = 1
    · repeat' first
       |(with_reducible first|apply qa|apply qb|apply qc|apply qd|apply qe|apply qf|apply qg|apply qh|apply qi|apply qj|apply qk|apply ql|apply qm|apply qn|apply qo|apply qp|apply qq|refine blockP_ne (by decide) ?_)
       |((with_reducible refine Pwp.reg fun K hK=>?_);simp[*, tmod3])
       |((with_reducible refine Hid.go hK ?_);clear hK K)|((with_reducible apply Pwp.condG);rfl)|((with_reducible first|apply qqj|apply qqk);simp[*, tmod3];done)|((with_reducible first|apply qr|apply qs|apply qt|apply qu|apply qv|apply qw)<;>intro h)
       |((with_reducible first|apply qx|apply qy|apply qz|apply qqa|apply qqb|apply qqc)<;>intro h<;>try simp[h, *, tmod3])
       |((with_reducible refine and_go ?_ fun hs=>?_);focus omega
         try simp[*, tmod3])
       |((with_reducible first|apply qql|apply qqn|apply qqp);simp[*, tmod3])
      all_goals (refine endP_ret0 ?_; simp [fits, *, e4])
    · by_cases h2 : p.kind = 2
      · repeat' first
         |(with_reducible first|apply qa|apply qb|apply qc|apply qd|apply qe|apply qf|apply qg|apply qh|apply qi|apply qj|apply qk|apply ql|apply qm|apply qn|apply qo|apply qp|apply qq|refine blockP_ne (by decide) ?_)
         |((with_reducible refine Pwp.reg fun K hK=>?_);simp[*, tmod3])
         |((with_reducible refine Hid.go hK ?_);clear hK K)|((with_reducible apply Pwp.condG);rfl)|((with_reducible first|apply qqj|apply qqk);simp[*, tmod3];done)|((with_reducible first|apply qr|apply qs|apply qt|apply qu|apply qv|apply qw)<;>intro h)
         |((with_reducible first|apply qx|apply qy|apply qz|apply qqa|apply qqb|apply qqc)<;>intro h<;>try simp[h, *, tmod3])
         |((with_reducible refine and_go ?_ fun hs=>?_);focus omega
           try simp[*, tmod3])
         |((with_reducible first|apply qql|apply qqn|apply qqp);simp[*, tmod3])
        all_goals (refine endP_ret0 ?_; simp [fits, *, e4])
      · repeat' first
         |(with_reducible first|apply qa|apply qb|apply qc|apply qd|apply qe|apply qf|apply qg|apply qh|apply qi|apply qj|apply qk|apply ql|apply qm|apply qn|apply qo|apply qp|apply qq|refine blockP_ne (by decide) ?_)
         |((with_reducible refine Pwp.reg fun K hK=>?_);simp[*, tmod3])
         |((with_reducible refine Hid.go hK ?_);clear hK K)|((with_reducible apply Pwp.condG);rfl)|((with_reducible first|apply qqj|apply qqk);simp[*, tmod3];done)|((with_reducible first|apply qr|apply qs|apply qt|apply qu|apply qv|apply qw)<;>intro h)
         |((with_reducible first|apply qx|apply qy|apply qz|apply qqa|apply qqb|apply qqc)<;>intro h<;>try simp[h, *, tmod3])
         |((with_reducible refine and_go ?_ fun hs=>?_);focus omega
           try simp[*, tmod3])
         |((with_reducible first|apply qql|apply qqn|apply qqp);simp[*, tmod3])
        all_goals (refine endP_ret0 ?_; simp [fits, *, e4])
end Go.Pv

set_option linter.unusedVariables false
set_option linter.unusedSimpArgs false
set_option maxRecDepth 100000
namespace Go.Pv
open Go Go.Proofs

structure T3 where
  a : Int
  b : Int
  c : Int
  deriving DecidableEq, Inhabited
def T3.cs (t : T3) : List PV := [.int .i64 t.a, .int .i64 t.b, .int .i64 t.c]
def T3.pv (t : T3) : PV := .agg t.cs
attribute [simp] T3.cs T3.pv
def t3sPv (l : List T3) : PV := .islice none (l.map T3.pv)
attribute [simp] t3sPv

/-- The triangle that a primitive has at place i. -/
def primAt (p : Prim) (i : Nat) : List T3 :=
  if p.kind = 0 ∧ i % 3 = 0 ∨ p.kind = 1 ∧ i % 2 = 0 then [⟨p.index[i]!, p.index[i + 1]!, p.index[i + 2]!⟩]
  else if p.kind = 1 then [⟨p.index[i + 1]!, p.index[i]!, p.index[i + 2]!⟩]
  else if p.kind = 2 then [⟨p.index[0]!, p.index[i + 1]!, p.index[i + 2]!⟩]
  else []
def primTris (p : Prim) : List T3 := (List.range (p.index.length - 2)).flatMap (primAt p)
def primErr (p : Prim) : Int := if 2 < p.kind then 2 else if 200 < p.index.length then 4 else if fits p then 0 else 40

set_option maxHeartbeats 4000000
theorem ent239 : enters Tryz.prog 239 = true := by kernel_rfl
theorem runs239 (A : Key) (p : Prim) (hl : p.index.length < 4611686018427387904) (hk : 0 ≤ p.kind) : Runs Tryz.prog A 239 [p.pv] [] (.tup [t3sPv (if primErr p = 0 then primTris p else []), .int .i64 (primErr p)]) [] := by
  have e200 : (200 < (p.index.length : Int)) = (200 < p.index.length) := by rw [eq_iff_iff]; omega
  refine Runs.body (rs := [.tmp 2, .tmp 3]) ent239 Tryz.func239 rfl Tryz.ntmps239 rfl (fun x h => by cases h) ?_
  repeat' first
   |(with_reducible first|apply qa|apply qb|apply qc|apply qd|apply qe|apply qf|apply qg|apply qh|apply qi|apply qj|apply qk|apply ql|apply qm|apply qn|apply qo|apply qp|apply qq|refine blockP_ne (by decide) ?_)
   |((with_reducible refine Pwp.reg fun K hK=>?_);simp[*])
   |((with_reducible refine Pwp.drawn (id := 14) follows_mixed [0, 0, 0, 6, 14, 0, 0, 64, 224, 480, 0, 0, 2048, 7168, 15360, 32766, 65534, 131071, 262143] [false, false, false, false, false, false, false, false, false, false, false, false, false, false, false, false, true, true, false] ?_ fun K hK => ?_); focus kernel_rfl
     simp [*])
   |((with_reducible refine Pwp.drawn (id := 16) follows_mixed [0, 0, 0, 4, 14, 30, 0, 0, 192, 448, 0, 0, 2048, 7168, 15360, 32766, 65534, 131071, 262143] [false, false, false, false, false, false, false, false, false, false, false, false, false, false, false, false, true, true, false] ?_ fun K hK => ?_); focus kernel_rfl
     simp [*])
   |((with_reducible refine Pwp.drawn (id := 18) follows_mixed [0, 0, 2, 6, 0, 0, 32, 112, 240, 0, 0, 1024, 3584, 7680, 16382, 32766, 65535, 131071] [false, false, false, false, false, false, false, false, false, false, false, false, false, false, false, true, true, false] ?_ fun K hK => ?_); focus kernel_rfl
     simp [*])
   |((with_reducible refine Hid.go hK ?_);clear hK K)|((with_reducible apply Pwp.condG);rfl)|((with_reducible first|apply qqj|apply qqk);simp[*];done)|((with_reducible first|apply qr|apply qs|apply qt|apply qu|apply qv|apply qw)<;>intro h)
   |((with_reducible first|apply qx|apply qy|apply qz|apply qqa|apply qqb|apply qqc|apply qqd|apply qqe|apply qqf|apply qqg|apply qqh|apply qqi)<;>intro h<;>try simp[h, *])
   |((with_reducible refine and_go ?_ fun hs=>?_);focus omega
     try simp[*])
   |((with_reducible first|apply qql|apply qqn|apply qqp|apply qqm|apply qqo|apply qqq);simp[*])
  · refine endP_tell2 (.inl rfl) [] (Sub.nil _) (by decide) (by simp) (by simp) ?_ ?_
    · rw [if_neg (by simp [primErr, h])]; exact VLe.cap _ _
    · rw [show primErr p = 2 by simp [primErr, h]]; exact VLe.refl _
  · refine endP_tell2 (.inl rfl) [] (Sub.nil _) (by decide) (by simp) (by simp) ?_ ?_
    · rw [if_neg (by simp [primErr, *])]; exact VLe.cap _ _
    · rw [show primErr p = 4 by simp [primErr, *]]; exact VLe.refl _
  · rename_i hk2
    have hn2 := h
    refine vcallk_pure (runs291 _ p) ?_
    cases hf : fits p with
    | false =>
      repeat' first
       |(with_reducible first|apply qa|apply qb|apply qc|apply qd|apply qe|apply qf|apply qg|apply qh|apply qi|apply qj|apply qk|apply ql|apply qm|apply qn|apply qo|apply qp|apply qq|refine blockP_ne (by decide) ?_)
       |((with_reducible refine Pwp.reg fun K hK=>?_);simp[*])
       |((with_reducible refine Pwp.drawn (id := 14) follows_mixed [0, 0, 0, 6, 14, 0, 0, 64, 224, 480, 0, 0, 2048, 7168, 15360, 32766, 65534, 131071, 262143] [false, false, false, false, false, false, false, false, false, false, false, false, false, false, false, false, true, true, false] ?_ fun K hK => ?_); focus kernel_rfl
         simp [*])
       |((with_reducible refine Pwp.drawn (id := 16) follows_mixed [0, 0, 0, 4, 14, 30, 0, 0, 192, 448, 0, 0, 2048, 7168, 15360, 32766, 65534, 131071, 262143] [false, false, false, false, false, false, false, false, false, false, false, false, false, false, false, false, true, true, false] ?_ fun K hK => ?_); focus kernel_rfl
         simp [*])
       |((with_reducible refine Pwp.drawn (id := 18) follows_mixed [0, 0, 2, 6, 0, 0, 32, 112, 240, 0, 0, 1024, 3584, 7680, 16382, 32766, 65535, 131071] [false, false, false, false, false, false, false, false, false, false, false, false, false, false, false, true, true, false] ?_ fun K hK => ?_); focus kernel_rfl
         simp [*])
       |((with_reducible refine Hid.go hK ?_);clear hK K)|((with_reducible apply Pwp.condG);rfl)|((with_reducible first|apply qqj|apply qqk);simp[*];done)|((with_reducible first|apply qr|apply qs|apply qt|apply qu|apply qv|apply qw)<;>intro h)
       |((with_reducible first|apply qx|apply qy|apply qz|apply qqa|apply qqb|apply qqc|apply qqd|apply qqe|apply qqf|apply qqg|apply qqh|apply qqi)<;>intro h<;>try simp[h, *])
       |((with_reducible refine and_go ?_ fun hs=>?_);focus omega
         try simp[*])
       |((with_reducible first|apply qql|apply qqn|apply qqp|apply qqm|apply qqo|apply qqq);simp[*])
      refine endP_tell2 (.inl rfl) [] (Sub.nil _) (by decide) (by simp) (by simp) ?_ ?_
      · rw [if_neg (by simp [primErr, *])]; exact VLe.cap _ _
      · rw [show primErr p = 40 by simp [primErr, *]]; exact VLe.refl _
    | true =>
      have hp0 : primErr p = 0 := by simp [primErr, *]
      repeat' first
       |(with_reducible first|apply qa|apply qb|apply qc|apply qd|apply qe|apply qf|apply qg|apply qh|apply qi|apply qj|apply qk|apply ql|apply qm|apply qn|apply qo|apply qp|apply qq|refine blockP_ne (by decide) ?_)
       |((with_reducible refine Pwp.reg fun K hK=>?_);simp[*])
       |((with_reducible refine Pwp.drawn (id := 14) follows_mixed [0, 0, 0, 6, 14, 0, 0, 64, 224, 480, 0, 0, 2048, 7168, 15360, 32766, 65534, 131071, 262143] [false, false, false, false, false, false, false, false, false, false, false, false, false, false, false, false, true, true, false] ?_ fun K hK => ?_); focus kernel_rfl
         simp [*])
       |((with_reducible refine Pwp.drawn (id := 16) follows_mixed [0, 0, 0, 4, 14, 30, 0, 0, 192, 448, 0, 0, 2048, 7168, 15360, 32766, 65534, 131071, 262143] [false, false, false, false, false, false, false, false, false, false, false, false, false, false, false, false, true, true, false] ?_ fun K hK => ?_); focus kernel_rfl
         simp [*])
       |((with_reducible refine Pwp.drawn (id := 18) follows_mixed [0, 0, 2, 6, 0, 0, 32, 112, 240, 0, 0, 1024, 3584, 7680, 16382, 32766, 65535, 131071] [false, false, false, false, false, false, false, false, false, false, false, false, false, false, false, true, true, false] ?_ fun K hK => ?_); focus kernel_rfl
         simp [*])
       |((with_reducible refine Hid.go hK ?_);clear hK K)|((with_reducible apply Pwp.condG);rfl)|((with_reducible first|apply qqj|apply qqk);simp[*];done)|((with_reducible first|apply qr|apply qs|apply qt|apply qu|apply qv|apply qw)<;>intro h)
       |((with_reducible first|apply qx|apply qy|apply qz|apply qqa|apply qqb|apply qqc|apply qqd|apply qqe|apply qqf|apply qqg|apply qqh|apply qqi)<;>intro h<;>try simp[h, *])
       |((with_reducible refine and_go ?_ fun hs=>?_);focus omega
         try simp[*])
       |((with_reducible first|apply qql|apply qqn|apply qqp|apply qqm|apply qqo|apply qqq);simp[*])
      refine Pwp.loopN (ι := Nat × List T3) (S := fun x => ⟨[.any, .ptr (0 :: A) 1 0 0, .any, .any, .slice (21 :: A) x.2.length, intsPv p.index, .int .i64 x.1, .any, .any, .any, .any, .any, .any, .any, .any, .any, .any, .any, .any, .any, .any, .any, .any, .any, .any, .any, .any, .any, .any, .any, .any, .any, .any, .any, .any, .any, .any, .any, .any, .any, .any, .any, .any, .any, .any, .any, .any, .any, .any, .any, .any, .any, .any, .any, .any, .any, .any, .any, .any, .any, .any, .any, .any, .any, .any, .any, .any, .any, .any, .any, .any, .any, .any, .any, .any, .any, .any, .any, .any, .any, .any, .any, .any, .any, .any, .any, .any, .any, .any, .any, .any, .any, .any, .any, .any, .any, .any, .any, .any, .any, .any, .any, .any, .any, .any, .any, .any, .any], [(0 :: A, .row 2 [p.pv]), (21 :: A, .row 3 (x.2.map T3.pv))], x.1 :: 22 :: A, 0⟩)
        (C := fun x => x.1 ≤ p.index.length - 2 ∧ x.2 = (List.range x.1).flatMap (primAt p) ∧ x.2.length ≤ x.1) (μ := fun x => p.index.length - x.1) (0, []) ?_ ?_ ?_
      · refine PLe.tellIn [] ?_ ?_ ?_ ?_
        · simp
        · exact Sub.nil _
        · simp [ObLe.refl, *]
        · repeat' first | exact VLeL.nil | refine VLeL.cons ?_ ?_
          all_goals first | exact VLe.any _ | exact VLe.refl _ | exact VLe.ghost _ ⟨_, rfl, by omega, by omega⟩ | (apply VLe.row (h := ELe.refl _); (focus (first | exact St.find_hd _ _ _ | exact St.find_tl (by simp) (St.find_hd _ _ _) | exact St.find_tl (by simp) (St.find_tl (by simp) (St.find_hd _ _ _)))); (simp [*]; done)) | exact VLe.of_eq (by simp [*])
      · simp
      · rintro ⟨i, acc⟩ ⟨hi, ha, hal⟩
        simp only at hi ha hal
        have ha' : Hid (acc = (List.range i).flatMap (primAt p)) := ⟨ha⟩
        clear ha
        by_cases hlt : i + 2 < p.index.length
        · have w1 := wrap_succ i (by omega)
          have w2 : IntKind.i64.wrap ((i : Int) + 2) = (i : Int) + 2 := wrap_in _ (by omega)
          have n2 : ((i : Int) + 2).toNat = i + 2 := by omega
          have n1 : ((i : Int) + 1).toNat = i + 1 := by omega
          have i0 : i < p.index.length := by omega
          have i1 : i + 1 < p.index.length := by omega
          have c2 : ((i : Int) + 2 < (p.index.length : Int)) = True := by simp only [eq_iff_iff, iff_true]; omega
          have c1 : ((i : Int) + 1 < (p.index.length : Int)) = True := by simp only [eq_iff_iff, iff_true]; omega
          have step : (List.range (i + 1)).flatMap (primAt p) = acc ++ primAt p i := by
            simp only [List.range_succ, List.flatMap_append, ← ha'.of, List.flatMap_cons, List.flatMap_nil, List.append_nil]
          have step' : Hid ((List.range (i + 1)).flatMap (primAt p) = acc ++ primAt p i) := ⟨step⟩
          clear step
          by_cases k0 : p.kind = 0
          · by_cases m3 : i % 3 = 0
            · have m3' : ((i : Int) % 3 = 0) = True := by simp only [eq_iff_iff, iff_true]; omega
              repeat' first
               |(with_reducible first|apply qa|apply qb|apply qc|apply qd|apply qe|apply qf|apply qg|apply qh|apply qi|apply qj|apply qk|apply ql|apply qm|apply qn|apply qo|apply qp|apply qq|refine blockP_ne (by decide) ?_)
               |((with_reducible refine Pwp.reg fun K hK=>?_);simp[*, tmod3, tmod2])
               |((with_reducible refine Pwp.drawn (id := 14) follows_mixed [0, 0, 0, 6, 14, 0, 0, 64, 224, 480, 0, 0, 2048, 7168, 15360, 32766, 65534, 131071, 262143] [false, false, false, false, false, false, false, false, false, false, false, false, false, false, false, false, true, true, false] ?_ fun K hK => ?_); focus kernel_rfl
                 simp [*, tmod3, tmod2])
               |((with_reducible refine Pwp.drawn (id := 16) follows_mixed [0, 0, 0, 4, 14, 30, 0, 0, 192, 448, 0, 0, 2048, 7168, 15360, 32766, 65534, 131071, 262143] [false, false, false, false, false, false, false, false, false, false, false, false, false, false, false, false, true, true, false] ?_ fun K hK => ?_); focus kernel_rfl
                 simp [*, tmod3, tmod2])
               |((with_reducible refine Pwp.drawn (id := 18) follows_mixed [0, 0, 2, 6, 0, 0, 32, 112, 240, 0, 0, 1024, 3584, 7680, 16382, 32766, 65535, 131071] [false, false, false, false, false, false, false, false, false, false, false, false, false, false, false, true, true, false] ?_ fun K hK => ?_); focus kernel_rfl
                 simp [*, tmod3, tmod2])
               |((with_reducible refine Hid.go hK ?_);clear hK K)|((with_reducible apply Pwp.condG);rfl)|((with_reducible first|apply qqj|apply qqk);simp[*, tmod3, tmod2];done)|((with_reducible first|apply qr|apply qs|apply qt|apply qu|apply qv|apply qw)<;>intro h)
               |((with_reducible first|apply qx|apply qy|apply qz|apply qqa|apply qqb|apply qqc|apply qqd|apply qqe|apply qqf|apply qqg|apply qqh|apply qqi)<;>intro h<;>try simp[h, *, tmod3, tmod2])
               |((with_reducible refine and_go ?_ fun hs=>?_);focus omega
                 try simp[*, tmod3, tmod2])
               |((with_reducible first|apply qql|apply qqn|apply qqp|apply qqm|apply qqo|apply qqq);simp[*, tmod3, tmod2])
              have e1 : primAt p i = [⟨p.index[i], p.index[i + 1], p.index[i + 2]⟩] := by simp [primAt, *]
              refine roundN_go (i + 1, acc ++ [⟨p.index[i], p.index[i + 1], p.index[i + 2]⟩]) ?_ ⟨by simp only; omega, ?_, ?_⟩ (by simp only; omega)
              · refine PLe.tellNext (pre := []) [] ?_ ?_ ?_ ?_
                · simp
                · exact Sub.nil _
                · simp [ObLe.refl, *]
                · repeat' first | exact VLeL.nil | refine VLeL.cons ?_ ?_
                  all_goals first | exact VLe.any _ | exact VLe.refl _ | exact VLe.ghost _ ⟨_, rfl, by omega, by omega⟩ | (apply VLe.row (h := ELe.refl _); (focus (first | exact St.find_hd _ _ _ | exact St.find_tl (by simp) (St.find_hd _ _ _) | exact St.find_tl (by simp) (St.find_tl (by simp) (St.find_hd _ _ _)))); (simp [*]; done)) | exact VLe.of_eq (by simp [*])
              · simp only [step'.of, e1]
              · simp; omega
            · have m3' : ((i : Int) % 3 = 0) = False := by simp only [eq_iff_iff, iff_false]; omega
              repeat' first
               |(with_reducible first|apply qa|apply qb|apply qc|apply qd|apply qe|apply qf|apply qg|apply qh|apply qi|apply qj|apply qk|apply ql|apply qm|apply qn|apply qo|apply qp|apply qq|refine blockP_ne (by decide) ?_)
               |((with_reducible refine Pwp.reg fun K hK=>?_);simp[*, tmod3, tmod2])
               |((with_reducible refine Pwp.drawn (id := 14) follows_mixed [0, 0, 0, 6, 14, 0, 0, 64, 224, 480, 0, 0, 2048, 7168, 15360, 32766, 65534, 131071, 262143] [false, false, false, false, false, false, false, false, false, false, false, false, false, false, false, false, true, true, false] ?_ fun K hK => ?_); focus kernel_rfl
                 simp [*, tmod3, tmod2])
               |((with_reducible refine Pwp.drawn (id := 16) follows_mixed [0, 0, 0, 4, 14, 30, 0, 0, 192, 448, 0, 0, 2048, 7168, 15360, 32766, 65534, 131071, 262143] [false, false, false, false, false, false, false, false, false, false, false, false, false, false, false, false, true, true, false] ?_ fun K hK => ?_); focus kernel_rfl
                 simp [*, tmod3, tmod2])
               |((with_reducible refine Pwp.drawn (id := 18) follows_mixed [0, 0, 2, 6, 0, 0, 32, 112, 240, 0, 0, 1024, 3584, 7680, 16382, 32766, 65535, 131071] [false, false, false, false, false, false, false, false, false, false, false, false, false, false, false, true, true, false] ?_ fun K hK => ?_); focus kernel_rfl
                 simp [*, tmod3, tmod2])
               |((with_reducible refine Hid.go hK ?_);clear hK K)|((with_reducible apply Pwp.condG);rfl)|((with_reducible first|apply qqj|apply qqk);simp[*, tmod3, tmod2];done)|((with_reducible first|apply qr|apply qs|apply qt|apply qu|apply qv|apply qw)<;>intro h)
               |((with_reducible first|apply qx|apply qy|apply qz|apply qqa|apply qqb|apply qqc|apply qqd|apply qqe|apply qqf|apply qqg|apply qqh|apply qqi)<;>intro h<;>try simp[h, *, tmod3, tmod2])
               |((with_reducible refine and_go ?_ fun hs=>?_);focus omega
                 try simp[*, tmod3, tmod2])
               |((with_reducible first|apply qql|apply qqn|apply qqp|apply qqm|apply qqo|apply qqq);simp[*, tmod3, tmod2])
              have e1 : primAt p i = [] := by simp [primAt, *]
              refine roundN_go (i + 1, acc) ?_ ⟨by simp only; omega, ?_, ?_⟩ (by simp only; omega)
              · refine PLe.tellNext (pre := []) [] ?_ ?_ ?_ ?_
                · simp
                · exact Sub.nil _
                · simp [ObLe.refl, *]
                · repeat' first | exact VLeL.nil | refine VLeL.cons ?_ ?_
                  all_goals first | exact VLe.any _ | exact VLe.refl _ | exact VLe.ghost _ ⟨_, rfl, by omega, by omega⟩ | (apply VLe.row (h := ELe.refl _); (focus (first | exact St.find_hd _ _ _ | exact St.find_tl (by simp) (St.find_hd _ _ _) | exact St.find_tl (by simp) (St.find_tl (by simp) (St.find_hd _ _ _)))); (simp [*]; done)) | exact VLe.of_eq (by simp [*])
              · simp only [step'.of, e1, List.append_nil]
              · simp; omega
          · by_cases k1 : p.kind = 1
            · by_cases m2 : i % 2 = 0
              · have m2' : ((i : Int) % 2 = 0) = True := by simp only [eq_iff_iff, iff_true]; omega
                repeat' first
                 |(with_reducible first|apply qa|apply qb|apply qc|apply qd|apply qe|apply qf|apply qg|apply qh|apply qi|apply qj|apply qk|apply ql|apply qm|apply qn|apply qo|apply qp|apply qq|refine blockP_ne (by decide) ?_)
                 |((with_reducible refine Pwp.reg fun K hK=>?_);simp[*, tmod3, tmod2])
                 |((with_reducible refine Pwp.drawn (id := 14) follows_mixed [0, 0, 0, 6, 14, 0, 0, 64, 224, 480, 0, 0, 2048, 7168, 15360, 32766, 65534, 131071, 262143] [false, false, false, false, false, false, false, false, false, false, false, false, false, false, false, false, true, true, false] ?_ fun K hK => ?_); focus kernel_rfl
                   simp [*, tmod3, tmod2])
                 |((with_reducible refine Pwp.drawn (id := 16) follows_mixed [0, 0, 0, 4, 14, 30, 0, 0, 192, 448, 0, 0, 2048, 7168, 15360, 32766, 65534, 131071, 262143] [false, false, false, false, false, false, false, false, false, false, false, false, false, false, false, false, true, true, false] ?_ fun K hK => ?_); focus kernel_rfl
                   simp [*, tmod3, tmod2])
                 |((with_reducible refine Pwp.drawn (id := 18) follows_mixed [0, 0, 2, 6, 0, 0, 32, 112, 240, 0, 0, 1024, 3584, 7680, 16382, 32766, 65535, 131071] [false, false, false, false, false, false, false, false, false, false, false, false, false, false, false, true, true, false] ?_ fun K hK => ?_); focus kernel_rfl
                   simp [*, tmod3, tmod2])
                 |((with_reducible refine Hid.go hK ?_);clear hK K)|((with_reducible apply Pwp.condG);rfl)|((with_reducible first|apply qqj|apply qqk);simp[*, tmod3, tmod2];done)|((with_reducible first|apply qr|apply qs|apply qt|apply qu|apply qv|apply qw)<;>intro h)
                 |((with_reducible first|apply qx|apply qy|apply qz|apply qqa|apply qqb|apply qqc|apply qqd|apply qqe|apply qqf|apply qqg|apply qqh|apply qqi)<;>intro h<;>try simp[h, *, tmod3, tmod2])
                 |((with_reducible refine and_go ?_ fun hs=>?_);focus omega
                   try simp[*, tmod3, tmod2])
                 |((with_reducible first|apply qql|apply qqn|apply qqp|apply qqm|apply qqo|apply qqq);simp[*, tmod3, tmod2])
                have e1 : primAt p i = [⟨p.index[i], p.index[i + 1], p.index[i + 2]⟩] := by simp [primAt, *]
                refine roundN_go (i + 1, acc ++ [⟨p.index[i], p.index[i + 1], p.index[i + 2]⟩]) ?_ ⟨by simp only; omega, ?_, ?_⟩ (by simp only; omega)
                · refine PLe.tellNext (pre := []) [] ?_ ?_ ?_ ?_
                  · simp
                  · exact Sub.nil _
                  · simp [ObLe.refl, *]
                  · repeat' first | exact VLeL.nil | refine VLeL.cons ?_ ?_
                    all_goals first | exact VLe.any _ | exact VLe.refl _ | exact VLe.ghost _ ⟨_, rfl, by omega, by omega⟩ | (apply VLe.row (h := ELe.refl _); (focus (first | exact St.find_hd _ _ _ | exact St.find_tl (by simp) (St.find_hd _ _ _) | exact St.find_tl (by simp) (St.find_tl (by simp) (St.find_hd _ _ _)))); (simp [*]; done)) | exact VLe.of_eq (by simp [*])
                · simp only [step'.of, e1]
                · simp; omega
              · have m2' : ((i : Int) % 2 = 0) = False := by simp only [eq_iff_iff, iff_false]; omega
                repeat' first
                 |(with_reducible first|apply qa|apply qb|apply qc|apply qd|apply qe|apply qf|apply qg|apply qh|apply qi|apply qj|apply qk|apply ql|apply qm|apply qn|apply qo|apply qp|apply qq|refine blockP_ne (by decide) ?_)
                 |((with_reducible refine Pwp.reg fun K hK=>?_);simp[*, tmod3, tmod2])
                 |((with_reducible refine Pwp.drawn (id := 14) follows_mixed [0, 0, 0, 6, 14, 0, 0, 64, 224, 480, 0, 0, 2048, 7168, 15360, 32766, 65534, 131071, 262143] [false, false, false, false, false, false, false, false, false, false, false, false, false, false, false, false, true, true, false] ?_ fun K hK => ?_); focus kernel_rfl
                   simp [*, tmod3, tmod2])
                 |((with_reducible refine Pwp.drawn (id := 16) follows_mixed [0, 0, 0, 4, 14, 30, 0, 0, 192, 448, 0, 0, 2048, 7168, 15360, 32766, 65534, 131071, 262143] [false, false, false, false, false, false, false, false, false, false, false, false, false, false, false, false, true, true, false] ?_ fun K hK => ?_); focus kernel_rfl
                   simp [*, tmod3, tmod2])
                 |((with_reducible refine Pwp.drawn (id := 18) follows_mixed [0, 0, 2, 6, 0, 0, 32, 112, 240, 0, 0, 1024, 3584, 7680, 16382, 32766, 65535, 131071] [false, false, false, false, false, false, false, false, false, false, false, false, false, false, false, true, true, false] ?_ fun K hK => ?_); focus kernel_rfl
                   simp [*, tmod3, tmod2])
                 |((with_reducible refine Hid.go hK ?_);clear hK K)|((with_reducible apply Pwp.condG);rfl)|((with_reducible first|apply qqj|apply qqk);simp[*, tmod3, tmod2];done)|((with_reducible first|apply qr|apply qs|apply qt|apply qu|apply qv|apply qw)<;>intro h)
                 |((with_reducible first|apply qx|apply qy|apply qz|apply qqa|apply qqb|apply qqc|apply qqd|apply qqe|apply qqf|apply qqg|apply qqh|apply qqi)<;>intro h<;>try simp[h, *, tmod3, tmod2])
                 |((with_reducible refine and_go ?_ fun hs=>?_);focus omega
                   try simp[*, tmod3, tmod2])
                 |((with_reducible first|apply qql|apply qqn|apply qqp|apply qqm|apply qqo|apply qqq);simp[*, tmod3, tmod2])
                have e1 : primAt p i = [⟨p.index[i + 1], p.index[i], p.index[i + 2]⟩] := by simp [primAt, *]
                refine roundN_go (i + 1, acc ++ [⟨p.index[i + 1], p.index[i], p.index[i + 2]⟩]) ?_ ⟨by simp only; omega, ?_, ?_⟩ (by simp only; omega)
                · refine PLe.tellNext (pre := []) [] ?_ ?_ ?_ ?_
                  · simp
                  · exact Sub.nil _
                  · simp [ObLe.refl, *]
                  · repeat' first | exact VLeL.nil | refine VLeL.cons ?_ ?_
                    all_goals first | exact VLe.any _ | exact VLe.refl _ | exact VLe.ghost _ ⟨_, rfl, by omega, by omega⟩ | (apply VLe.row (h := ELe.refl _); (focus (first | exact St.find_hd _ _ _ | exact St.find_tl (by simp) (St.find_hd _ _ _) | exact St.find_tl (by simp) (St.find_tl (by simp) (St.find_hd _ _ _)))); (simp [*]; done)) | exact VLe.of_eq (by simp [*])
                · simp only [step'.of, e1]
                · simp; omega
            · have k2 : p.kind = 2 := by omega
              have q0 : 0 < p.index.length := by omega
              have c0 : ((0 : Int) < (p.index.length : Int)) = True := by simp only [eq_iff_iff, iff_true]; omega
              repeat' first
               |(with_reducible first|apply qa|apply qb|apply qc|apply qd|apply qe|apply qf|apply qg|apply qh|apply qi|apply qj|apply qk|apply ql|apply qm|apply qn|apply qo|apply qp|apply qq|refine blockP_ne (by decide) ?_)
               |((with_reducible refine Pwp.reg fun K hK=>?_);simp[*, tmod3, tmod2])
               |((with_reducible refine Pwp.drawn (id := 14) follows_mixed [0, 0, 0, 6, 14, 0, 0, 64, 224, 480, 0, 0, 2048, 7168, 15360, 32766, 65534, 131071, 262143] [false, false, false, false, false, false, false, false, false, false, false, false, false, false, false, false, true, true, false] ?_ fun K hK => ?_); focus kernel_rfl
                 simp [*, tmod3, tmod2])
               |((with_reducible refine Pwp.drawn (id := 16) follows_mixed [0, 0, 0, 4, 14, 30, 0, 0, 192, 448, 0, 0, 2048, 7168, 15360, 32766, 65534, 131071, 262143] [false, false, false, false, false, false, false, false, false, false, false, false, false, false, false, false, true, true, false] ?_ fun K hK => ?_); focus kernel_rfl
                 simp [*, tmod3, tmod2])
               |((with_reducible refine Pwp.drawn (id := 18) follows_mixed [0, 0, 2, 6, 0, 0, 32, 112, 240, 0, 0, 1024, 3584, 7680, 16382, 32766, 65535, 131071] [false, false, false, false, false, false, false, false, false, false, false, false, false, false, false, true, true, false] ?_ fun K hK => ?_); focus kernel_rfl
                 simp [*, tmod3, tmod2])
               |((with_reducible refine Hid.go hK ?_);clear hK K)|((with_reducible apply Pwp.condG);rfl)|((with_reducible first|apply qqj|apply qqk);simp[*, tmod3, tmod2];done)|((with_reducible first|apply qr|apply qs|apply qt|apply qu|apply qv|apply qw)<;>intro h)
               |((with_reducible first|apply qx|apply qy|apply qz|apply qqa|apply qqb|apply qqc|apply qqd|apply qqe|apply qqf|apply qqg|apply qqh|apply qqi)<;>intro h<;>try simp[h, *, tmod3, tmod2])
               |((with_reducible refine and_go ?_ fun hs=>?_);focus omega
                 try simp[*, tmod3, tmod2])
               |((with_reducible first|apply qql|apply qqn|apply qqp|apply qqm|apply qqo|apply qqq);simp[*, tmod3, tmod2])
              have e1 : primAt p i = [⟨p.index[0], p.index[i + 1], p.index[i + 2]⟩] := by simp [primAt, *]
              refine roundN_go (i + 1, acc ++ [⟨p.index[0], p.index[i + 1], p.index[i + 2]⟩]) ?_ ⟨by simp only; omega, ?_, ?_⟩ (by simp only; omega)
              · refine PLe.tellNext (pre := []) [] ?_ ?_ ?_ ?_
                · simp
                · exact Sub.nil _
                · simp [ObLe.refl, *]
                · repeat' first | exact VLeL.nil | refine VLeL.cons ?_ ?_
                  all_goals first | exact VLe.any _ | exact VLe.refl _ | exact VLe.ghost _ ⟨_, rfl, by omega, by omega⟩ | (apply VLe.row (h := ELe.refl _); (focus (first | exact St.find_hd _ _ _ | exact St.find_tl (by simp) (St.find_hd _ _ _) | exact St.find_tl (by simp) (St.find_tl (by simp) (St.find_hd _ _ _)))); (simp [*]; done)) | exact VLe.of_eq (by simp [*])
              · simp only [step'.of, e1]
              · simp; omega
        · have w2 : IntKind.i64.wrap ((i : Int) + 2) = (i : Int) + 2 := wrap_in _ (by omega)
          have c2 : ((i : Int) + 2 < (p.index.length : Int)) = False := by simp only [eq_iff_iff, iff_false]; omega
          repeat' first
           |(with_reducible first|apply qa|apply qb|apply qc|apply qd|apply qe|apply qf|apply qg|apply qh|apply qi|apply qj|apply qk|apply ql|apply qm|apply qn|apply qo|apply qp|apply qq|refine blockP_ne (by decide) ?_)
           |((with_reducible refine Pwp.reg fun K hK=>?_);simp[*, tmod3, tmod2])
           |((with_reducible refine Pwp.drawn (id := 14) follows_mixed [0, 0, 0, 6, 14, 0, 0, 64, 224, 480, 0, 0, 2048, 7168, 15360, 32766, 65534, 131071, 262143] [false, false, false, false, false, false, false, false, false, false, false, false, false, false, false, false, true, true, false] ?_ fun K hK => ?_); focus kernel_rfl
             simp [*, tmod3, tmod2])
           |((with_reducible refine Pwp.drawn (id := 16) follows_mixed [0, 0, 0, 4, 14, 30, 0, 0, 192, 448, 0, 0, 2048, 7168, 15360, 32766, 65534, 131071, 262143] [false, false, false, false, false, false, false, false, false, false, false, false, false, false, false, false, true, true, false] ?_ fun K hK => ?_); focus kernel_rfl
             simp [*, tmod3, tmod2])
           |((with_reducible refine Pwp.drawn (id := 18) follows_mixed [0, 0, 2, 6, 0, 0, 32, 112, 240, 0, 0, 1024, 3584, 7680, 16382, 32766, 65535, 131071] [false, false, false, false, false, false, false, false, false, false, false, false, false, false, false, true, true, false] ?_ fun K hK => ?_); focus kernel_rfl
             simp [*, tmod3, tmod2])
           |((with_reducible refine Hid.go hK ?_);clear hK K)|((with_reducible apply Pwp.condG);rfl)|((with_reducible first|apply qqj|apply qqk);simp[*, tmod3, tmod2];done)|((with_reducible first|apply qr|apply qs|apply qt|apply qu|apply qv|apply qw)<;>intro h)
           |((with_reducible first|apply qx|apply qy|apply qz|apply qqa|apply qqb|apply qqc|apply qqd|apply qqe|apply qqf|apply qqg|apply qqh|apply qqi)<;>intro h<;>try simp[h, *, tmod3, tmod2])
           |((with_reducible refine and_go ?_ fun hs=>?_);focus omega
             try simp[*, tmod3, tmod2])
           |((with_reducible first|apply qql|apply qqn|apply qqp|apply qqm|apply qqo|apply qqq);simp[*, tmod3, tmod2])
          have hi2 : i = p.index.length - 2 := by omega
          refine endP_tell2 (.inl rfl) [(21 :: A, .row 3 (acc.map T3.pv))] (Sub.one (by simp)) (by decide) (by simp) (by simp) ?_ ?_
          · rw [if_pos hp0]
            have : primTris p = acc := by simp only [primTris, ← hi2, ha'.of]
            rw [this]
            exact VLe.row (sz := 3) (by simp [St.find]) (by simp) (ELe.refl _)
          · rw [hp0]; exact VLe.refl _
end Go.Pv

set_option linter.unusedVariables false
set_option linter.unusedSimpArgs false
set_option maxRecDepth 100000
namespace Go.Pv
open Go Go.Proofs

theorem ent96 : enters Tryz.prog 96 = true := by kernel_rfl
theorem runs96 (A : Key) (l : List Int) (hl : l.length ≤ 1000000) : Runs Tryz.prog A 96 [intsPv l] [] (intsPv l) [] := by
  unfold intsPv
  refine Runs.nilcase (fun hne => ?_) (fun he a c => ?_)
  · obtain ⟨x, r, rfl⟩ : ∃ x r, l = x :: r := by cases l with | nil => simp at hne | cons x r => exact ⟨x, r, rfl⟩
    have hl2 : r.length + 1 ≤ 1000000 := by simpa using hl
    refine Runs.body (rs := [.tmp 2]) ent96 Tryz.func96 rfl Tryz.ntmps96 rfl (fun x h => by cases h) ?_
    repeat' first
     |(with_reducible first|apply qa|apply qb|apply qc|apply qd|apply qe|apply qf|apply qg|apply qh|apply qi|apply qj|apply qk|apply ql|apply qm|apply qn|apply qo|apply qp|apply qq|refine blockP_ne (by decide) ?_)
     |((with_reducible refine Pwp.reg fun K hK=>?_);simp[*])
     |((with_reducible refine Hid.go hK ?_);clear hK K)|((with_reducible apply Pwp.condG);rfl)|((with_reducible first|apply qqj|apply qqk);simp[*];done)|((with_reducible first|apply qr|apply qs|apply qt|apply qu|apply qv|apply qw)<;>intro h)
     |((with_reducible first|apply qx|apply qy|apply qz|apply qqa|apply qqb|apply qqc)<;>intro h<;>try simp[h, *])
     |((with_reducible refine and_go ?_ fun hs=>?_);focus omega
       try simp[*])
     |((with_reducible first|apply qql|apply qqn|apply qqp);simp[*])
    refine endP_tell1 (.inl rfl) [(3 :: A, .row 1 ((x :: r).map (PV.int .i64)))] (Sub.one (by simp)) (by simp) ?_
    exact VLe.row (sz := 1) (by simp [St.find]) (by simp) (ELe.refl _)
  · have hl0 : l = [] := by simpa using he
    subst hl0
    cases a with
    | none =>
      refine Runs.body (rs := [.tmp 2]) ent96 Tryz.func96 rfl Tryz.ntmps96 rfl (fun x h => by cases h) ?_
      repeat' first
       |(with_reducible first|apply qa|apply qb|apply qc|apply qd|apply qe|apply qf|apply qg|apply qh|apply qi|apply qj|apply qk|apply ql|apply qm|apply qn|apply qo|apply qp|apply qq|refine blockP_ne (by decide) ?_)
       |((with_reducible refine Pwp.reg fun K hK=>?_);simp[*])
       |((with_reducible refine Hid.go hK ?_);clear hK K)|((with_reducible apply Pwp.condG);rfl)|((with_reducible first|apply qqj|apply qqk);simp[*];done)|((with_reducible first|apply qr|apply qs|apply qt|apply qu|apply qv|apply qw)<;>intro h)
       |((with_reducible first|apply qx|apply qy|apply qz|apply qqa|apply qqb|apply qqc)<;>intro h<;>try simp[h, *])
       |((with_reducible refine and_go ?_ fun hs=>?_);focus omega
         try simp[*])
       |((with_reducible first|apply qql|apply qqn|apply qqp);simp[*])
      exact endP_tell1 (.inl rfl) [] (Sub.nil _) (by simp) (VLe.cap _ _)
    | some a =>
      refine Runs.body (rs := [.tmp 2]) ent96 Tryz.func96 rfl Tryz.ntmps96 rfl (fun x h => by cases h) ?_
      repeat' first
       |(with_reducible first|apply qa|apply qb|apply qc|apply qd|apply qe|apply qf|apply qg|apply qh|apply qi|apply qj|apply qk|apply ql|apply qm|apply qn|apply qo|apply qp|apply qq|refine blockP_ne (by decide) ?_)
       |((with_reducible refine Pwp.reg fun K hK=>?_);simp[*])
       |((with_reducible refine Hid.go hK ?_);clear hK K)|((with_reducible apply Pwp.condG);rfl)|((with_reducible first|apply qqj|apply qqk);simp[*];done)|((with_reducible first|apply qr|apply qs|apply qt|apply qu|apply qv|apply qw)<;>intro h)
       |((with_reducible first|apply qx|apply qy|apply qz|apply qqa|apply qqb|apply qqc)<;>intro h<;>try simp[h, *])
       |((with_reducible refine and_go ?_ fun hs=>?_);focus omega
         try simp[*])
       |((with_reducible first|apply qql|apply qqn|apply qqp);simp[*])
      refine endP_tell1 (.inl rfl) [(3 :: A, .row 1 [])] (Sub.one (by simp)) (by simp) ?_
      exact VLe.row (sz := 1) (by simp [St.find]) (by simp) (ELe.refl _)

theorem ent218 : enters Tryz.prog 218 = true := by kernel_rfl
theorem runs218 (A : Key) (l : List Handle) (hl : l.length ≤ 1000000) : Runs Tryz.prog A 218 [handlesPv l] [] (handlesPv l) [] := by
  unfold handlesPv
  refine Runs.nilcase (fun hne => ?_) (fun he a c => ?_)
  · obtain ⟨x, r, rfl⟩ : ∃ x r, l = x :: r := by cases l with | nil => simp at hne | cons x r => exact ⟨x, r, rfl⟩
    have hl2 : r.length + 1 ≤ 1000000 := by simpa using hl
    refine Runs.body (rs := [.tmp 2]) ent218 Tryz.func218 rfl Tryz.ntmps218 rfl (fun x h => by cases h) ?_
    repeat' first
     |(with_reducible first|apply qa|apply qb|apply qc|apply qd|apply qe|apply qf|apply qg|apply qh|apply qi|apply qj|apply qk|apply ql|apply qm|apply qn|apply qo|apply qp|apply qq|refine blockP_ne (by decide) ?_)
     |((with_reducible refine Pwp.reg fun K hK=>?_);simp[*])
     |((with_reducible refine Hid.go hK ?_);clear hK K)|((with_reducible apply Pwp.condG);rfl)|((with_reducible first|apply qqj|apply qqk);simp[*];done)|((with_reducible first|apply qr|apply qs|apply qt|apply qu|apply qv|apply qw)<;>intro h)
     |((with_reducible first|apply qx|apply qy|apply qz|apply qqa|apply qqb|apply qqc)<;>intro h<;>try simp[h, *])
     |((with_reducible refine and_go ?_ fun hs=>?_);focus omega
       try simp[*])
     |((with_reducible first|apply qql|apply qqn|apply qqp);simp[*])
    refine endP_tell1 (.inl rfl) [(3 :: A, .row 2 ((x :: r).map Handle.pv))] (Sub.one (by simp)) (by simp) ?_
    exact VLe.row (sz := 2) (by simp [St.find]) (by simp) (ELe.refl _)
  · have hl0 : l = [] := by simpa using he
    subst hl0
    cases a with
    | none =>
      refine Runs.body (rs := [.tmp 2]) ent218 Tryz.func218 rfl Tryz.ntmps218 rfl (fun x h => by cases h) ?_
      repeat' first
       |(with_reducible first|apply qa|apply qb|apply qc|apply qd|apply qe|apply qf|apply qg|apply qh|apply qi|apply qj|apply qk|apply ql|apply qm|apply qn|apply qo|apply qp|apply qq|refine blockP_ne (by decide) ?_)
       |((with_reducible refine Pwp.reg fun K hK=>?_);simp[*])
       |((with_reducible refine Hid.go hK ?_);clear hK K)|((with_reducible apply Pwp.condG);rfl)|((with_reducible first|apply qqj|apply qqk);simp[*];done)|((with_reducible first|apply qr|apply qs|apply qt|apply qu|apply qv|apply qw)<;>intro h)
       |((with_reducible first|apply qx|apply qy|apply qz|apply qqa|apply qqb|apply qqc)<;>intro h<;>try simp[h, *])
       |((with_reducible refine and_go ?_ fun hs=>?_);focus omega
         try simp[*])
       |((with_reducible first|apply qql|apply qqn|apply qqp);simp[*])
      exact endP_tell1 (.inl rfl) [] (Sub.nil _) (by simp) (VLe.cap _ _)
    | some a =>
      refine Runs.body (rs := [.tmp 2]) ent218 Tryz.func218 rfl Tryz.ntmps218 rfl (fun x h => by cases h) ?_
      repeat' first
       |(with_reducible first|apply qa|apply qb|apply qc|apply qd|apply qe|apply qf|apply qg|apply qh|apply qi|apply qj|apply qk|apply ql|apply qm|apply qn|apply qo|apply qp|apply qq|refine blockP_ne (by decide) ?_)
       |((with_reducible refine Pwp.reg fun K hK=>?_);simp[*])
       |((with_reducible refine Hid.go hK ?_);clear hK K)|((with_reducible apply Pwp.condG);rfl)|((with_reducible first|apply qqj|apply qqk);simp[*];done)|((with_reducible first|apply qr|apply qs|apply qt|apply qu|apply qv|apply qw)<;>intro h)
       |((with_reducible first|apply qx|apply qy|apply qz|apply qqa|apply qqb|apply qqc)<;>intro h<;>try simp[h, *])
       |((with_reducible refine and_go ?_ fun hs=>?_);focus omega
         try simp[*])
       |((with_reducible first|apply qql|apply qqn|apply qqp);simp[*])
      refine endP_tell1 (.inl rfl) [(3 :: A, .row 2 [])] (Sub.one (by simp)) (by simp) ?_
      exact VLe.row (sz := 2) (by simp [St.find]) (by simp) (ELe.refl _)

theorem ent219 : enters Tryz.prog 219 = true := by kernel_rfl
theorem runs219 (A : Key) (l : List Vec) (hl : l.length ≤ 1000000) : Runs Tryz.prog A 219 [vecsPv l] [] (vecsPv l) [] := by
  unfold vecsPv
  refine Runs.nilcase (fun hne => ?_) (fun he a c => ?_)
  · obtain ⟨x, r, rfl⟩ : ∃ x r, l = x :: r := by cases l with | nil => simp at hne | cons x r => exact ⟨x, r, rfl⟩
    have hl2 : r.length + 1 ≤ 1000000 := by simpa using hl
    refine Runs.body (rs := [.tmp 2]) ent219 Tryz.func219 rfl Tryz.ntmps219 rfl (fun x h => by cases h) ?_
    repeat' first
     |(with_reducible first|apply qa|apply qb|apply qc|apply qd|apply qe|apply qf|apply qg|apply qh|apply qi|apply qj|apply qk|apply ql|apply qm|apply qn|apply qo|apply qp|apply qq|refine blockP_ne (by decide) ?_)
     |((with_reducible refine Pwp.reg fun K hK=>?_);simp[*])
     |((with_reducible refine Hid.go hK ?_);clear hK K)|((with_reducible apply Pwp.condG);rfl)|((with_reducible first|apply qqj|apply qqk);simp[*];done)|((with_reducible first|apply qr|apply qs|apply qt|apply qu|apply qv|apply qw)<;>intro h)
     |((with_reducible first|apply qx|apply qy|apply qz|apply qqa|apply qqb|apply qqc)<;>intro h<;>try simp[h, *])
     |((with_reducible refine and_go ?_ fun hs=>?_);focus omega
       try simp[*])
     |((with_reducible first|apply qql|apply qqn|apply qqp);simp[*])
    refine endP_tell1 (.inl rfl) [(3 :: A, .row 3 ((x :: r).map Vec.pv))] (Sub.one (by simp)) (by simp) ?_
    exact VLe.row (sz := 3) (by simp [St.find]) (by simp) (ELe.refl _)
  · have hl0 : l = [] := by simpa using he
    subst hl0
    cases a with
    | none =>
      refine Runs.body (rs := [.tmp 2]) ent219 Tryz.func219 rfl Tryz.ntmps219 rfl (fun x h => by cases h) ?_
      repeat' first
       |(with_reducible first|apply qa|apply qb|apply qc|apply qd|apply qe|apply qf|apply qg|apply qh|apply qi|apply qj|apply qk|apply ql|apply qm|apply qn|apply qo|apply qp|apply qq|refine blockP_ne (by decide) ?_)
       |((with_reducible refine Pwp.reg fun K hK=>?_);simp[*])
       |((with_reducible refine Hid.go hK ?_);clear hK K)|((with_reducible apply Pwp.condG);rfl)|((with_reducible first|apply qqj|apply qqk);simp[*];done)|((with_reducible first|apply qr|apply qs|apply qt|apply qu|apply qv|apply qw)<;>intro h)
       |((with_reducible first|apply qx|apply qy|apply qz|apply qqa|apply qqb|apply qqc)<;>intro h<;>try simp[h, *])
       |((with_reducible refine and_go ?_ fun hs=>?_);focus omega
         try simp[*])
       |((with_reducible first|apply qql|apply qqn|apply qqp);simp[*])
      exact endP_tell1 (.inl rfl) [] (Sub.nil _) (by simp) (VLe.cap _ _)
    | some a =>
      refine Runs.body (rs := [.tmp 2]) ent219 Tryz.func219 rfl Tryz.ntmps219 rfl (fun x h => by cases h) ?_
      repeat' first
       |(with_reducible first|apply qa|apply qb|apply qc|apply qd|apply qe|apply qf|apply qg|apply qh|apply qi|apply qj|apply qk|apply ql|apply qm|apply qn|apply qo|apply qp|apply qq|refine blockP_ne (by decide) ?_)
       |((with_reducible refine Pwp.reg fun K hK=>?_);simp[*])
       |((with_reducible refine Hid.go hK ?_);clear hK K)|((with_reducible apply Pwp.condG);rfl)|((with_reducible first|apply qqj|apply qqk);simp[*];done)|((with_reducible first|apply qr|apply qs|apply qt|apply qu|apply qv|apply qw)<;>intro h)
       |((with_reducible first|apply qx|apply qy|apply qz|apply qqa|apply qqb|apply qqc)<;>intro h<;>try simp[h, *])
       |((with_reducible refine and_go ?_ fun hs=>?_);focus omega
         try simp[*])
       |((with_reducible first|apply qql|apply qqn|apply qqp);simp[*])
      refine endP_tell1 (.inl rfl) [(3 :: A, .row 3 [])] (Sub.one (by simp)) (by simp) ?_
      exact VLe.row (sz := 3) (by simp [St.find]) (by simp) (ELe.refl _)

theorem ent220 : enters Tryz.prog 220 = true := by kernel_rfl
theorem runs220 (A : Key) (l : List UV) (hl : l.length ≤ 1000000) : Runs Tryz.prog A 220 [uvsPv l] [] (uvsPv l) [] := by
  unfold uvsPv
  refine Runs.nilcase (fun hne => ?_) (fun he a c => ?_)
  · obtain ⟨x, r, rfl⟩ : ∃ x r, l = x :: r := by cases l with | nil => simp at hne | cons x r => exact ⟨x, r, rfl⟩
    have hl2 : r.length + 1 ≤ 1000000 := by simpa using hl
    refine Runs.body (rs := [.tmp 2]) ent220 Tryz.func220 rfl Tryz.ntmps220 rfl (fun x h => by cases h) ?_
    repeat' first
     |(with_reducible first|apply qa|apply qb|apply qc|apply qd|apply qe|apply qf|apply qg|apply qh|apply qi|apply qj|apply qk|apply ql|apply qm|apply qn|apply qo|apply qp|apply qq|refine blockP_ne (by decide) ?_)
     |((with_reducible refine Pwp.reg fun K hK=>?_);simp[*])
     |((with_reducible refine Hid.go hK ?_);clear hK K)|((with_reducible apply Pwp.condG);rfl)|((with_reducible first|apply qqj|apply qqk);simp[*];done)|((with_reducible first|apply qr|apply qs|apply qt|apply qu|apply qv|apply qw)<;>intro h)
     |((with_reducible first|apply qx|apply qy|apply qz|apply qqa|apply qqb|apply qqc)<;>intro h<;>try simp[h, *])
     |((with_reducible refine and_go ?_ fun hs=>?_);focus omega
       try simp[*])
     |((with_reducible first|apply qql|apply qqn|apply qqp);simp[*])
    refine endP_tell1 (.inl rfl) [(3 :: A, .row 2 ((x :: r).map UV.pv))] (Sub.one (by simp)) (by simp) ?_
    exact VLe.row (sz := 2) (by simp [St.find]) (by simp) (ELe.refl _)
  · have hl0 : l = [] := by simpa using he
    subst hl0
    cases a with
    | none =>
      refine Runs.body (rs := [.tmp 2]) ent220 Tryz.func220 rfl Tryz.ntmps220 rfl (fun x h => by cases h) ?_
      repeat' first
       |(with_reducible first|apply qa|apply qb|apply qc|apply qd|apply qe|apply qf|apply qg|apply qh|apply qi|apply qj|apply qk|apply ql|apply qm|apply qn|apply qo|apply qp|apply qq|refine blockP_ne (by decide) ?_)
       |((with_reducible refine Pwp.reg fun K hK=>?_);simp[*])
       |((with_reducible refine Hid.go hK ?_);clear hK K)|((with_reducible apply Pwp.condG);rfl)|((with_reducible first|apply qqj|apply qqk);simp[*];done)|((with_reducible first|apply qr|apply qs|apply qt|apply qu|apply qv|apply qw)<;>intro h)
       |((with_reducible first|apply qx|apply qy|apply qz|apply qqa|apply qqb|apply qqc)<;>intro h<;>try simp[h, *])
       |((with_reducible refine and_go ?_ fun hs=>?_);focus omega
         try simp[*])
       |((with_reducible first|apply qql|apply qqn|apply qqp);simp[*])
      exact endP_tell1 (.inl rfl) [] (Sub.nil _) (by simp) (VLe.cap _ _)
    | some a =>
      refine Runs.body (rs := [.tmp 2]) ent220 Tryz.func220 rfl Tryz.ntmps220 rfl (fun x h => by cases h) ?_
      repeat' first
       |(with_reducible first|apply qa|apply qb|apply qc|apply qd|apply qe|apply qf|apply qg|apply qh|apply qi|apply qj|apply qk|apply ql|apply qm|apply qn|apply qo|apply qp|apply qq|refine blockP_ne (by decide) ?_)
       |((with_reducible refine Pwp.reg fun K hK=>?_);simp[*])
       |((with_reducible refine Hid.go hK ?_);clear hK K)|((with_reducible apply Pwp.condG);rfl)|((with_reducible first|apply qqj|apply qqk);simp[*];done)|((with_reducible first|apply qr|apply qs|apply qt|apply qu|apply qv|apply qw)<;>intro h)
       |((with_reducible first|apply qx|apply qy|apply qz|apply qqa|apply qqb|apply qqc)<;>intro h<;>try simp[h, *])
       |((with_reducible refine and_go ?_ fun hs=>?_);focus omega
         try simp[*])
       |((with_reducible first|apply qql|apply qqn|apply qqp);simp[*])
      refine endP_tell1 (.inl rfl) [(3 :: A, .row 2 [])] (Sub.one (by simp)) (by simp) ?_
      exact VLe.row (sz := 2) (by simp [St.find]) (by simp) (ELe.refl _)

theorem ent221 : enters Tryz.prog 221 = true := by kernel_rfl
theorem runs221 (A : Key) (l : List Color) (hl : l.length ≤ 1000000) : Runs Tryz.prog A 221 [colorsPv l] [] (colorsPv l) [] := by
  unfold colorsPv
  refine Runs.nilcase (fun hne => ?_) (fun he a c => ?_)
  · obtain ⟨x, r, rfl⟩ : ∃ x r, l = x :: r := by cases l with | nil => simp at hne | cons x r => exact ⟨x, r, rfl⟩
    have hl2 : r.length + 1 ≤ 1000000 := by simpa using hl
    refine Runs.body (rs := [.tmp 2]) ent221 Tryz.func221 rfl Tryz.ntmps221 rfl (fun x h => by cases h) ?_
    repeat' first
     |(with_reducible first|apply qa|apply qb|apply qc|apply qd|apply qe|apply qf|apply qg|apply qh|apply qi|apply qj|apply qk|apply ql|apply qm|apply qn|apply qo|apply qp|apply qq|refine blockP_ne (by decide) ?_)
     |((with_reducible refine Pwp.reg fun K hK=>?_);simp[*])
     |((with_reducible refine Hid.go hK ?_);clear hK K)|((with_reducible apply Pwp.condG);rfl)|((with_reducible first|apply qqj|apply qqk);simp[*];done)|((with_reducible first|apply qr|apply qs|apply qt|apply qu|apply qv|apply qw)<;>intro h)
     |((with_reducible first|apply qx|apply qy|apply qz|apply qqa|apply qqb|apply qqc)<;>intro h<;>try simp[h, *])
     |((with_reducible refine and_go ?_ fun hs=>?_);focus omega
       try simp[*])
     |((with_reducible first|apply qql|apply qqn|apply qqp);simp[*])
    refine endP_tell1 (.inl rfl) [(3 :: A, .row 4 ((x :: r).map Color.pv))] (Sub.one (by simp)) (by simp) ?_
    exact VLe.row (sz := 4) (by simp [St.find]) (by simp) (ELe.refl _)
  · have hl0 : l = [] := by simpa using he
    subst hl0
    cases a with
    | none =>
      refine Runs.body (rs := [.tmp 2]) ent221 Tryz.func221 rfl Tryz.ntmps221 rfl (fun x h => by cases h) ?_
      repeat' first
       |(with_reducible first|apply qa|apply qb|apply qc|apply qd|apply qe|apply qf|apply qg|apply qh|apply qi|apply qj|apply qk|apply ql|apply qm|apply qn|apply qo|apply qp|apply qq|refine blockP_ne (by decide) ?_)
       |((with_reducible refine Pwp.reg fun K hK=>?_);simp[*])
       |((with_reducible refine Hid.go hK ?_);clear hK K)|((with_reducible apply Pwp.condG);rfl)|((with_reducible first|apply qqj|apply qqk);simp[*];done)|((with_reducible first|apply qr|apply qs|apply qt|apply qu|apply qv|apply qw)<;>intro h)
       |((with_reducible first|apply qx|apply qy|apply qz|apply qqa|apply qqb|apply qqc)<;>intro h<;>try simp[h, *])
       |((with_reducible refine and_go ?_ fun hs=>?_);focus omega
         try simp[*])
       |((with_reducible first|apply qql|apply qqn|apply qqp);simp[*])
      exact endP_tell1 (.inl rfl) [] (Sub.nil _) (by simp) (VLe.cap _ _)
    | some a =>
      refine Runs.body (rs := [.tmp 2]) ent221 Tryz.func221 rfl Tryz.ntmps221 rfl (fun x h => by cases h) ?_
      repeat' first
       |(with_reducible first|apply qa|apply qb|apply qc|apply qd|apply qe|apply qf|apply qg|apply qh|apply qi|apply qj|apply qk|apply ql|apply qm|apply qn|apply qo|apply qp|apply qq|refine blockP_ne (by decide) ?_)
       |((with_reducible refine Pwp.reg fun K hK=>?_);simp[*])
       |((with_reducible refine Hid.go hK ?_);clear hK K)|((with_reducible apply Pwp.condG);rfl)|((with_reducible first|apply qqj|apply qqk);simp[*];done)|((with_reducible first|apply qr|apply qs|apply qt|apply qu|apply qv|apply qw)<;>intro h)
       |((with_reducible first|apply qx|apply qy|apply qz|apply qqa|apply qqb|apply qqc)<;>intro h<;>try simp[h, *])
       |((with_reducible refine and_go ?_ fun hs=>?_);focus omega
         try simp[*])
       |((with_reducible first|apply qql|apply qqn|apply qqp);simp[*])
      refine endP_tell1 (.inl rfl) [(3 :: A, .row 4 [])] (Sub.one (by simp)) (by simp) ?_
      exact VLe.row (sz := 4) (by simp [St.find]) (by simp) (ELe.refl _)

theorem runs218m (A : Key) (l : List Handle) (hl : l.length ≤ 1000000) : Runs Tryz.prog A 218 [handlesPv l] [] (.slice (4 :: A) l.length) [(4 :: A, some (.row 2 (l.map Handle.pv)))] := by
  unfold handlesPv
  refine Runs.nilcase (fun hne => ?_) (fun he a c => ?_)
  · obtain ⟨x, r, rfl⟩ : ∃ x r, l = x :: r := by cases l with | nil => simp at hne | cons x r => exact ⟨x, r, rfl⟩
    have hl2 : r.length + 1 ≤ 1000000 := by simpa using hl
    refine Runs.body (rs := [.tmp 2]) ent218 Tryz.func218 rfl Tryz.ntmps218 rfl (by simp) ?_
    refine Pwp.weaken (PLe.bump 1 (by decide)) ?_
    repeat' first
     |(with_reducible first|apply qa|apply qb|apply qc|apply qd|apply qe|apply qf|apply qg|apply qh|apply qi|apply qj|apply qk|apply ql|apply qm|apply qn|apply qo|apply qp|apply qq|refine blockP_ne (by decide) ?_)
     |((with_reducible refine Pwp.reg fun K hK=>?_);simp[*])
     |((with_reducible refine Hid.go hK ?_);clear hK K)|((with_reducible apply Pwp.condG);rfl)|((with_reducible first|apply qqj|apply qqk);simp[*];done)|((with_reducible first|apply qr|apply qs|apply qt|apply qu|apply qv|apply qw)<;>intro h)
     |((with_reducible first|apply qx|apply qy|apply qz|apply qqa|apply qqb|apply qqc)<;>intro h<;>try simp[h, *])
     |((with_reducible refine and_go ?_ fun hs=>?_);focus omega
       try simp[*])
     |((with_reducible first|apply qql|apply qqn|apply qqp);simp[*])
    exact endP_ret PLe.refl (by simp) (Sub.one (by simp))
  · have hl0 : l = [] := by simpa using he
    subst hl0
    cases a with
    | none =>
      refine Runs.body (rs := [.tmp 2]) ent218 Tryz.func218 rfl Tryz.ntmps218 rfl (by simp) ?_
      repeat' first
       |(with_reducible first|apply qa|apply qb|apply qc|apply qd|apply qe|apply qf|apply qg|apply qh|apply qi|apply qj|apply qk|apply ql|apply qm|apply qn|apply qo|apply qp|apply qq|refine blockP_ne (by decide) ?_)
       |((with_reducible refine Pwp.reg fun K hK=>?_);simp[*])
       |((with_reducible refine Hid.go hK ?_);clear hK K)|((with_reducible apply Pwp.condG);rfl)|((with_reducible first|apply qqj|apply qqk);simp[*];done)|((with_reducible first|apply qr|apply qs|apply qt|apply qu|apply qv|apply qw)<;>intro h)
       |((with_reducible first|apply qx|apply qy|apply qz|apply qqa|apply qqb|apply qqc)<;>intro h<;>try simp[h, *])
       |((with_reducible refine and_go ?_ fun hs=>?_);focus omega
         try simp[*])
       |((with_reducible first|apply qql|apply qqn|apply qqp);simp[*])
      exact endP_ghost (.inl rfl) 4 2 (by simp) (by simp) (by simp)
    | some a =>
      refine Runs.body (rs := [.tmp 2]) ent218 Tryz.func218 rfl Tryz.ntmps218 rfl (by simp) ?_
      refine Pwp.weaken (PLe.bump 1 (by decide)) ?_
      repeat' first
       |(with_reducible first|apply qa|apply qb|apply qc|apply qd|apply qe|apply qf|apply qg|apply qh|apply qi|apply qj|apply qk|apply ql|apply qm|apply qn|apply qo|apply qp|apply qq|refine blockP_ne (by decide) ?_)
       |((with_reducible refine Pwp.reg fun K hK=>?_);simp[*])
       |((with_reducible refine Hid.go hK ?_);clear hK K)|((with_reducible apply Pwp.condG);rfl)|((with_reducible first|apply qqj|apply qqk);simp[*];done)|((with_reducible first|apply qr|apply qs|apply qt|apply qu|apply qv|apply qw)<;>intro h)
       |((with_reducible first|apply qx|apply qy|apply qz|apply qqa|apply qqb|apply qqc)<;>intro h<;>try simp[h, *])
       |((with_reducible refine and_go ?_ fun hs=>?_);focus omega
         try simp[*])
       |((with_reducible first|apply qql|apply qqn|apply qqp);simp[*])
      exact endP_ret PLe.refl (by simp) (Sub.one (by simp))
end Go.Pv

set_option linter.unusedVariables false
set_option linter.unusedSimpArgs false
set_option maxRecDepth 100000
namespace Go.Pv
open Go Go.Proofs

theorem ent105 : enters Tryz.prog 105 = true := by kernel_rfl
theorem runs105 (A : Key) (l m : List Int) (hl : l.length < 4611686018427387904) :
    Runs Tryz.prog A 105 [intsPv l, intsPv m] [] (.bool (decide (l = m))) [] := by
  refine Runs.body (rs := [.tmp 4]) ent105 Tryz.func105 rfl Tryz.ntmps105 rfl (fun x h => by cases h) ?_
  repeat' first
   |(with_reducible first|apply qa|apply qb|apply qc|apply qd|apply qe|apply qf|apply qg|apply qh|apply qi|apply qj|apply qk|apply ql|apply qm|apply qn|apply qo|apply qp|apply qq|refine blockP_ne (by decide) ?_)
   |((with_reducible refine Pwp.reg fun K hK=>?_);simp[*])
   |((with_reducible refine Pwp.drawn (id := 6) follows_mixed [0, 0, 3, 7, 0, 0, 48, 112, 255] [false, false, false, false, false, false, false, false, false] ?_ fun K hK => ?_); focus kernel_rfl
     simp [*])
   |((with_reducible refine Hid.go hK ?_);clear hK K)|((with_reducible apply Pwp.condG);rfl)|((with_reducible first|apply qqj|apply qqk);simp[*];done)|((with_reducible first|apply qr|apply qs|apply qt|apply qu|apply qv|apply qw)<;>intro h)
   |((with_reducible first|apply qx|apply qy|apply qz|apply qqa|apply qqb|apply qqc|apply qqd|apply qqe|apply qqf|apply qqg|apply qqh|apply qqi)<;>intro h<;>try simp[h, *])
   |((with_reducible refine and_go ?_ fun hs=>?_);focus omega
     try simp[*])
   |((with_reducible first|apply qql|apply qqn|apply qqp|apply qqm|apply qqo|apply qqq);simp[*])
  rotate_left
  · refine endP_ret0 ?_
    have : l ≠ m := fun e => h (by rw [e])
    simp [this]
  · have hlm : l.length = m.length := by simpa using h
    refine Pwp.loopN (ι := Nat) (S := fun i => ⟨[intsPv l, intsPv m, .any, .any, .any, .any, .any, .any, .any, .any, .any, .any, .int .i64 m.length, .int .i64 i, .any, .any, .any, .any, .any, .any, .any, .any, .any, .any, .any, .any], [], i :: 10 :: A, 0⟩)
      (C := fun i => i ≤ l.length ∧ ∀ j, (h : j < l.length) → (h' : j < m.length) → j < i → l[j] = m[j]) (μ := fun i => l.length - i) 0 ?_ ?_ ?_
    · refine PLe.tellIn [] ?_ ?_ ?_ ?_
      · simp
      · exact Sub.nil _
      · simp [ObLe.refl, *]
      · repeat' first | exact VLeL.nil | refine VLeL.cons ?_ ?_
        all_goals first | exact VLe.any _ | exact VLe.refl _ | exact VLe.ghost _ ⟨_, rfl, by omega, by omega⟩ | (apply VLe.row (h := ELe.refl _); (focus (first | exact St.find_hd _ _ _ | exact St.find_tl (by simp) (St.find_hd _ _ _) | exact St.find_tl (by simp) (St.find_tl (by simp) (St.find_hd _ _ _)))); (simp [*]; done)) | exact VLe.of_eq (by simp [*])
    · simp
    · rintro i ⟨hi, hp⟩
      repeat' first
       |(with_reducible first|apply qa|apply qb|apply qc|apply qd|apply qe|apply qf|apply qg|apply qh|apply qi|apply qj|apply qk|apply ql|apply qm|apply qn|apply qo|apply qp|apply qq|refine blockP_ne (by decide) ?_)
       |((with_reducible refine Pwp.reg fun K hK=>?_);simp[*, wrap_succ i (by omega)])
       |((with_reducible refine Pwp.drawn (id := 6) follows_mixed [0, 0, 3, 7, 0, 0, 48, 112, 255] [false, false, false, false, false, false, false, false, false] ?_ fun K hK => ?_); focus kernel_rfl
         simp [*, wrap_succ i (by omega)])
       |((with_reducible refine Hid.go hK ?_);clear hK K)|((with_reducible apply Pwp.condG);rfl)|((with_reducible first|apply qqj|apply qqk);simp[*, wrap_succ i (by omega)];done)|((with_reducible first|apply qr|apply qs|apply qt|apply qu|apply qv|apply qw)<;>intro h)
       |((with_reducible first|apply qx|apply qy|apply qz|apply qqa|apply qqb|apply qqc|apply qqd|apply qqe|apply qqf|apply qqg|apply qqh|apply qqi)<;>intro h<;>try simp[h, *, wrap_succ i (by omega)])
       |((with_reducible refine and_go ?_ fun hs=>?_);focus omega
         try simp[*, wrap_succ i (by omega)])
       |((with_reducible first|apply qql|apply qqn|apply qqp|apply qqm|apply qqo|apply qqq);simp[*, wrap_succ i (by omega)])
      · refine roundN_go (i + 1) ?_ ⟨by omega, fun j h1 h2 h3 => ?_⟩ (by omega)
        · refine PLe.tellNext (pre := []) [] ?_ ?_ ?_ ?_
          · simp
          · exact Sub.nil _
          · simp [ObLe.refl, *]
          · repeat' first | exact VLeL.nil | refine VLeL.cons ?_ ?_
            all_goals first | exact VLe.any _ | exact VLe.refl _ | exact VLe.ghost _ ⟨_, rfl, by omega, by omega⟩ | (apply VLe.row (h := ELe.refl _); (focus (first | exact St.find_hd _ _ _ | exact St.find_tl (by simp) (St.find_hd _ _ _) | exact St.find_tl (by simp) (St.find_tl (by simp) (St.find_hd _ _ _)))); (simp [*]; done)) | exact VLe.of_eq (by simp [*])
        · by_cases e : j = i
          · subst e; exact h
          · exact hp j h1 h2 (by omega)
      · refine endP_ret0 ?_
        have : l ≠ m := fun e => by subst e; exact h rfl
        simp [this]
      · refine endP_ret0 ?_
        have : l = m := List.ext_getElem hlm fun j h1 h2 => hp j (by omega) (by omega) (by omega)
        simp [this]

theorem ent61 : enters Tryz.prog 61 = true := by kernel_rfl
theorem runs61 (A : Key) (l m : List Int) (hl : l.length < 4611686018427387904) :
    Runs Tryz.prog A 61 [intsPv l, intsPv m] [] (.bool (decide (l = m))) [] := by
  refine Runs.body (rs := [.tmp 4]) ent61 Tryz.func61 rfl Tryz.ntmps61 rfl (fun x h => by cases h) ?_
  repeat' first
   |(with_reducible first|apply qa|apply qb|apply qc|apply qd|apply qe|apply qf|apply qg|apply qh|apply qi|apply qj|apply qk|apply ql|apply qm|apply qn|apply qo|apply qp|apply qq|refine blockP_ne (by decide) ?_)
   |((with_reducible refine Pwp.reg fun K hK=>?_);simp[*])
   |((with_reducible refine Pwp.drawn (id := 6) follows_mixed [0, 0, 3, 7, 0, 0, 48, 112, 255] [false, false, false, false, false, false, false, false, false] ?_ fun K hK => ?_); focus kernel_rfl
     simp [*])
   |((with_reducible refine Hid.go hK ?_);clear hK K)|((with_reducible apply Pwp.condG);rfl)|((with_reducible first|apply qqj|apply qqk);simp[*];done)|((with_reducible first|apply qr|apply qs|apply qt|apply qu|apply qv|apply qw)<;>intro h)
   |((with_reducible first|apply qx|apply qy|apply qz|apply qqa|apply qqb|apply qqc|apply qqd|apply qqe|apply qqf|apply qqg|apply qqh|apply qqi)<;>intro h<;>try simp[h, *])
   |((with_reducible refine and_go ?_ fun hs=>?_);focus omega
     try simp[*])
   |((with_reducible first|apply qql|apply qqn|apply qqp|apply qqm|apply qqo|apply qqq);simp[*])
  rotate_left
  · refine endP_ret0 ?_
    have : l ≠ m := fun e => by subst e; simp at h
    simp [this]
  · have hlm : l.length = m.length := by simpa using h
    refine Pwp.loopN (ι := Nat) (S := fun i => ⟨[intsPv l, intsPv m, .any, .any, .any, .int .i64 i, .any, .any, .any, .any, .any, .any, .any, .any, .any, .any, .any, .any, .any, .any, .any, .any, .any, .any, .any, .any], [], i :: 7 :: A, 0⟩)
      (C := fun i => i ≤ l.length ∧ ∀ j, (h : j < l.length) → (h' : j < m.length) → j < i → l[j] = m[j]) (μ := fun i => l.length - i) 0 ?_ ?_ ?_
    · refine PLe.tellIn [] ?_ ?_ ?_ ?_
      · simp
      · exact Sub.nil _
      · simp [ObLe.refl, *]
      · repeat' first | exact VLeL.nil | refine VLeL.cons ?_ ?_
        all_goals first | exact VLe.any _ | exact VLe.refl _ | exact VLe.ghost _ ⟨_, rfl, by omega, by omega⟩ | (apply VLe.row (h := ELe.refl _); (focus (first | exact St.find_hd _ _ _ | exact St.find_tl (by simp) (St.find_hd _ _ _) | exact St.find_tl (by simp) (St.find_tl (by simp) (St.find_hd _ _ _)))); (simp [*]; done)) | exact VLe.of_eq (by simp [*])
    · simp
    · rintro i ⟨hi, hp⟩
      by_cases hlt : i < m.length
      · have hlt' : i < l.length := by omega
        by_cases he : l[i] = m[i]
        · repeat' first
           |(with_reducible first|apply qa|apply qb|apply qc|apply qd|apply qe|apply qf|apply qg|apply qh|apply qi|apply qj|apply qk|apply ql|apply qm|apply qn|apply qo|apply qp|apply qq|refine blockP_ne (by decide) ?_)
           |((with_reducible refine Pwp.reg fun K hK=>?_);simp[*, wrap_succ i (by omega)])
           |((with_reducible refine Pwp.drawn (id := 6) follows_mixed [0, 0, 3, 7, 0, 0, 48, 112, 255] [false, false, false, false, false, false, false, false, false] ?_ fun K hK => ?_); focus kernel_rfl
             simp [*, wrap_succ i (by omega)])
           |((with_reducible refine Hid.go hK ?_);clear hK K)|((with_reducible apply Pwp.condG);rfl)|((with_reducible first|apply qqj|apply qqk);simp[*, wrap_succ i (by omega)];done)|((with_reducible first|apply qr|apply qs|apply qt|apply qu|apply qv|apply qw)<;>intro h)
           |((with_reducible first|apply qx|apply qy|apply qz|apply qqa|apply qqb|apply qqc|apply qqd|apply qqe|apply qqf|apply qqg|apply qqh|apply qqi)<;>intro h<;>try simp[h, *, wrap_succ i (by omega)])
           |((with_reducible refine and_go ?_ fun hs=>?_);focus omega
             try simp[*, wrap_succ i (by omega)])
           |((with_reducible first|apply qql|apply qqn|apply qqp|apply qqm|apply qqo|apply qqq);simp[*, wrap_succ i (by omega)])
          refine roundN_go (i + 1) ?_ ⟨by omega, fun j h1 h2 h3 => ?_⟩ (by omega)
          · refine PLe.tellNext (pre := []) [] ?_ ?_ ?_ ?_
            · simp
            · exact Sub.nil _
            · simp [ObLe.refl, *]
            · repeat' first | exact VLeL.nil | refine VLeL.cons ?_ ?_
              all_goals first | exact VLe.any _ | exact VLe.refl _ | exact VLe.ghost _ ⟨_, rfl, by omega, by omega⟩ | (apply VLe.row (h := ELe.refl _); (focus (first | exact St.find_hd _ _ _ | exact St.find_tl (by simp) (St.find_hd _ _ _) | exact St.find_tl (by simp) (St.find_tl (by simp) (St.find_hd _ _ _)))); (simp [*]; done)) | exact VLe.of_eq (by simp [*])
          · by_cases e : j = i
            · subst e; exact he
            · exact hp j h1 h2 (by omega)
        · repeat' first
           |(with_reducible first|apply qa|apply qb|apply qc|apply qd|apply qe|apply qf|apply qg|apply qh|apply qi|apply qj|apply qk|apply ql|apply qm|apply qn|apply qo|apply qp|apply qq|refine blockP_ne (by decide) ?_)
           |((with_reducible refine Pwp.reg fun K hK=>?_);simp[*, wrap_succ i (by omega)])
           |((with_reducible refine Pwp.drawn (id := 6) follows_mixed [0, 0, 3, 7, 0, 0, 48, 112, 255] [false, false, false, false, false, false, false, false, false] ?_ fun K hK => ?_); focus kernel_rfl
             simp [*, wrap_succ i (by omega)])
           |((with_reducible refine Hid.go hK ?_);clear hK K)|((with_reducible apply Pwp.condG);rfl)|((with_reducible first|apply qqj|apply qqk);simp[*, wrap_succ i (by omega)];done)|((with_reducible first|apply qr|apply qs|apply qt|apply qu|apply qv|apply qw)<;>intro h)
           |((with_reducible first|apply qx|apply qy|apply qz|apply qqa|apply qqb|apply qqc|apply qqd|apply qqe|apply qqf|apply qqg|apply qqh|apply qqi)<;>intro h<;>try simp[h, *, wrap_succ i (by omega)])
           |((with_reducible refine and_go ?_ fun hs=>?_);focus omega
             try simp[*, wrap_succ i (by omega)])
           |((with_reducible first|apply qql|apply qqn|apply qqp|apply qqm|apply qqo|apply qqq);simp[*, wrap_succ i (by omega)])
          refine endP_ret0 ?_
          have : l ≠ m := fun e => by subst e; exact he rfl
          simp [this]
      · repeat' first
         |(with_reducible first|apply qa|apply qb|apply qc|apply qd|apply qe|apply qf|apply qg|apply qh|apply qi|apply qj|apply qk|apply ql|apply qm|apply qn|apply qo|apply qp|apply qq|refine blockP_ne (by decide) ?_)
         |((with_reducible refine Pwp.reg fun K hK=>?_);simp[*, wrap_succ i (by omega)])
         |((with_reducible refine Pwp.drawn (id := 6) follows_mixed [0, 0, 3, 7, 0, 0, 48, 112, 255] [false, false, false, false, false, false, false, false, false] ?_ fun K hK => ?_); focus kernel_rfl
           simp [*, wrap_succ i (by omega)])
         |((with_reducible refine Hid.go hK ?_);clear hK K)|((with_reducible apply Pwp.condG);rfl)|((with_reducible first|apply qqj|apply qqk);simp[*, wrap_succ i (by omega)];done)|((with_reducible first|apply qr|apply qs|apply qt|apply qu|apply qv|apply qw)<;>intro h)
         |((with_reducible first|apply qx|apply qy|apply qz|apply qqa|apply qqb|apply qqc|apply qqd|apply qqe|apply qqf|apply qqg|apply qqh|apply qqi)<;>intro h<;>try simp[h, *, wrap_succ i (by omega)])
         |((with_reducible refine and_go ?_ fun hs=>?_);focus omega
           try simp[*, wrap_succ i (by omega)])
         |((with_reducible first|apply qql|apply qqn|apply qqp|apply qqm|apply qqo|apply qqq);simp[*, wrap_succ i (by omega)])
        refine endP_ret0 ?_
        have : l = m := List.ext_getElem hlm fun j h1 h2 => hp j (by omega) (by omega) (by omega)
        simp [this]

theorem ent22 : enters Tryz.prog 22 = true := by kernel_rfl
theorem runs22 (A : Key) (l m : List Handle) (hl : l.length < 4611686018427387904) :
    Runs Tryz.prog A 22 [handlesPv l, handlesPv m] [] (.bool (decide (l = m))) [] := by
  refine Runs.body (rs := [.tmp 4]) ent22 Tryz.func22 rfl Tryz.ntmps22 rfl (fun x h => by cases h) ?_
  repeat' first
   |(with_reducible first|apply qa|apply qb|apply qc|apply qd|apply qe|apply qf|apply qg|apply qh|apply qi|apply qj|apply qk|apply ql|apply qm|apply qn|apply qo|apply qp|apply qq|refine blockP_ne (by decide) ?_)
   |((with_reducible refine Pwp.reg fun K hK=>?_);simp[*])
   |((with_reducible refine Pwp.drawn (id := 6) follows_mixed [0, 0, 3, 7, 0, 0, 48, 112, 255] [false, false, false, false, false, false, false, false, false] ?_ fun K hK => ?_); focus kernel_rfl
     simp [*])
   |((with_reducible refine Hid.go hK ?_);clear hK K)|((with_reducible apply Pwp.condG);rfl)|((with_reducible first|apply qqj|apply qqk);simp[*];done)|((with_reducible first|apply qr|apply qs|apply qt|apply qu|apply qv|apply qw)<;>intro h)
   |((with_reducible first|apply qx|apply qy|apply qz|apply qqa|apply qqb|apply qqc|apply qqd|apply qqe|apply qqf|apply qqg|apply qqh|apply qqi)<;>intro h<;>try simp[h, *])
   |((with_reducible refine and_go ?_ fun hs=>?_);focus omega
     try simp[*])
   |((with_reducible first|apply qql|apply qqn|apply qqp|apply qqm|apply qqo|apply qqq);simp[*])
  rotate_left
  · refine endP_ret0 ?_
    have : l ≠ m := fun e => by subst e; simp at h
    simp [this]
  · have hlm : l.length = m.length := by simpa using h
    refine Pwp.loopN (ι := Nat) (S := fun i => ⟨[handlesPv l, handlesPv m, .any, .any, .any, .int .i64 i, .any, .any, .any, .any, .any, .any, .any, .any, .any, .any, .any, .any, .any, .any, .any, .any, .any, .any, .any, .any], [], i :: 7 :: A, 0⟩)
      (C := fun i => i ≤ l.length ∧ ∀ j, (h : j < l.length) → (h' : j < m.length) → j < i → l[j] = m[j]) (μ := fun i => l.length - i) 0 ?_ ?_ ?_
    · refine PLe.tellIn [] ?_ ?_ ?_ ?_
      · simp
      · exact Sub.nil _
      · simp [ObLe.refl, *]
      · repeat' first | exact VLeL.nil | refine VLeL.cons ?_ ?_
        all_goals first | exact VLe.any _ | exact VLe.refl _ | exact VLe.ghost _ ⟨_, rfl, by omega, by omega⟩ | (apply VLe.row (h := ELe.refl _); (focus (first | exact St.find_hd _ _ _ | exact St.find_tl (by simp) (St.find_hd _ _ _) | exact St.find_tl (by simp) (St.find_tl (by simp) (St.find_hd _ _ _)))); (simp [*]; done)) | exact VLe.of_eq (by simp [*])
    · simp
    · rintro i ⟨hi, hp⟩
      by_cases hlt : i < m.length
      · have hlt' : i < l.length := by omega
        by_cases he : l[i] = m[i]
        · repeat' first
           |(with_reducible first|apply qa|apply qb|apply qc|apply qd|apply qe|apply qf|apply qg|apply qh|apply qi|apply qj|apply qk|apply ql|apply qm|apply qn|apply qo|apply qp|apply qq|refine blockP_ne (by decide) ?_)
           |((with_reducible refine Pwp.reg fun K hK=>?_);simp[*, wrap_succ i (by omega)])
           |((with_reducible refine Pwp.drawn (id := 6) follows_mixed [0, 0, 3, 7, 0, 0, 48, 112, 255] [false, false, false, false, false, false, false, false, false] ?_ fun K hK => ?_); focus kernel_rfl
             simp [*, wrap_succ i (by omega)])
           |((with_reducible refine Hid.go hK ?_);clear hK K)|((with_reducible apply Pwp.condG);rfl)|((with_reducible first|apply qqj|apply qqk);simp[*, wrap_succ i (by omega)];done)|((with_reducible first|apply qr|apply qs|apply qt|apply qu|apply qv|apply qw)<;>intro h)
           |((with_reducible first|apply qx|apply qy|apply qz|apply qqa|apply qqb|apply qqc|apply qqd|apply qqe|apply qqf|apply qqg|apply qqh|apply qqi)<;>intro h<;>try simp[h, *, wrap_succ i (by omega)])
           |((with_reducible refine and_go ?_ fun hs=>?_);focus omega
             try simp[*, wrap_succ i (by omega)])
           |((with_reducible first|apply qql|apply qqn|apply qqp|apply qqm|apply qqo|apply qqq);simp[*, wrap_succ i (by omega)])
          refine roundN_go (i + 1) ?_ ⟨by omega, fun j h1 h2 h3 => ?_⟩ (by omega)
          · refine PLe.tellNext (pre := []) [] ?_ ?_ ?_ ?_
            · simp
            · exact Sub.nil _
            · simp [ObLe.refl, *]
            · repeat' first | exact VLeL.nil | refine VLeL.cons ?_ ?_
              all_goals first | exact VLe.any _ | exact VLe.refl _ | exact VLe.ghost _ ⟨_, rfl, by omega, by omega⟩ | (apply VLe.row (h := ELe.refl _); (focus (first | exact St.find_hd _ _ _ | exact St.find_tl (by simp) (St.find_hd _ _ _) | exact St.find_tl (by simp) (St.find_tl (by simp) (St.find_hd _ _ _)))); (simp [*]; done)) | exact VLe.of_eq (by simp [*])
          · by_cases e : j = i
            · subst e; exact he
            · exact hp j h1 h2 (by omega)
        · have he2 : l[i].slot = m[i].slot → ¬ l[i].gen = m[i].gen := fun h1 h2 => he (by
            generalize l[i] = x at h1 h2
            generalize m[i] = y at h1 h2
            cases x; cases y; simp_all)
          repeat' first
           |(with_reducible first|apply qa|apply qb|apply qc|apply qd|apply qe|apply qf|apply qg|apply qh|apply qi|apply qj|apply qk|apply ql|apply qm|apply qn|apply qo|apply qp|apply qq|refine blockP_ne (by decide) ?_)
           |((with_reducible refine Pwp.reg fun K hK=>?_);simp[*, wrap_succ i (by omega)])
           |((with_reducible refine Pwp.drawn (id := 6) follows_mixed [0, 0, 3, 7, 0, 0, 48, 112, 255] [false, false, false, false, false, false, false, false, false] ?_ fun K hK => ?_); focus kernel_rfl
             simp [*, wrap_succ i (by omega)])
           |((with_reducible refine Hid.go hK ?_);clear hK K)|((with_reducible apply Pwp.condG);rfl)|((with_reducible first|apply qqj|apply qqk);simp[*, wrap_succ i (by omega)];done)|((with_reducible first|apply qr|apply qs|apply qt|apply qu|apply qv|apply qw)<;>intro h)
           |((with_reducible first|apply qx|apply qy|apply qz|apply qqa|apply qqb|apply qqc|apply qqd|apply qqe|apply qqf|apply qqg|apply qqh|apply qqi)<;>intro h<;>try simp[h, *, wrap_succ i (by omega)])
           |((with_reducible refine and_go ?_ fun hs=>?_);focus omega
             try simp[*, wrap_succ i (by omega)])
           |((with_reducible first|apply qql|apply qqn|apply qqp|apply qqm|apply qqo|apply qqq);simp[*, wrap_succ i (by omega)])
          all_goals (try (exfalso; simp_all; done))
          refine endP_ret0 ?_
          have : l ≠ m := fun e => by subst e; exact he rfl
          simp [this]
      · repeat' first
         |(with_reducible first|apply qa|apply qb|apply qc|apply qd|apply qe|apply qf|apply qg|apply qh|apply qi|apply qj|apply qk|apply ql|apply qm|apply qn|apply qo|apply qp|apply qq|refine blockP_ne (by decide) ?_)
         |((with_reducible refine Pwp.reg fun K hK=>?_);simp[*, wrap_succ i (by omega)])
         |((with_reducible refine Pwp.drawn (id := 6) follows_mixed [0, 0, 3, 7, 0, 0, 48, 112, 255] [false, false, false, false, false, false, false, false, false] ?_ fun K hK => ?_); focus kernel_rfl
           simp [*, wrap_succ i (by omega)])
         |((with_reducible refine Hid.go hK ?_);clear hK K)|((with_reducible apply Pwp.condG);rfl)|((with_reducible first|apply qqj|apply qqk);simp[*, wrap_succ i (by omega)];done)|((with_reducible first|apply qr|apply qs|apply qt|apply qu|apply qv|apply qw)<;>intro h)
         |((with_reducible first|apply qx|apply qy|apply qz|apply qqa|apply qqb|apply qqc|apply qqd|apply qqe|apply qqf|apply qqg|apply qqh|apply qqi)<;>intro h<;>try simp[h, *, wrap_succ i (by omega)])
         |((with_reducible refine and_go ?_ fun hs=>?_);focus omega
           try simp[*, wrap_succ i (by omega)])
         |((with_reducible first|apply qql|apply qqn|apply qqp|apply qqm|apply qqo|apply qqq);simp[*, wrap_succ i (by omega)])
        refine endP_ret0 ?_
        have : l = m := List.ext_getElem hlm fun j h1 h2 => hp j (by omega) (by omega) (by omega)
        simp [this]
end Go.Pv

set_option linter.unusedVariables false
set_option linter.unusedSimpArgs false
set_option maxRecDepth 100000
namespace Go.Pv
open Go Go.Proofs

def meshGreat (m : Mesh) : Bool := decide (1000 < m.verts.length ∨ 1000 < m.uv.length ∨ 100 < m.prims.length) || m.prims.any (fun p => decide (1000 < p.index.length))

theorem ent48 : enters Tryz.prog 48 = true := by kernel_rfl
theorem runs48 (A : Key) (m : Mesh) : Runs Tryz.prog A 48 [m.pv] [] (.bool (meshGreat m)) [] := by
  by_cases h1 : 1000 < m.verts.length ∨ 1000 < m.uv.length ∨ 100 < m.prims.length
  · have hv : meshGreat m = true := by simp [meshGreat, h1]
    have c1 : (1000 < (m.verts.length : Int)) = (1000 < m.verts.length) := by rw [eq_iff_iff]; omega
    have c2 : (1000 < (m.uv.length : Int)) = (1000 < m.uv.length) := by rw [eq_iff_iff]; omega
    have c3 : (100 < (m.prims.length : Int)) = (100 < m.prims.length) := by rw [eq_iff_iff]; omega
    refine Runs.body (rs := [.tmp 2]) ent48 Tryz.func48 rfl Tryz.ntmps48 rfl (fun x h => by cases h) ?_
    repeat' first
     |(with_reducible first|apply qa|apply qb|apply qc|apply qd|apply qe|apply qf|apply qg|apply qh|apply qi|apply qj|apply qk|apply ql|apply qm|apply qn|apply qo|apply qp|apply qq|refine blockP_ne (by decide) ?_)
     |((with_reducible refine Pwp.reg fun K hK=>?_);simp[*])
     |((with_reducible refine Hid.go hK ?_);clear hK K)|((with_reducible apply Pwp.condG);rfl)|((with_reducible first|apply qqj|apply qqk);simp[*];done)|((with_reducible first|apply qr|apply qs|apply qt|apply qu|apply qv|apply qw)<;>intro h)
     |((with_reducible first|apply qx|apply qy|apply qz|apply qqa|apply qqb|apply qqc)<;>intro h<;>try simp[h, *])
     |((with_reducible refine and_go ?_ fun hs=>?_);focus omega
       try simp[*])
     |((with_reducible first|apply qql|apply qqn|apply qqp);simp[*])
    all_goals first | (exfalso; omega) | (refine endP_ret0 ?_; simp [hv])
  · have c1 : (1000 < (m.verts.length : Int)) = False := by simp only [eq_iff_iff, iff_false]; omega
    have c2 : (1000 < (m.uv.length : Int)) = False := by simp only [eq_iff_iff, iff_false]; omega
    have c3 : (100 < (m.prims.length : Int)) = False := by simp only [eq_iff_iff, iff_false]; omega
    have hp100 : m.prims.length ≤ 100 := by omega
    refine Runs.body (rs := [.tmp 2]) ent48 Tryz.func48 rfl Tryz.ntmps48 rfl (fun x h => by cases h) ?_
    repeat' first
     |(with_reducible first|apply qa|apply qb|apply qc|apply qd|apply qe|apply qf|apply qg|apply qh|apply qi|apply qj|apply qk|apply ql|apply qm|apply qn|apply qo|apply qp|apply qq|refine blockP_ne (by decide) ?_)
     |((with_reducible refine Pwp.reg fun K hK=>?_);simp[c1, c2, c3])
     |((with_reducible refine Hid.go hK ?_);clear hK K)|((with_reducible apply Pwp.condG);rfl)|((with_reducible first|apply qqj|apply qqk);simp[c1, c2, c3];done)|((with_reducible first|apply qr|apply qs|apply qt|apply qu|apply qv|apply qw)<;>intro h)
     |((with_reducible first|apply qx|apply qy|apply qz|apply qqa|apply qqb|apply qqc)<;>intro h<;>try simp[h, c1, c2, c3])
     |((with_reducible refine and_go ?_ fun hs=>?_);focus omega
       try simp[c1, c2, c3])
     |((with_reducible first|apply qql|apply qqn|apply qqp);simp[c1, c2, c3])
    refine Pwp.loopN (ι := Nat) (S := fun i => ⟨[.any, .ptr (0 :: A) 1 0 0, .any, .int .i64 i, .any, .any, .any, .any, .any, .any, .any, .any, .any, .any, .any, .any, .any, .any, .any, .any, .any, .any, .any, .any, .any, .any, .any, .any, .any, .any, .any, .any, .any, .any, .any], [(0 :: A, .row 3 [m.pv])], i :: 19 :: A, 0⟩)
      (C := fun i => i ≤ m.prims.length ∧ ∀ j, (h : j < m.prims.length) → j < i → ¬ 1000 < m.prims[j].index.length) (μ := fun i => m.prims.length - i) 0 ?_ ?_ ?_
    · refine PLe.tellIn [] ?_ ?_ ?_ ?_
      · simp
      · exact Sub.nil _
      · simp [ObLe.refl, *]
      · repeat' first | exact VLeL.nil | refine VLeL.cons ?_ ?_
        all_goals first | exact VLe.any _ | exact VLe.refl _ | exact VLe.ghost _ ⟨_, rfl, by omega, by omega⟩ | (apply VLe.row (h := ELe.refl _); (focus (first | exact St.find_hd _ _ _ | exact St.find_tl (by simp) (St.find_hd _ _ _) | exact St.find_tl (by simp) (St.find_tl (by simp) (St.find_hd _ _ _)))); (simp [*]; done)) | exact VLe.of_eq (by simp [*])
    · simp
    · rintro i ⟨hi, hp⟩
      by_cases hlt : i < m.prims.length
      · by_cases hb : 1000 < m.prims[i].index.length
        · have cb : (1000 < (m.prims[i].index.length : Int)) = True := by simp only [eq_iff_iff, iff_true]; omega
          repeat' first
           |(with_reducible first|apply qa|apply qb|apply qc|apply qd|apply qe|apply qf|apply qg|apply qh|apply qi|apply qj|apply qk|apply ql|apply qm|apply qn|apply qo|apply qp|apply qq|refine blockP_ne (by decide) ?_)
           |((with_reducible refine Pwp.reg fun K hK=>?_);simp[*, wrap_succ i (by omega)])
           |((with_reducible refine Hid.go hK ?_);clear hK K)|((with_reducible apply Pwp.condG);rfl)|((with_reducible first|apply qqj|apply qqk);simp[*, wrap_succ i (by omega)];done)|((with_reducible first|apply qr|apply qs|apply qt|apply qu|apply qv|apply qw)<;>intro h)
           |((with_reducible first|apply qx|apply qy|apply qz|apply qqa|apply qqb|apply qqc)<;>intro h<;>try simp[h, *, wrap_succ i (by omega)])
           |((with_reducible refine and_go ?_ fun hs=>?_);focus omega
             try simp[*, wrap_succ i (by omega)])
           |((with_reducible first|apply qql|apply qqn|apply qqp);simp[*, wrap_succ i (by omega)])
          refine endP_ret0 ?_
          have : m.prims.any (fun p => decide (1000 < p.index.length)) = true := List.any_eq_true.2 ⟨_, List.getElem_mem hlt, by simpa using hb⟩
          simp [meshGreat, this]
        · have cb : (1000 < (m.prims[i].index.length : Int)) = False := by simp only [eq_iff_iff, iff_false]; omega
          repeat' first
           |(with_reducible first|apply qa|apply qb|apply qc|apply qd|apply qe|apply qf|apply qg|apply qh|apply qi|apply qj|apply qk|apply ql|apply qm|apply qn|apply qo|apply qp|apply qq|refine blockP_ne (by decide) ?_)
           |((with_reducible refine Pwp.reg fun K hK=>?_);simp[*, wrap_succ i (by omega)])
           |((with_reducible refine Hid.go hK ?_);clear hK K)|((with_reducible apply Pwp.condG);rfl)|((with_reducible first|apply qqj|apply qqk);simp[*, wrap_succ i (by omega)];done)|((with_reducible first|apply qr|apply qs|apply qt|apply qu|apply qv|apply qw)<;>intro h)
           |((with_reducible first|apply qx|apply qy|apply qz|apply qqa|apply qqb|apply qqc)<;>intro h<;>try simp[h, *, wrap_succ i (by omega)])
           |((with_reducible refine and_go ?_ fun hs=>?_);focus omega
             try simp[*, wrap_succ i (by omega)])
           |((with_reducible first|apply qql|apply qqn|apply qqp);simp[*, wrap_succ i (by omega)])
          refine roundN_go (i + 1) ?_ ⟨hlt, upto_succ hp hlt hb⟩ (by omega)
          refine PLe.tellNext (pre := []) [] ?_ ?_ ?_ ?_
          · simp
          · exact Sub.nil _
          · simp [ObLe.refl, *]
          · repeat' first | exact VLeL.nil | refine VLeL.cons ?_ ?_
            all_goals first | exact VLe.any _ | exact VLe.refl _ | exact VLe.ghost _ ⟨_, rfl, by omega, by omega⟩ | (apply VLe.row (h := ELe.refl _); (focus (first | exact St.find_hd _ _ _ | exact St.find_tl (by simp) (St.find_hd _ _ _) | exact St.find_tl (by simp) (St.find_tl (by simp) (St.find_hd _ _ _)))); (simp [*]; done)) | exact VLe.of_eq (by simp [*])
      · repeat' first
         |(with_reducible first|apply qa|apply qb|apply qc|apply qd|apply qe|apply qf|apply qg|apply qh|apply qi|apply qj|apply qk|apply ql|apply qm|apply qn|apply qo|apply qp|apply qq|refine blockP_ne (by decide) ?_)
         |((with_reducible refine Pwp.reg fun K hK=>?_);simp[*, wrap_succ i (by omega)])
         |((with_reducible refine Hid.go hK ?_);clear hK K)|((with_reducible apply Pwp.condG);rfl)|((with_reducible first|apply qqj|apply qqk);simp[*, wrap_succ i (by omega)];done)|((with_reducible first|apply qr|apply qs|apply qt|apply qu|apply qv|apply qw)<;>intro h)
         |((with_reducible first|apply qx|apply qy|apply qz|apply qqa|apply qqb|apply qqc)<;>intro h<;>try simp[h, *, wrap_succ i (by omega)])
         |((with_reducible refine and_go ?_ fun hs=>?_);focus omega
           try simp[*, wrap_succ i (by omega)])
         |((with_reducible first|apply qql|apply qqn|apply qqp);simp[*, wrap_succ i (by omega)])
        refine endP_ret0 ?_
        have : m.prims.any (fun p => decide (1000 < p.index.length)) = false := by
          rw [List.any_eq_false]
          intro x hx
          obtain ⟨j, hj, rfl⟩ := List.getElem_of_mem hx
          simpa using hp j hj (by omega)
        simp [meshGreat, this, h1]

def texOne (t : Texture) : Int := if (100000 : Int) < t.texels.length then 100000 else t.texels.length
def texSum (l : List Texture) (i : Nat) : Int := ((l.take i).map texOne).sum
def texGreat (l : List Texture) : Bool := decide (40 < l.length ∨ 20000 < texSum l 100)

theorem texSum_succ {l : List Texture} {i : Nat} (h : i < l.length) : texSum l (i + 1) = texSum l i + texOne l[i] := by
  unfold texSum
  rw [List.take_succ_eq_append_getElem h]
  simp only [List.map_append, List.sum_append, List.map_cons, List.map_nil, List.sum_cons, List.sum_nil, Int.add_zero]
theorem texOne_le (t : Texture) : 0 ≤ texOne t ∧ texOne t ≤ 100000 := by
  unfold texOne; split <;> omega
theorem texSum_le (l : List Texture) : ∀ i : Nat, 0 ≤ texSum l i ∧ texSum l i ≤ 100000 * i
  | 0 => by simp [texSum]
  | i + 1 => by
    have := texSum_le l i
    by_cases h : i < l.length
    · rw [texSum_succ h]
      have := texOne_le l[i]
      omega
    · have e : texSum l (i + 1) = texSum l i := by
        unfold texSum
        rw [List.take_of_length_le (by omega), List.take_of_length_le (by omega)]
      rw [e]
      omega
theorem texSum_all (l : List Texture) {i j : Nat} (hi : l.length ≤ i) (hj : l.length ≤ j) : texSum l i = texSum l j := by
  unfold texSum
  rw [List.take_of_length_le hi, List.take_of_length_le hj]

theorem ent47 : enters Tryz.prog 47 = true := by kernel_rfl
theorem runs47 (A : Key) (l : List Texture) (hl : l.length < 4611686018427387904) : Runs Tryz.prog A 47 [texturesPv l] [] (.bool (texGreat l)) [] := by
  refine Runs.body (rs := [.tmp 2]) ent47 Tryz.func47 rfl Tryz.ntmps47 rfl (fun x h => by cases h) ?_
  repeat' first
   |(with_reducible first|apply qa|apply qb|apply qc|apply qd|apply qe|apply qf|apply qg|apply qh|apply qi|apply qj|apply qk|apply ql|apply qm|apply qn|apply qo|apply qp|apply qq|refine blockP_ne (by decide) ?_)
   |((with_reducible refine Pwp.reg fun K hK=>?_);simp[*])
   |((with_reducible refine Hid.go hK ?_);clear hK K)|((with_reducible apply Pwp.condG);rfl)|((with_reducible first|apply qqj|apply qqk);simp[*];done)|((with_reducible first|apply qr|apply qs|apply qt|apply qu|apply qv|apply qw)<;>intro h)
   |((with_reducible first|apply qx|apply qy|apply qz|apply qqa|apply qqb|apply qqc)<;>intro h<;>try simp[h, *])
   |((with_reducible refine and_go ?_ fun hs=>?_);focus omega
     try simp[*])
   |((with_reducible first|apply qql|apply qqn|apply qqp);simp[*])
  refine Pwp.loopN (ι := Nat) (S := fun i => ⟨[texturesPv l, .any, .any, .int .i64 (texSum l i), .int .i64 i, .any, .any, .any, .any, .any, .any, .any, .any, .any, .any, .any, .any, .any, .any, .any, .any, .any, .any, .any, .any, .any, .any, .any, .any, .any, .any], [], i :: 3 :: A, 0⟩)
    (C := fun i => i ≤ l.length ∧ i ≤ 100) (μ := fun i => l.length - i) 0 ?_ ?_ ?_
  · refine PLe.tellIn [] ?_ ?_ ?_ ?_
    · simp
    · exact Sub.nil _
    · simp [ObLe.refl, *]
    · repeat' first | exact VLeL.nil | refine VLeL.cons ?_ ?_
      all_goals first | exact VLe.any _ | exact VLe.refl _ | exact VLe.ghost _ ⟨_, rfl, by omega, by omega⟩ | (apply VLe.row (h := ELe.refl _); (focus (first | exact St.find_hd _ _ _ | exact St.find_tl (by simp) (St.find_hd _ _ _) | exact St.find_tl (by simp) (St.find_tl (by simp) (St.find_hd _ _ _)))); (simp [*]; done)) | exact VLe.of_eq (by simp [*])
    all_goals simp [texSum]
  · simp
  · rintro i ⟨hi, h100⟩
    have hs := texSum_le l i
    by_cases hlt : i < l.length
    · by_cases hlt2 : i < 100
      · have c2 : ((i : Int) < 100) = True := by simp only [eq_iff_iff, iff_true]; omega
        have hone := texOne_le l[i]
        have hw := wrap_in (texSum l i + texOne l[i]) (by omega)
        have hw2 : IntKind.i64.wrap (texSum l i + (if (100000 : Int) < (l[i].texels.length : Int) then (100000 : Int) else (l[i].texels.length : Int))) = texSum l (i + 1) := by rw [texSum_succ hlt]; exact hw
        repeat' first
         |(with_reducible first|apply qa|apply qb|apply qc|apply qd|apply qe|apply qf|apply qg|apply qh|apply qi|apply qj|apply qk|apply ql|apply qm|apply qn|apply qo|apply qp|apply qq|refine blockP_ne (by decide) ?_)
         |((with_reducible refine Pwp.reg fun K hK=>?_);simp[*, wrap_succ i (by omega)])
         |((with_reducible refine Hid.go hK ?_);clear hK K)|((with_reducible apply Pwp.condG);rfl)|((with_reducible first|apply qqj|apply qqk);simp[*, wrap_succ i (by omega)];done)|((with_reducible first|apply qr|apply qs|apply qt|apply qu|apply qv|apply qw)<;>intro h)
         |((with_reducible first|apply qx|apply qy|apply qz|apply qqa|apply qqb|apply qqc)<;>intro h<;>try simp[h, *, wrap_succ i (by omega)])
         |((with_reducible refine and_go ?_ fun hs=>?_);focus omega
           try simp[*, wrap_succ i (by omega)])
         |((with_reducible first|apply qql|apply qqn|apply qqp);simp[*, wrap_succ i (by omega)])
        refine roundN_go (i + 1) ?_ ⟨hlt, hlt2⟩ (by omega)
        refine PLe.tellNext (pre := []) [] ?_ ?_ ?_ ?_
        · simp
        · exact Sub.nil _
        · simp [ObLe.refl, *]
        · repeat' first | exact VLeL.nil | refine VLeL.cons ?_ ?_
          all_goals first | exact VLe.any _ | exact VLe.refl _ | exact VLe.ghost _ ⟨_, rfl, by omega, by omega⟩ | (apply VLe.row (h := ELe.refl _); (focus (first | exact St.find_hd _ _ _ | exact St.find_tl (by simp) (St.find_hd _ _ _) | exact St.find_tl (by simp) (St.find_tl (by simp) (St.find_hd _ _ _)))); (simp [*]; done)) | exact VLe.of_eq (by simp [*])
      · have c2 : ((i : Int) < 100) = False := by simp only [eq_iff_iff, iff_false]; omega
        have e100 : i = 100 := by omega
        subst e100
        repeat' first
         |(with_reducible first|apply qa|apply qb|apply qc|apply qd|apply qe|apply qf|apply qg|apply qh|apply qi|apply qj|apply qk|apply ql|apply qm|apply qn|apply qo|apply qp|apply qq|refine blockP_ne (by decide) ?_)
         |((with_reducible refine Pwp.reg fun K hK=>?_);simp[*, wrap_succ 100 (by omega)])
         |((with_reducible refine Hid.go hK ?_);clear hK K)|((with_reducible apply Pwp.condG);rfl)|((with_reducible first|apply qqj|apply qqk);simp[*, wrap_succ 100 (by omega)];done)|((with_reducible first|apply qr|apply qs|apply qt|apply qu|apply qv|apply qw)<;>intro h)
         |((with_reducible first|apply qx|apply qy|apply qz|apply qqa|apply qqb|apply qqc)<;>intro h<;>try simp[h, *, wrap_succ 100 (by omega)])
         |((with_reducible refine and_go ?_ fun hs=>?_);focus omega
           try simp[*, wrap_succ 100 (by omega)])
         |((with_reducible first|apply qql|apply qqn|apply qqp);simp[*, wrap_succ 100 (by omega)])
        all_goals (refine endP_ret0 ?_; simp [texGreat]; omega)
    · have e : texSum l i = texSum l 100 := texSum_all l (by omega) (by omega)
      repeat' first
       |(with_reducible first|apply qa|apply qb|apply qc|apply qd|apply qe|apply qf|apply qg|apply qh|apply qi|apply qj|apply qk|apply ql|apply qm|apply qn|apply qo|apply qp|apply qq|refine blockP_ne (by decide) ?_)
       |((with_reducible refine Pwp.reg fun K hK=>?_);simp[*, wrap_succ i (by omega)])
       |((with_reducible refine Hid.go hK ?_);clear hK K)|((with_reducible apply Pwp.condG);rfl)|((with_reducible first|apply qqj|apply qqk);simp[*, wrap_succ i (by omega)];done)|((with_reducible first|apply qr|apply qs|apply qt|apply qu|apply qv|apply qw)<;>intro h)
       |((with_reducible first|apply qx|apply qy|apply qz|apply qqa|apply qqb|apply qqc)<;>intro h<;>try simp[h, *, wrap_succ i (by omega)])
       |((with_reducible refine and_go ?_ fun hs=>?_);focus omega
         try simp[*, wrap_succ i (by omega)])
       |((with_reducible first|apply qql|apply qqn|apply qqp);simp[*, wrap_succ i (by omega)])
      all_goals (refine endP_ret0 ?_; simp [texGreat]; omega)

def kidSum (l : List (List Handle)) (i : Nat) : Nat := ((l.take i).map List.length).sum
def graphGreat (g : Graph) : Bool := decide (200 < g.slots.length ∨ 200 < g.kids.length ∨ 400 < kidSum g.kids g.kids.length)
theorem kidSum_succ {l : List (List Handle)} {i : Nat} (h : i < l.length) : kidSum l (i + 1) = kidSum l i + l[i].length := by
  unfold kidSum
  rw [List.take_succ_eq_append_getElem h]
  simp only [List.map_append, List.sum_append, List.map_cons, List.map_nil, List.sum_cons, List.sum_nil, Nat.add_zero]
theorem kidSum_mono (l : List (List Handle)) {i j : Nat} (h : i ≤ j) (hj : j ≤ l.length) : kidSum l i ≤ kidSum l j := by
  induction j with
  | zero => have : i = 0 := by omega
            subst this; exact Nat.le_refl _
  | succ j ih =>
    by_cases e : i = j + 1
    · subst e; exact Nat.le_refl _
    · have := ih (by omega) (by omega)
      rw [kidSum_succ (by omega)]
      omega

theorem ent46 : enters Tryz.prog 46 = true := by kernel_rfl
theorem runs46 (A : Key) (g : Graph) (hk : ∀ l ∈ g.kids, l.length < 4611686018427387904) : Runs Tryz.prog A 46 [g.pv] [] (.bool (graphGreat g)) [] := by
  by_cases h1 : 200 < g.slots.length ∨ 200 < g.kids.length
  · have hv : graphGreat g = true := by simp only [graphGreat, decide_eq_true_eq]; omega
    have c1 : (200 < (g.slots.length : Int)) = (200 < g.slots.length) := by rw [eq_iff_iff]; omega
    have c2 : (200 < (g.kids.length : Int)) = (200 < g.kids.length) := by rw [eq_iff_iff]; omega
    refine Runs.body (rs := [.tmp 2]) ent46 Tryz.func46 rfl Tryz.ntmps46 rfl (fun x h => by cases h) ?_
    repeat' first
     |(with_reducible first|apply qa|apply qb|apply qc|apply qd|apply qe|apply qf|apply qg|apply qh|apply qi|apply qj|apply qk|apply ql|apply qm|apply qn|apply qo|apply qp|apply qq|refine blockP_ne (by decide) ?_)
     |((with_reducible refine Pwp.reg fun K hK=>?_);simp[*])
     |((with_reducible refine Hid.go hK ?_);clear hK K)|((with_reducible apply Pwp.condG);rfl)|((with_reducible first|apply qqj|apply qqk);simp[*];done)|((with_reducible first|apply qr|apply qs|apply qt|apply qu|apply qv|apply qw)<;>intro h)
     |((with_reducible first|apply qx|apply qy|apply qz|apply qqa|apply qqb|apply qqc)<;>intro h<;>try simp[h, *])
     |((with_reducible refine and_go ?_ fun hs=>?_);focus omega
       try simp[*])
     |((with_reducible first|apply qql|apply qqn|apply qqp);simp[*])
    all_goals first | (exfalso; omega) | (refine endP_ret0 ?_; simp [hv])
  · have c1 : (200 < (g.slots.length : Int)) = False := by simp only [eq_iff_iff, iff_false]; omega
    have c2 : (200 < (g.kids.length : Int)) = False := by simp only [eq_iff_iff, iff_false]; omega
    refine Runs.body (rs := [.tmp 2]) ent46 Tryz.func46 rfl Tryz.ntmps46 rfl (fun x h => by cases h) ?_
    repeat' first
     |(with_reducible first|apply qa|apply qb|apply qc|apply qd|apply qe|apply qf|apply qg|apply qh|apply qi|apply qj|apply qk|apply ql|apply qm|apply qn|apply qo|apply qp|apply qq|refine blockP_ne (by decide) ?_)
     |((with_reducible refine Pwp.reg fun K hK=>?_);simp[c1, c2])
     |((with_reducible refine Hid.go hK ?_);clear hK K)|((with_reducible apply Pwp.condG);rfl)|((with_reducible first|apply qqj|apply qqk);simp[c1, c2];done)|((with_reducible first|apply qr|apply qs|apply qt|apply qu|apply qv|apply qw)<;>intro h)
     |((with_reducible first|apply qx|apply qy|apply qz|apply qqa|apply qqb|apply qqc)<;>intro h<;>try simp[h, c1, c2])
     |((with_reducible refine and_go ?_ fun hs=>?_);focus omega
       try simp[c1, c2])
     |((with_reducible first|apply qql|apply qqn|apply qqp);simp[c1, c2])
    refine Pwp.loopN (ι := Nat) (S := fun i => ⟨[.any, .ptr (0 :: A) 1 0 0, .any, .int .i64 (kidSum g.kids i), .int .i64 i, .any, .any, .any, .any, .any, .any, .any, .any, .any, .any, .any, .any, .any, .any, .any, .any, .any, .any, .any, .any, .any, .any, .any, .any, .any, .any, .any, .any], [(0 :: A, .row 2 [g.pv])], i :: 15 :: A, 0⟩)
      (C := fun i => i ≤ g.kids.length ∧ kidSum g.kids i ≤ 400) (μ := fun i => g.kids.length - i) 0 ?_ ?_ ?_
    · refine PLe.tellIn [] ?_ ?_ ?_ ?_
      · simp
      · exact Sub.nil _
      · simp [ObLe.refl, *]
      · repeat' first | exact VLeL.nil | refine VLeL.cons ?_ ?_
        all_goals first | exact VLe.any _ | exact VLe.refl _ | exact VLe.ghost _ ⟨_, rfl, by omega, by omega⟩ | (apply VLe.row (h := ELe.refl _); (focus (first | exact St.find_hd _ _ _ | exact St.find_tl (by simp) (St.find_hd _ _ _) | exact St.find_tl (by simp) (St.find_tl (by simp) (St.find_hd _ _ _)))); (simp [*]; done)) | exact VLe.of_eq (by simp [*])
      all_goals simp [kidSum]
    · simp [kidSum]
    · rintro i ⟨hi, h4⟩
      by_cases hlt : i < g.kids.length
      · have hkl := hk _ (List.getElem_mem hlt)
        have hs := kidSum_succ hlt
        have hw : IntKind.i64.wrap ((kidSum g.kids i : Int) + (g.kids[i].length : Int)) = (kidSum g.kids (i + 1) : Int) := by
          rw [hs]; rw [wrap_in _ (by omega)]; omega
        by_cases hb : 400 < kidSum g.kids (i + 1)
        · have cb : (400 < (kidSum g.kids (i + 1) : Int)) = True := by simp only [eq_iff_iff, iff_true]; omega
          have hm := kidSum_mono g.kids (i := i + 1) (j := g.kids.length) hlt (Nat.le_refl _)
          have hv : graphGreat g = true := by simp only [graphGreat, decide_eq_true_eq]; omega
          clear hs hm
          repeat' first
           |(with_reducible first|apply qa|apply qb|apply qc|apply qd|apply qe|apply qf|apply qg|apply qh|apply qi|apply qj|apply qk|apply ql|apply qm|apply qn|apply qo|apply qp|apply qq|refine blockP_ne (by decide) ?_)
           |((with_reducible refine Pwp.reg fun K hK=>?_);simp[*, wrap_succ i (by omega)])
           |((with_reducible refine Hid.go hK ?_);clear hK K)|((with_reducible apply Pwp.condG);rfl)|((with_reducible first|apply qqj|apply qqk);simp[*, wrap_succ i (by omega)];done)|((with_reducible first|apply qr|apply qs|apply qt|apply qu|apply qv|apply qw)<;>intro h)
           |((with_reducible first|apply qx|apply qy|apply qz|apply qqa|apply qqb|apply qqc)<;>intro h<;>try simp[h, *, wrap_succ i (by omega)])
           |((with_reducible refine and_go ?_ fun hs=>?_);focus omega
             try simp[*, wrap_succ i (by omega)])
           |((with_reducible first|apply qql|apply qqn|apply qqp);simp[*, wrap_succ i (by omega)])
          all_goals (refine endP_ret0 ?_; simp [hv])
        · have cb : (400 < (kidSum g.kids (i + 1) : Int)) = False := by simp only [eq_iff_iff, iff_false]; omega
          clear hs
          repeat' first
           |(with_reducible first|apply qa|apply qb|apply qc|apply qd|apply qe|apply qf|apply qg|apply qh|apply qi|apply qj|apply qk|apply ql|apply qm|apply qn|apply qo|apply qp|apply qq|refine blockP_ne (by decide) ?_)
           |((with_reducible refine Pwp.reg fun K hK=>?_);simp[*, wrap_succ i (by omega)])
           |((with_reducible refine Hid.go hK ?_);clear hK K)|((with_reducible apply Pwp.condG);rfl)|((with_reducible first|apply qqj|apply qqk);simp[*, wrap_succ i (by omega)];done)|((with_reducible first|apply qr|apply qs|apply qt|apply qu|apply qv|apply qw)<;>intro h)
           |((with_reducible first|apply qx|apply qy|apply qz|apply qqa|apply qqb|apply qqc)<;>intro h<;>try simp[h, *, wrap_succ i (by omega)])
           |((with_reducible refine and_go ?_ fun hs=>?_);focus omega
             try simp[*, wrap_succ i (by omega)])
           |((with_reducible first|apply qql|apply qqn|apply qqp);simp[*, wrap_succ i (by omega)])
          refine roundN_go (i + 1) ?_ ⟨hlt, by omega⟩ (by omega)
          refine PLe.tellNext (pre := []) [] ?_ ?_ ?_ ?_
          · simp
          · exact Sub.nil _
          · simp [ObLe.refl, *]
          · repeat' first | exact VLeL.nil | refine VLeL.cons ?_ ?_
            all_goals first | exact VLe.any _ | exact VLe.refl _ | exact VLe.ghost _ ⟨_, rfl, by omega, by omega⟩ | (apply VLe.row (h := ELe.refl _); (focus (first | exact St.find_hd _ _ _ | exact St.find_tl (by simp) (St.find_hd _ _ _) | exact St.find_tl (by simp) (St.find_tl (by simp) (St.find_hd _ _ _)))); (simp [*]; done)) | exact VLe.of_eq (by simp [*])
      · have e : i = g.kids.length := by omega
        subst e
        repeat' first
         |(with_reducible first|apply qa|apply qb|apply qc|apply qd|apply qe|apply qf|apply qg|apply qh|apply qi|apply qj|apply qk|apply ql|apply qm|apply qn|apply qo|apply qp|apply qq|refine blockP_ne (by decide) ?_)
         |((with_reducible refine Pwp.reg fun K hK=>?_);simp[*, wrap_succ g.kids.length (by omega)])
         |((with_reducible refine Hid.go hK ?_);clear hK K)|((with_reducible apply Pwp.condG);rfl)|((with_reducible first|apply qqj|apply qqk);simp[*, wrap_succ g.kids.length (by omega)];done)|((with_reducible first|apply qr|apply qs|apply qt|apply qu|apply qv|apply qw)<;>intro h)
         |((with_reducible first|apply qx|apply qy|apply qz|apply qqa|apply qqb|apply qqc)<;>intro h<;>try simp[h, *, wrap_succ g.kids.length (by omega)])
         |((with_reducible refine and_go ?_ fun hs=>?_);focus omega
           try simp[*, wrap_succ g.kids.length (by omega)])
         |((with_reducible first|apply qql|apply qqn|apply qqp);simp[*, wrap_succ g.kids.length (by omega)])
        refine endP_ret0 ?_
        simp [graphGreat]
        try omega
end Go.Pv

set_option linter.unusedVariables false
set_option linter.unusedSimpArgs false
set_option maxRecDepth 100000
namespace Go.Pv
open Go Go.Proofs

/-- One more child's ways. -/
def wayAdd (n : Nat) (many : List Int) (a : Int) (h : Handle) : Int := if 0 ≤ h.slot ∧ h.slot < n then (if (100000 : Int) < a + many.getD h.slot.toNat 0 then 100000 else a + many.getD h.slot.toNat 0) else a
def wayUpto (n : Nat) (many : List Int) (l : List Handle) (k : Nat) : Int := (l.take k).foldl (wayAdd n many) 1
def wayNext (kids : List (List Handle)) (many : List Int) (i : Nat) : Int := wayUpto kids.length many (kids.getD i []) 1000
def wayGo (kids : List (List Handle)) : Nat → List Int → Bool
  | 0, _ => false
  | k + 1, many => if ((List.range kids.length).map (wayNext kids many)).any (fun x => decide (10000 < x)) then true else wayGo kids k ((List.range kids.length).map (wayNext kids many))
def waysB (g : Graph) : Bool := if 300 < g.kids.length then true else wayGo g.kids 18 (List.replicate g.kids.length 0)

theorem wayUpto_succ {n : Nat} {many : List Int} {l : List Handle} {k : Nat} (h : k < l.length) : wayUpto n many l (k + 1) = wayAdd n many (wayUpto n many l k) l[k] := by
  unfold wayUpto
  rw [List.take_succ_eq_append_getElem h, List.foldl_append]
  rfl
theorem wayUpto_all {n : Nat} {many : List Int} {l : List Handle} {k j : Nat} (h : l.length ≤ k) (h' : l.length ≤ j) : wayUpto n many l k = wayUpto n many l j := by
  unfold wayUpto
  rw [List.take_of_length_le h, List.take_of_length_le h']
def Small (many : List Int) : Prop := ∀ x ∈ many, 0 ≤ x ∧ x ≤ 100000
theorem Small.getD {many : List Int} (h : Small many) (i : Nat) : 0 ≤ many.getD i 0 ∧ many.getD i 0 ≤ 100000 := by
  by_cases hi : i < many.length
  · rw [List.getD_eq_getElem?_getD, List.getElem?_eq_getElem hi]
    exact h _ (List.getElem_mem hi)
  · rw [List.getD_eq_getElem?_getD, List.getElem?_eq_none (by omega)]
    simp
theorem wayAdd_le {n : Nat} {many : List Int} (hm : Small many) {a : Int} (h : Handle) (ha : 0 ≤ a ∧ a ≤ 100000) : 0 ≤ wayAdd n many a h ∧ wayAdd n many a h ≤ 100000 := by
  have := hm.getD h.slot.toNat
  unfold wayAdd
  split
  · split <;> omega
  · exact ha
theorem wayUpto_le {n : Nat} {many : List Int} (hm : Small many) (l : List Handle) : ∀ k, 0 ≤ wayUpto n many l k ∧ wayUpto n many l k ≤ 100000
  | 0 => by simp [wayUpto]
  | k + 1 => by
    by_cases h : k < l.length
    · rw [wayUpto_succ h]
      exact wayAdd_le hm _ (wayUpto_le hm l k)
    · rw [wayUpto_all (k := k + 1) (j := k) (by omega) (by omega)]
      exact wayUpto_le hm l k
theorem wayNext_small {kids : List (List Handle)} {many : List Int} (hm : Small many) : Small ((List.range kids.length).map (wayNext kids many)) := by
  intro x hx
  obtain ⟨i, _, rfl⟩ := List.mem_map.1 hx
  exact wayUpto_le hm _ _

/-- The row of the next round, i of it done. -/
def wayRow (kids : List (List Handle)) (many : List Int) (i : Nat) : List Int := (List.range i).map (wayNext kids many) ++ List.replicate (kids.length - i) 0
theorem wayRow_length {kids : List (List Handle)} {many : List Int} {i : Nat} (h : i ≤ kids.length) : (wayRow kids many i).length = kids.length := by
  simp [wayRow]; omega
theorem wayRow_succ {kids : List (List Handle)} {many : List Int} {i : Nat} (h : i < kids.length) : (wayRow kids many i).set i (wayNext kids many i) = wayRow kids many (i + 1) := by
  unfold wayRow
  rw [List.set_append_right _ _ (by simp)]
  have e : kids.length - i = (kids.length - (i + 1)) + 1 := by omega
  rw [e, List.replicate_succ, List.range_succ, List.map_append, List.append_assoc]
  simp
theorem wayRow_zero (kids : List (List Handle)) (many : List Int) : wayRow kids many 0 = List.replicate kids.length 0 := by simp [wayRow]
theorem wayRow_full (kids : List (List Handle)) (many : List Int) : wayRow kids many kids.length = (List.range kids.length).map (wayNext kids many) := by simp [wayRow]

set_option maxHeartbeats 4000000
theorem ent45 : enters Tryz.prog 45 = true := by kernel_rfl
theorem runs45 (A : Key) (s : Scene) (hk : ∀ l ∈ s.graph.kids, l.length < 4611686018427387904) (hn : s.graph.kids.length < 4611686018427387904) : Runs Tryz.prog A 45 [s.pv] [] (.bool (waysB s.graph)) [] := by
  by_cases h1 : 300 < s.graph.kids.length
  · have c1 : (300 < (s.graph.kids.length : Int)) = True := by simp only [eq_iff_iff, iff_true]; omega
    refine Runs.body (rs := [.tmp 2]) ent45 Tryz.func45 rfl Tryz.ntmps45 rfl (fun x h => by cases h) ?_
    repeat' first
     |(with_reducible first|apply qa|apply qb|apply qc|apply qd|apply qe|apply qf|apply qg|apply qh|apply qi|apply qj|apply qk|apply ql|apply qm|apply qn|apply qo|apply qp|apply qq|refine blockP_ne (by decide) ?_)
     |((with_reducible refine Pwp.reg fun K hK=>?_);simp[c1])
     |((with_reducible refine Pwp.drawn (id := 18) follows_mixed [0, 0, 0, 0, 12, 28, 0, 0, 192, 448, 1020, 2044, 4095, 8191] [false, false, false, false, false, false, false, false, false, false, false, true, true, true] ?_ fun K hK => ?_); focus kernel_rfl
       simp [c1])
     |((with_reducible refine Hid.go hK ?_);clear hK K)|((with_reducible apply Pwp.condG);rfl)|((with_reducible first|apply qqj|apply qqk);simp[c1];done)|((with_reducible first|apply qr|apply qs|apply qt|apply qu|apply qv|apply qw)<;>intro h)
     |((with_reducible first|apply qx|apply qy|apply qz|apply qqa|apply qqb|apply qqc|apply qqd|apply qqe|apply qqf|apply qqg|apply qqh|apply qqi)<;>intro h<;>try simp[h, c1])
     |((with_reducible refine and_go ?_ fun hs=>?_);focus omega
       try simp[c1])
     |((with_reducible first|apply qql|apply qqn|apply qqp|apply qqm|apply qqo|apply qqq);simp[c1])
    refine endP_ret0 ?_
    simp [waysB, h1]
  · have c1 : (300 < (s.graph.kids.length : Int)) = False := by simp only [eq_iff_iff, iff_false]; omega
    have hw0 : Hid (wayGo s.graph.kids 18 (List.replicate s.graph.kids.length 0) = waysB s.graph) := ⟨by simp [waysB, h1]⟩
    have hn3 : s.graph.kids.length ≤ 300 := by omega
    refine Runs.body (rs := [.tmp 2]) ent45 Tryz.func45 rfl Tryz.ntmps45 rfl (fun x h => by cases h) ?_
    repeat' first
     |(with_reducible first|apply qa|apply qb|apply qc|apply qd|apply qe|apply qf|apply qg|apply qh|apply qi|apply qj|apply qk|apply ql|apply qm|apply qn|apply qo|apply qp|apply qq|refine blockP_ne (by decide) ?_)
     |((with_reducible refine Pwp.reg fun K hK=>?_);simp[c1])
     |((with_reducible refine Pwp.drawn (id := 18) follows_mixed [0, 0, 0, 0, 12, 28, 0, 0, 192, 448, 1020, 2044, 4095, 8191] [false, false, false, false, false, false, false, false, false, false, false, true, true, true] ?_ fun K hK => ?_); focus kernel_rfl
       simp [c1])
     |((with_reducible refine Hid.go hK ?_);clear hK K)|((with_reducible apply Pwp.condG);rfl)|((with_reducible first|apply qqj|apply qqk);simp[c1];done)|((with_reducible first|apply qr|apply qs|apply qt|apply qu|apply qv|apply qw)<;>intro h)
     |((with_reducible first|apply qx|apply qy|apply qz|apply qqa|apply qqb|apply qqc|apply qqd|apply qqe|apply qqf|apply qqg|apply qqh|apply qqi)<;>intro h<;>try simp[h, c1])
     |((with_reducible refine and_go ?_ fun hs=>?_);focus omega
       try simp[c1])
     |((with_reducible first|apply qql|apply qqn|apply qqp|apply qqm|apply qqo|apply qqq);simp[c1])
    refine Pwp.loopN (ι := Nat × List Int) (S := fun x => ⟨[.any, .ptr (0 :: A) 1 0 0, .any, .int .i64 s.graph.kids.length, intsPv x.2, .int .i64 x.1, .any, .any, .any, .any, .any, .any, .any, .any, .any, .any, .any, .any, .any, .any, .any, .any, .any, .any, .any, .any, .any, .any, .any, .any, .any, .any, .any, .any, .any, .any, .any, .any, .any, .any, .any, .any, .any, .any, .any, .any, .any, .any, .any, .any, .any, .any, .any, .any, .any, .any, .any, .any, .any, .any, .any, .any, .any, .any, .any, .any, .any, .any, .any, .any, .any, .any, .any, .any, .any, .any, .any, .any, .any, .any, .any, .any, .any], [(0 :: A, .row 7 [s.pv])], x.1 :: 13 :: A, 0⟩)
      (C := fun x => x.1 ≤ 18 ∧ x.2.length = s.graph.kids.length ∧ Small x.2 ∧ Hid (wayGo s.graph.kids (18 - x.1) x.2 = waysB s.graph)) (μ := fun x => 18 - x.1) (0, List.replicate s.graph.kids.length 0) ?_ ?_ ?_
    · refine PLe.tellIn [(10 :: A, .row 1 ((List.replicate s.graph.kids.length 0).map (PV.int .i64)))] ?_ ?_ ?_ ?_
      · simp
      · repeat' first | exact Sub.nil _ | refine Sub.cons (by simp [St.find]) ?_
      · simp [ObLe.refl, *]
      · repeat' first | exact VLeL.nil | refine VLeL.cons ?_ ?_
        all_goals first | exact VLe.any _ | exact VLe.refl _ | exact VLe.ghost _ ⟨_, rfl, by omega, by omega⟩ | (apply VLe.row (h := ELe.refl _); (focus (first | exact St.find_hd _ _ _ | exact St.find_tl (by simp) (St.find_hd _ _ _) | exact St.find_tl (by simp) (St.find_tl (by simp) (St.find_hd _ _ _)))); (simp [*]; done)) | exact VLe.of_eq (by simp [*])
    · exact ⟨by simp, by simp, fun x hx => by rw [List.eq_of_mem_replicate hx]; omega, hw0⟩
    · rintro ⟨step, many⟩ ⟨hs18, hml, hsm, hgo⟩
      simp only at hs18 hml hsm hgo
      clear hw0
      by_cases hst : step < 18
      · have cs : ((step : Int) < 18) = True := by simp only [eq_iff_iff, iff_true]; omega
        have hgo2 : Hid (wayGo s.graph.kids ((17 - step) + 1) many = waysB s.graph) := ⟨by rw [show 17 - step + 1 = 18 - step by omega]; exact hgo.of⟩
        clear hgo
        have hz0 := wayRow_zero s.graph.kids many
        repeat' first
         |(with_reducible first|apply qa|apply qb|apply qc|apply qd|apply qe|apply qf|apply qg|apply qh|apply qi|apply qj|apply qk|apply ql|apply qm|apply qn|apply qo|apply qp|apply qq|refine blockP_ne (by decide) ?_)
         |((with_reducible refine Pwp.reg fun K hK=>?_);simp[*, wrap_succ step (by omega)])
         |((with_reducible refine Pwp.drawn (id := 18) follows_mixed [0, 0, 0, 0, 12, 28, 0, 0, 192, 448, 1020, 2044, 4095, 8191] [false, false, false, false, false, false, false, false, false, false, false, true, true, true] ?_ fun K hK => ?_); focus kernel_rfl
           simp [*, wrap_succ step (by omega)])
         |((with_reducible refine Hid.go hK ?_);clear hK K)|((with_reducible apply Pwp.condG);rfl)|((with_reducible first|apply qqj|apply qqk);simp[*, wrap_succ step (by omega)];done)|((with_reducible first|apply qr|apply qs|apply qt|apply qu|apply qv|apply qw)<;>intro h)
         |((with_reducible first|apply qx|apply qy|apply qz|apply qqa|apply qqb|apply qqc|apply qqd|apply qqe|apply qqf|apply qqg|apply qqh|apply qqi)<;>intro h<;>try simp[h, *, wrap_succ step (by omega)])
         |((with_reducible refine and_go ?_ fun hs=>?_);focus omega
           try simp[*, wrap_succ step (by omega)])
         |((with_reducible first|apply qql|apply qqn|apply qqp|apply qqm|apply qqo|apply qqq);simp[*, wrap_succ step (by omega)])
        refine Pwp.loopN (ι := Nat) (S := fun i => ⟨[.any, .ptr (0 :: A) 1 0 0, .any, .int .i64 s.graph.kids.length, intsPv many, .int .i64 step, .slice (3 :: step :: 13 :: A) s.graph.kids.length, .int .i64 i, .any, .any, .any, .any, .any, .any, .any, .any, .any, .any, .any, .any, .any, .any, .any, .any, .any, .any, .any, .any, .any, .any, .any, .any, .any, .any, .any, .any, .any, .any, .any, .any, .any, .any, .any, .any, .any, .any, .any, .any, .any, .any, .any, .any, .any, .any, .any, .any, .any, .any, .any, .any, .any, .any, .any, .any, .any, .any, .any, .any, .any, .any, .any, .any, .any, .any, .any, .any, .any, .any, .any, .any, .any, .any, .any], [(0 :: A, .row 7 [s.pv]), (3 :: step :: 13 :: A, .row 1 ((wayRow s.graph.kids many i).map (PV.int .i64)))], i :: 6 :: step :: 13 :: A, 0⟩)
          (C := fun i => i ≤ s.graph.kids.length ∧ ∀ j, (h : j < s.graph.kids.length) → j < i → ¬ 10000 < wayNext s.graph.kids many j) (μ := fun i => s.graph.kids.length - i) 0 ?_ ?_ ?_
        · refine PLe.tellIn [] ?_ ?_ ?_ ?_
          · simp
          · exact Sub.nil _
          · simp [ObLe.refl, *]
          · repeat' first | exact VLeL.nil | refine VLeL.cons ?_ ?_
            all_goals first | exact VLe.any _ | exact VLe.refl _ | exact VLe.ghost _ ⟨_, rfl, by omega, by omega⟩ | (apply VLe.row (h := ELe.refl _); (focus (first | exact St.find_hd _ _ _ | exact St.find_tl (by simp) (St.find_hd _ _ _) | exact St.find_tl (by simp) (St.find_tl (by simp) (St.find_hd _ _ _)))); (simp [*]; done)) | exact VLe.of_eq (by simp [*])
        · simp
        · rintro i ⟨hi, hp⟩
          have hlen := wayRow_length (many := many) hi
          clear hz0
          by_cases hlt : i < s.graph.kids.length
          · have hu0 : wayUpto s.graph.kids.length many s.graph.kids[i] 0 = 1 := by simp [wayUpto]
            have hkl := hk _ (List.getElem_mem hlt)
            have hnx : wayNext s.graph.kids many i = wayUpto s.graph.kids.length many s.graph.kids[i] 1000 := by simp [wayNext, hlt]
            have hnx' : Hid (wayNext s.graph.kids many i = wayUpto s.graph.kids.length many s.graph.kids[i] 1000) := ⟨hnx⟩
            clear hnx
            repeat' first
             |(with_reducible first|apply qa|apply qb|apply qc|apply qd|apply qe|apply qf|apply qg|apply qh|apply qi|apply qj|apply qk|apply ql|apply qm|apply qn|apply qo|apply qp|apply qq|refine blockP_ne (by decide) ?_)
             |((with_reducible refine Pwp.reg fun K hK=>?_);simp[*, wrap_succ i (by omega)])
             |((with_reducible refine Pwp.drawn (id := 18) follows_mixed [0, 0, 0, 0, 12, 28, 0, 0, 192, 448, 1020, 2044, 4095, 8191] [false, false, false, false, false, false, false, false, false, false, false, true, true, true] ?_ fun K hK => ?_); focus kernel_rfl
               simp [*, wrap_succ i (by omega)])
             |((with_reducible refine Hid.go hK ?_);clear hK K)|((with_reducible apply Pwp.condG);rfl)|((with_reducible first|apply qqj|apply qqk);simp[*, wrap_succ i (by omega)];done)|((with_reducible first|apply qr|apply qs|apply qt|apply qu|apply qv|apply qw)<;>intro h)
             |((with_reducible first|apply qx|apply qy|apply qz|apply qqa|apply qqb|apply qqc|apply qqd|apply qqe|apply qqf|apply qqg|apply qqh|apply qqi)<;>intro h<;>try simp[h, *, wrap_succ i (by omega)])
             |((with_reducible refine and_go ?_ fun hs=>?_);focus omega
               try simp[*, wrap_succ i (by omega)])
             |((with_reducible first|apply qql|apply qqn|apply qqp|apply qqm|apply qqo|apply qqq);simp[*, wrap_succ i (by omega)])
            refine Pwp.loopN (ι := Nat) (S := fun k => ⟨[.any, .ptr (0 :: A) 1 0 0, .any, .int .i64 s.graph.kids.length, intsPv many, .int .i64 step, .slice (3 :: step :: 13 :: A) s.graph.kids.length, .int .i64 i, .int .i64 k, .any, .any, .any, .any, .any, .any, .any, .any, .any, .any, .any, .any, .any, .any, .any, .any, .any, .any, .any, .any, .any, .any, .any, .any, .any, .any, .any, .any, .any, .any, .any, .any, .any, .any, .any, .any, .any, .any, .any, .any, .any, .any, .any, .any, .any, .any, .any, .any, .any, .any, .any, .any, .any, .any, .any, .any, .any, .any, .any, .any, .any, .any, .any, .any, .any, .any, .any, .any, .any, .any, .any, .any, .any, .any], [(0 :: A, .row 7 [s.pv]), (3 :: step :: 13 :: A, .row 1 (((wayRow s.graph.kids many i).set i (wayUpto s.graph.kids.length many s.graph.kids[i] k)).map (PV.int .i64)))], k :: 8 :: i :: 6 :: step :: 13 :: A, 0⟩)
              (C := fun k => k ≤ s.graph.kids[i].length ∧ k ≤ 1000) (μ := fun k => s.graph.kids[i].length - k) 0 ?_ ?_ ?_
            · refine PLe.tellIn [] ?_ ?_ ?_ ?_
              · simp
              · exact Sub.nil _
              · simp [ObLe.refl, *]
              · repeat' first | exact VLeL.nil | refine VLeL.cons ?_ ?_
                all_goals first | exact VLe.any _ | exact VLe.refl _ | exact VLe.ghost _ ⟨_, rfl, by omega, by omega⟩ | (apply VLe.row (h := ELe.refl _); (focus (first | exact St.find_hd _ _ _ | exact St.find_tl (by simp) (St.find_hd _ _ _) | exact St.find_tl (by simp) (St.find_tl (by simp) (St.find_hd _ _ _)))); (simp [*]; done)) | exact VLe.of_eq (by simp [*])
            · simp
            · rintro k ⟨hk1, hk2⟩
              clear hu0
              by_cases hkin : k < s.graph.kids[i].length
              · by_cases hk3 : k < 1000
                · have ck : ((k : Int) < 1000) = True := by simp only [eq_iff_iff, iff_true]; omega
                  have hsucc := wayUpto_succ (n := s.graph.kids.length) (many := many) hkin
                  have hle := wayUpto_le (n := s.graph.kids.length) hsm s.graph.kids[i] k
                  by_cases hin : 0 ≤ (s.graph.kids[i])[k].slot ∧ (s.graph.kids[i])[k].slot < s.graph.kids.length
                  · obtain ⟨i1, i2⟩ := hin
                    have i3 : (s.graph.kids[i])[k].slot.toNat < many.length := by omega
                    have i4 : (s.graph.kids[i])[k].slot.toNat < s.graph.kids.length := by omega
                    have i5 : ((s.graph.kids[i])[k].slot < (many.length : Int)) = True := by simp only [eq_iff_iff, iff_true]; omega
                    have hg := hsm.getD (s.graph.kids[i])[k].slot.toNat
                    have hg2 : many.getD (s.graph.kids[i])[k].slot.toNat 0 = many[(s.graph.kids[i])[k].slot.toNat] := by simp [List.getD_eq_getElem?_getD, i3]
                    rw [hg2] at hg
                    have hw := wrap_in (wayUpto s.graph.kids.length many s.graph.kids[i] k + many[(s.graph.kids[i])[k].slot.toNat]) (by omega)
                    have hadd : wayUpto s.graph.kids.length many s.graph.kids[i] (k + 1) = if (100000 : Int) < wayUpto s.graph.kids.length many s.graph.kids[i] k + many[(s.graph.kids[i])[k].slot.toNat] then 100000 else wayUpto s.graph.kids.length many s.graph.kids[i] k + many[(s.graph.kids[i])[k].slot.toNat] := by
                      rw [hsucc]; unfold wayAdd; rw [if_pos ⟨i1, i2⟩, hg2]
                    clear hsucc hg2
                    repeat' first
                     |(with_reducible first|apply qa|apply qb|apply qc|apply qd|apply qe|apply qf|apply qg|apply qh|apply qi|apply qj|apply qk|apply ql|apply qm|apply qn|apply qo|apply qp|apply qq|refine blockP_ne (by decide) ?_)
                     |((with_reducible refine Pwp.reg fun K hK=>?_);simp[*, wrap_succ k (by omega)])
                     |((with_reducible refine Pwp.drawn (id := 18) follows_mixed [0, 0, 0, 0, 12, 28, 0, 0, 192, 448, 1020, 2044, 4095, 8191] [false, false, false, false, false, false, false, false, false, false, false, true, true, true] ?_ fun K hK => ?_); focus kernel_rfl
                       simp [*, wrap_succ k (by omega)])
                     |((with_reducible refine Hid.go hK ?_);clear hK K)|((with_reducible apply Pwp.condG);rfl)|((with_reducible first|apply qqj|apply qqk);simp[*, wrap_succ k (by omega)];done)|((with_reducible first|apply qr|apply qs|apply qt|apply qu|apply qv|apply qw)<;>intro h)
                     |((with_reducible first|apply qx|apply qy|apply qz|apply qqa|apply qqb|apply qqc|apply qqd|apply qqe|apply qqf|apply qqg|apply qqh|apply qqi)<;>intro h<;>try simp[h, *, wrap_succ k (by omega)])
                     |((with_reducible refine and_go ?_ fun hs=>?_);focus omega
                       try simp[*, wrap_succ k (by omega)])
                     |((with_reducible first|apply qql|apply qqn|apply qqp|apply qqm|apply qqo|apply qqq);simp[*, wrap_succ k (by omega)])
                    refine roundN_go (k + 1) ?_ ⟨hkin, hk3⟩ (by omega)
                    refine PLe.tellNext (pre := []) [] ?_ ?_ ?_ ?_
                    · simp
                    · exact Sub.nil _
                    · simp [ObLe.refl, *]
                    · repeat' first | exact VLeL.nil | refine VLeL.cons ?_ ?_
                      all_goals first | exact VLe.any _ | exact VLe.refl _ | exact VLe.ghost _ ⟨_, rfl, by omega, by omega⟩ | (apply VLe.row (h := ELe.refl _); (focus (first | exact St.find_hd _ _ _ | exact St.find_tl (by simp) (St.find_hd _ _ _) | exact St.find_tl (by simp) (St.find_tl (by simp) (St.find_hd _ _ _)))); (simp [*]; done)) | exact VLe.of_eq (by simp [*])
                  · have hadd : wayUpto s.graph.kids.length many s.graph.kids[i] (k + 1) = wayUpto s.graph.kids.length many s.graph.kids[i] k := by
                      rw [hsucc]; unfold wayAdd; rw [if_neg hin]
                    clear hsucc
                    repeat' first
                     |(with_reducible first|apply qa|apply qb|apply qc|apply qd|apply qe|apply qf|apply qg|apply qh|apply qi|apply qj|apply qk|apply ql|apply qm|apply qn|apply qo|apply qp|apply qq|refine blockP_ne (by decide) ?_)
                     |((with_reducible refine Pwp.reg fun K hK=>?_);simp[*, wrap_succ k (by omega)])
                     |((with_reducible refine Pwp.drawn (id := 18) follows_mixed [0, 0, 0, 0, 12, 28, 0, 0, 192, 448, 1020, 2044, 4095, 8191] [false, false, false, false, false, false, false, false, false, false, false, true, true, true] ?_ fun K hK => ?_); focus kernel_rfl
                       simp [*, wrap_succ k (by omega)])
                     |((with_reducible refine Hid.go hK ?_);clear hK K)|((with_reducible apply Pwp.condG);rfl)|((with_reducible first|apply qqj|apply qqk);simp[*, wrap_succ k (by omega)];done)|((with_reducible first|apply qr|apply qs|apply qt|apply qu|apply qv|apply qw)<;>intro h)
                     |((with_reducible first|apply qx|apply qy|apply qz|apply qqa|apply qqb|apply qqc|apply qqd|apply qqe|apply qqf|apply qqg|apply qqh|apply qqi)<;>intro h<;>try simp[h, *, wrap_succ k (by omega)])
                     |((with_reducible refine and_go ?_ fun hs=>?_);focus omega
                       try simp[*, wrap_succ k (by omega)])
                     |((with_reducible first|apply qql|apply qqn|apply qqp|apply qqm|apply qqo|apply qqq);simp[*, wrap_succ k (by omega)])
                    all_goals try (exfalso; omega; done)
                    all_goals refine roundN_go (k + 1) ?_ ⟨hkin, hk3⟩ (by omega)
                    · refine PLe.tellNext (pre := []) [] ?_ ?_ ?_ ?_
                      · simp
                      · exact Sub.nil _
                      · simp [ObLe.refl, *]
                      · repeat' first | exact VLeL.nil | refine VLeL.cons ?_ ?_
                        all_goals first | exact VLe.any _ | exact VLe.refl _ | exact VLe.ghost _ ⟨_, rfl, by omega, by omega⟩ | (apply VLe.row (h := ELe.refl _); (focus (first | exact St.find_hd _ _ _ | exact St.find_tl (by simp) (St.find_hd _ _ _) | exact St.find_tl (by simp) (St.find_tl (by simp) (St.find_hd _ _ _)))); (simp [*]; done)) | exact VLe.of_eq (by simp [*])
                    · refine PLe.tellNext (pre := []) [] ?_ ?_ ?_ ?_
                      · simp
                      · exact Sub.nil _
                      · simp [ObLe.refl, *]
                      · repeat' first | exact VLeL.nil | refine VLeL.cons ?_ ?_
                        all_goals first | exact VLe.any _ | exact VLe.refl _ | exact VLe.ghost _ ⟨_, rfl, by omega, by omega⟩ | (apply VLe.row (h := ELe.refl _); (focus (first | exact St.find_hd _ _ _ | exact St.find_tl (by simp) (St.find_hd _ _ _) | exact St.find_tl (by simp) (St.find_tl (by simp) (St.find_hd _ _ _)))); (simp [*]; done)) | exact VLe.of_eq (by simp [*])
                · have e1000 : k = 1000 := by omega
                  have ck : ((k : Int) < 1000) = False := by simp only [eq_iff_iff, iff_false]; omega
                  have hfin : wayUpto s.graph.kids.length many s.graph.kids[i] k = wayNext s.graph.kids many i := by rw [hnx'.of, e1000]
                  clear e1000
                  by_cases hb : 10000 < wayNext s.graph.kids many i
                  · have hv : waysB s.graph = true := by
                      rw [← hgo2.of]
                      simp only [wayGo]
                      rw [if_pos]
                      exact List.any_eq_true.2 ⟨_, List.mem_map.2 ⟨i, List.mem_range.2 hlt, rfl⟩, by simpa using hb⟩
                    repeat' first
                     |(with_reducible first|apply qa|apply qb|apply qc|apply qd|apply qe|apply qf|apply qg|apply qh|apply qi|apply qj|apply qk|apply ql|apply qm|apply qn|apply qo|apply qp|apply qq|refine blockP_ne (by decide) ?_)
                     |((with_reducible refine Pwp.reg fun K hK=>?_);simp[*])
                     |((with_reducible refine Pwp.drawn (id := 18) follows_mixed [0, 0, 0, 0, 12, 28, 0, 0, 192, 448, 1020, 2044, 4095, 8191] [false, false, false, false, false, false, false, false, false, false, false, true, true, true] ?_ fun K hK => ?_); focus kernel_rfl
                       simp [*])
                     |((with_reducible refine Hid.go hK ?_);clear hK K)|((with_reducible apply Pwp.condG);rfl)|((with_reducible first|apply qqj|apply qqk);simp[*];done)|((with_reducible first|apply qr|apply qs|apply qt|apply qu|apply qv|apply qw)<;>intro h)
                     |((with_reducible first|apply qx|apply qy|apply qz|apply qqa|apply qqb|apply qqc|apply qqd|apply qqe|apply qqf|apply qqg|apply qqh|apply qqi)<;>intro h<;>try simp[h, *])
                     |((with_reducible refine and_go ?_ fun hs=>?_);focus omega
                       try simp[*])
                     |((with_reducible first|apply qql|apply qqn|apply qqp|apply qqm|apply qqo|apply qqq);simp[*])
                    all_goals (refine endP_ret0 ?_; simp [hv])
                  · have cb : (10000 < wayNext s.graph.kids many i) = False := eq_false hb
                    have hb' : Hid (¬ 10000 < wayNext s.graph.kids many i) := ⟨hb⟩
                    clear hb
                    repeat' first
                     |(with_reducible first|apply qa|apply qb|apply qc|apply qd|apply qe|apply qf|apply qg|apply qh|apply qi|apply qj|apply qk|apply ql|apply qm|apply qn|apply qo|apply qp|apply qq|refine blockP_ne (by decide) ?_)
                     |((with_reducible refine Pwp.reg fun K hK=>?_);simp[*, wrap_succ i (by omega)])
                     |((with_reducible refine Pwp.drawn (id := 18) follows_mixed [0, 0, 0, 0, 12, 28, 0, 0, 192, 448, 1020, 2044, 4095, 8191] [false, false, false, false, false, false, false, false, false, false, false, true, true, true] ?_ fun K hK => ?_); focus kernel_rfl
                       simp [*, wrap_succ i (by omega)])
                     |((with_reducible refine Hid.go hK ?_);clear hK K)|((with_reducible apply Pwp.condG);rfl)|((with_reducible first|apply qqj|apply qqk);simp[*, wrap_succ i (by omega)];done)|((with_reducible first|apply qr|apply qs|apply qt|apply qu|apply qv|apply qw)<;>intro h)
                     |((with_reducible first|apply qx|apply qy|apply qz|apply qqa|apply qqb|apply qqc|apply qqd|apply qqe|apply qqf|apply qqg|apply qqh|apply qqi)<;>intro h<;>try simp[h, *, wrap_succ i (by omega)])
                     |((with_reducible refine and_go ?_ fun hs=>?_);focus omega
                       try simp[*, wrap_succ i (by omega)])
                     |((with_reducible first|apply qql|apply qqn|apply qqp|apply qqm|apply qqo|apply qqq);simp[*, wrap_succ i (by omega)])
                    have hrow : ((wayRow s.graph.kids many i).map (PV.int .i64)).set i (PV.int .i64 (wayNext s.graph.kids many i)) = (wayRow s.graph.kids many (i + 1)).map (PV.int .i64) := by rw [← wayRow_succ hlt, List.map_set]
                    refine roundN_go (i + 1) ?_ ⟨hlt, upto_succ hp hlt hb'.of⟩ (by omega)
                    refine PLe.tellNext (pre := [k, 8]) [] ?_ ?_ ?_ ?_
                    · simp
                    · exact Sub.nil _
                    · simp [ObLe.refl, *]
                    · repeat' first | exact VLeL.nil | refine VLeL.cons ?_ ?_
                      all_goals first | exact VLe.any _ | exact VLe.refl _ | exact VLe.ghost _ ⟨_, rfl, by omega, by omega⟩ | (apply VLe.row (h := ELe.refl _); (focus (first | exact St.find_hd _ _ _ | exact St.find_tl (by simp) (St.find_hd _ _ _) | exact St.find_tl (by simp) (St.find_tl (by simp) (St.find_hd _ _ _)))); (simp [*]; done)) | exact VLe.of_eq (by simp [*])
              · have hfin : wayUpto s.graph.kids.length many s.graph.kids[i] k = wayNext s.graph.kids many i := by
                  rw [hnx'.of]; exact wayUpto_all (by omega) (by omega)
                by_cases hb : 10000 < wayNext s.graph.kids many i
                · have hv : waysB s.graph = true := by
                    rw [← hgo2.of]
                    simp only [wayGo]
                    rw [if_pos]
                    exact List.any_eq_true.2 ⟨_, List.mem_map.2 ⟨i, List.mem_range.2 hlt, rfl⟩, by simpa using hb⟩
                  repeat' first
                   |(with_reducible first|apply qa|apply qb|apply qc|apply qd|apply qe|apply qf|apply qg|apply qh|apply qi|apply qj|apply qk|apply ql|apply qm|apply qn|apply qo|apply qp|apply qq|refine blockP_ne (by decide) ?_)
                   |((with_reducible refine Pwp.reg fun K hK=>?_);simp[*])
                   |((with_reducible refine Pwp.drawn (id := 18) follows_mixed [0, 0, 0, 0, 12, 28, 0, 0, 192, 448, 1020, 2044, 4095, 8191] [false, false, false, false, false, false, false, false, false, false, false, true, true, true] ?_ fun K hK => ?_); focus kernel_rfl
                     simp [*])
                   |((with_reducible refine Hid.go hK ?_);clear hK K)|((with_reducible apply Pwp.condG);rfl)|((with_reducible first|apply qqj|apply qqk);simp[*];done)|((with_reducible first|apply qr|apply qs|apply qt|apply qu|apply qv|apply qw)<;>intro h)
                   |((with_reducible first|apply qx|apply qy|apply qz|apply qqa|apply qqb|apply qqc|apply qqd|apply qqe|apply qqf|apply qqg|apply qqh|apply qqi)<;>intro h<;>try simp[h, *])
                   |((with_reducible refine and_go ?_ fun hs=>?_);focus omega
                     try simp[*])
                   |((with_reducible first|apply qql|apply qqn|apply qqp|apply qqm|apply qqo|apply qqq);simp[*])
                  all_goals (refine endP_ret0 ?_; simp [hv])
                · have cb : (10000 < wayNext s.graph.kids many i) = False := eq_false hb
                  have hb' : Hid (¬ 10000 < wayNext s.graph.kids many i) := ⟨hb⟩
                  clear hb
                  repeat' first
                   |(with_reducible first|apply qa|apply qb|apply qc|apply qd|apply qe|apply qf|apply qg|apply qh|apply qi|apply qj|apply qk|apply ql|apply qm|apply qn|apply qo|apply qp|apply qq|refine blockP_ne (by decide) ?_)
                   |((with_reducible refine Pwp.reg fun K hK=>?_);simp[*, wrap_succ i (by omega)])
                   |((with_reducible refine Pwp.drawn (id := 18) follows_mixed [0, 0, 0, 0, 12, 28, 0, 0, 192, 448, 1020, 2044, 4095, 8191] [false, false, false, false, false, false, false, false, false, false, false, true, true, true] ?_ fun K hK => ?_); focus kernel_rfl
                     simp [*, wrap_succ i (by omega)])
                   |((with_reducible refine Hid.go hK ?_);clear hK K)|((with_reducible apply Pwp.condG);rfl)|((with_reducible first|apply qqj|apply qqk);simp[*, wrap_succ i (by omega)];done)|((with_reducible first|apply qr|apply qs|apply qt|apply qu|apply qv|apply qw)<;>intro h)
                   |((with_reducible first|apply qx|apply qy|apply qz|apply qqa|apply qqb|apply qqc|apply qqd|apply qqe|apply qqf|apply qqg|apply qqh|apply qqi)<;>intro h<;>try simp[h, *, wrap_succ i (by omega)])
                   |((with_reducible refine and_go ?_ fun hs=>?_);focus omega
                     try simp[*, wrap_succ i (by omega)])
                   |((with_reducible first|apply qql|apply qqn|apply qqp|apply qqm|apply qqo|apply qqq);simp[*, wrap_succ i (by omega)])
                  have hrow : ((wayRow s.graph.kids many i).map (PV.int .i64)).set i (PV.int .i64 (wayNext s.graph.kids many i)) = (wayRow s.graph.kids many (i + 1)).map (PV.int .i64) := by rw [← wayRow_succ hlt, List.map_set]
                  refine roundN_go (i + 1) ?_ ⟨hlt, upto_succ hp hlt hb'.of⟩ (by omega)
                  refine PLe.tellNext (pre := [k, 8]) [] ?_ ?_ ?_ ?_
                  · simp
                  · exact Sub.nil _
                  · simp [ObLe.refl, *]
                  · repeat' first | exact VLeL.nil | refine VLeL.cons ?_ ?_
                    all_goals first | exact VLe.any _ | exact VLe.refl _ | exact VLe.ghost _ ⟨_, rfl, by omega, by omega⟩ | (apply VLe.row (h := ELe.refl _); (focus (first | exact St.find_hd _ _ _ | exact St.find_tl (by simp) (St.find_hd _ _ _) | exact St.find_tl (by simp) (St.find_tl (by simp) (St.find_hd _ _ _)))); (simp [*]; done)) | exact VLe.of_eq (by simp [*])
          · have e : i = s.graph.kids.length := by omega
            subst e
            repeat' first
             |(with_reducible first|apply qa|apply qb|apply qc|apply qd|apply qe|apply qf|apply qg|apply qh|apply qi|apply qj|apply qk|apply ql|apply qm|apply qn|apply qo|apply qp|apply qq|refine blockP_ne (by decide) ?_)
             |((with_reducible refine Pwp.reg fun K hK=>?_);simp[*, wrap_succ step (by omega)])
             |((with_reducible refine Pwp.drawn (id := 18) follows_mixed [0, 0, 0, 0, 12, 28, 0, 0, 192, 448, 1020, 2044, 4095, 8191] [false, false, false, false, false, false, false, false, false, false, false, true, true, true] ?_ fun K hK => ?_); focus kernel_rfl
               simp [*, wrap_succ step (by omega)])
             |((with_reducible refine Hid.go hK ?_);clear hK K)|((with_reducible apply Pwp.condG);rfl)|((with_reducible first|apply qqj|apply qqk);simp[*, wrap_succ step (by omega)];done)|((with_reducible first|apply qr|apply qs|apply qt|apply qu|apply qv|apply qw)<;>intro h)
             |((with_reducible first|apply qx|apply qy|apply qz|apply qqa|apply qqb|apply qqc|apply qqd|apply qqe|apply qqf|apply qqg|apply qqh|apply qqi)<;>intro h<;>try simp[h, *, wrap_succ step (by omega)])
             |((with_reducible refine and_go ?_ fun hs=>?_);focus omega
               try simp[*, wrap_succ step (by omega)])
             |((with_reducible first|apply qql|apply qqn|apply qqp|apply qqm|apply qqo|apply qqq);simp[*, wrap_succ step (by omega)])
            have hfull := wayRow_full s.graph.kids many
            refine roundN_go (step + 1, wayRow s.graph.kids many s.graph.kids.length) ?_ ⟨hst, hlen, by rw [hfull]; exact wayNext_small hsm, ⟨?_⟩⟩ (by simp only; omega)
            · clear hfull
              refine PLe.tellNext (pre := [s.graph.kids.length, 6]) [(3 :: step :: 13 :: A, .row 1 ((wayRow s.graph.kids many s.graph.kids.length).map (PV.int .i64)))] ?_ ?_ ?_ ?_
              · simp
              · repeat' first | exact Sub.nil _ | refine Sub.cons (by simp [St.find]) ?_
              · simp [ObLe.refl, *]
              · repeat' first | exact VLeL.nil | refine VLeL.cons ?_ ?_
                all_goals first | exact VLe.any _ | exact VLe.refl _ | exact VLe.ghost _ ⟨_, rfl, by omega, by omega⟩ | (apply VLe.row (h := ELe.refl _); (focus (first | exact St.find_hd _ _ _ | exact St.find_tl (by simp) (St.find_hd _ _ _) | exact St.find_tl (by simp) (St.find_tl (by simp) (St.find_hd _ _ _)))); (simp [*]; done)) | exact VLe.of_eq (by simp [*])
            · rw [← hgo2.of, hfull]
              simp only [wayGo]
              rw [if_neg]
              · congr 1
                omega
              · rw [Bool.not_eq_true, List.any_eq_false]
                intro x hx
                obtain ⟨j, hj, rfl⟩ := List.mem_map.1 hx
                have hj' := List.mem_range.1 hj
                simpa using hp j hj' hj'
      · have cs : ((step : Int) < 18) = False := by simp only [eq_iff_iff, iff_false]; omega
        have e18 : step = 18 := by omega
        subst e18
        have hv : waysB s.graph = false := by rw [← hgo.of]; rfl
        repeat' first
         |(with_reducible first|apply qa|apply qb|apply qc|apply qd|apply qe|apply qf|apply qg|apply qh|apply qi|apply qj|apply qk|apply ql|apply qm|apply qn|apply qo|apply qp|apply qq|refine blockP_ne (by decide) ?_)
         |((with_reducible refine Pwp.reg fun K hK=>?_);simp[*])
         |((with_reducible refine Pwp.drawn (id := 18) follows_mixed [0, 0, 0, 0, 12, 28, 0, 0, 192, 448, 1020, 2044, 4095, 8191] [false, false, false, false, false, false, false, false, false, false, false, true, true, true] ?_ fun K hK => ?_); focus kernel_rfl
           simp [*])
         |((with_reducible refine Hid.go hK ?_);clear hK K)|((with_reducible apply Pwp.condG);rfl)|((with_reducible first|apply qqj|apply qqk);simp[*];done)|((with_reducible first|apply qr|apply qs|apply qt|apply qu|apply qv|apply qw)<;>intro h)
         |((with_reducible first|apply qx|apply qy|apply qz|apply qqa|apply qqb|apply qqc|apply qqd|apply qqe|apply qqf|apply qqg|apply qqh|apply qqi)<;>intro h<;>try simp[h, *])
         |((with_reducible refine and_go ?_ fun hs=>?_);focus omega
           try simp[*])
         |((with_reducible first|apply qql|apply qqn|apply qqp|apply qqm|apply qqo|apply qqq);simp[*])
        all_goals (refine endP_ret0 ?_; simp [hv])
end Go.Pv

set_option linter.unusedVariables false
set_option linter.unusedSimpArgs false
set_option maxRecDepth 100000
namespace Go.Pv
open Go Go.Proofs

def lookOk (l : Look) : Bool := decide (-1 ≤ l.texture ∧ l.texture < 16 ∧ l.cull ≤ 2 ∧ -1024 ≤ l.bias ∧ l.bias ≤ 1024 ∧ 0 ≤ l.bin ∧ l.bin ≤ 15)

theorem ent248 : enters Tryz.prog 248 = true := by kernel_rfl
theorem runs248 (A : Key) (l : Look) : Runs Tryz.prog A 248 [l.pv] [] (.int .i64 (errIf (!lookOk l))) [] := by
  by_cases hb : lookOk l = true
  · have hb2 := hb
    simp only [lookOk, decide_eq_true_eq] at hb
    have c1 : (l.texture < -1) = False := by simp only [eq_iff_iff, iff_false]; omega
    have c2 : (16 ≤ l.texture) = False := by simp only [eq_iff_iff, iff_false]; omega
    have c3 : (2 < l.cull) = False := by simp only [eq_iff_iff, iff_false]; omega
    have c4 : (l.bias < -1024) = False := by simp only [eq_iff_iff, iff_false]; omega
    have c5 : (1024 < l.bias) = False := by simp only [eq_iff_iff, iff_false]; omega
    have c6 : (l.bin < 0) = False := by simp only [eq_iff_iff, iff_false]; omega
    have c7 : (15 < l.bin) = False := by simp only [eq_iff_iff, iff_false]; omega
    clear hb
    refine Runs.body (rs := [.tmp 2]) ent248 Tryz.func248 rfl Tryz.ntmps248 rfl (fun x h => by cases h) ?_
    repeat' first
     |(with_reducible first|apply qa|apply qb|apply qc|apply qd|apply qe|apply qf|apply qg|apply qh|apply qi|apply qj|apply qk|apply ql|apply qm|apply qn|apply qo|apply qp|apply qq|refine blockP_ne (by decide) ?_)
     |((with_reducible refine Pwp.reg fun K hK=>?_);simp[c1, c2, c3, c4, c5, c6, c7])
     |((with_reducible refine Hid.go hK ?_);clear hK K)|((with_reducible apply Pwp.condG);rfl)|((with_reducible first|apply qqj|apply qqk);simp[c1, c2, c3, c4, c5, c6, c7];done)|((with_reducible first|apply qr|apply qs|apply qt|apply qu|apply qv|apply qw)<;>intro h)
     |((with_reducible first|apply qx|apply qy|apply qz|apply qqa|apply qqb|apply qqc)<;>intro h<;>try simp[h, c1, c2, c3, c4, c5, c6, c7])
     |((with_reducible refine and_go ?_ fun hs=>?_);focus omega
       try simp[c1, c2, c3, c4, c5, c6, c7])
     |((with_reducible first|apply qql|apply qqn|apply qqp);simp[c1, c2, c3, c4, c5, c6, c7])
    refine endP_ret0 ?_
    simp [errIf, hb2]
  · have hb2 : lookOk l = false := by simpa using hb
    have hb3 : Hid (¬ (-1 ≤ l.texture ∧ l.texture < 16 ∧ l.cull ≤ 2 ∧ -1024 ≤ l.bias ∧ l.bias ≤ 1024 ∧ 0 ≤ l.bin ∧ l.bin ≤ 15)) := ⟨by simpa only [lookOk, decide_eq_false_iff_not] using hb2⟩
    clear hb
    refine Runs.body (rs := [.tmp 2]) ent248 Tryz.func248 rfl Tryz.ntmps248 rfl (fun x h => by cases h) ?_
    repeat' first
     |(with_reducible first|apply qa|apply qb|apply qc|apply qd|apply qe|apply qf|apply qg|apply qh|apply qi|apply qj|apply qk|apply ql|apply qm|apply qn|apply qo|apply qp|apply qq|refine blockP_ne (by decide) ?_)
     |((with_reducible refine Pwp.reg fun K hK=>?_);simp[errIf])
     |((with_reducible refine Hid.go hK ?_);clear hK K)|((with_reducible apply Pwp.condG);rfl)|((with_reducible first|apply qqj|apply qqk);simp[errIf];done)|((with_reducible first|apply qr|apply qs|apply qt|apply qu|apply qv|apply qw)<;>intro h)
     |((with_reducible first|apply qx|apply qy|apply qz|apply qqa|apply qqb|apply qqc)<;>intro h<;>try simp[h, errIf])
     |((with_reducible refine and_go ?_ fun hs=>?_);focus omega
       try simp[errIf])
     |((with_reducible first|apply qql|apply qqn|apply qqp);simp[errIf])
    all_goals first
      | (refine endP_ret0 ?_; simp [errIf, hb2]; done)
      | (exfalso; have := hb3.of; omega)

def sayOk (x : Int) : Bool := decide (x = 0 ∨ x = 1 ∨ x = 3 ∨ x = 5 ∨ x = 7)
def sayAt (s : Style) (j : Nat) : Int := match j with | 0 => s.s0 | 1 => s.s1 | 2 => s.s2 | 3 => s.s3 | _ => s.s4
/-- What is said of a look by the first things. -/
def saidUpto (s : Style) (j : Nat) : Look :=
  { color := if 0 < j ∧ s.s0 ≠ 0 then s.look.color else ⟨0, 0, 0, 0⟩
    texture := if 1 < j ∧ s.s1 ≠ 0 then s.look.texture else 0
    cull := if 2 < j ∧ s.s2 ≠ 0 then s.look.cull else 0
    bias := if 3 < j ∧ s.s3 ≠ 0 then s.look.bias else 0
    blend := if 4 < j ∧ s.s4 ≠ 0 then s.look.blend else false
    bin := if 4 < j ∧ s.s4 ≠ 0 then s.look.bin else 0 }
def styleOk (s : Style) : Bool := sayOk s.s0 && sayOk s.s1 && sayOk s.s2 && sayOk s.s3 && sayOk s.s4 && decide (saidUpto s 5 = s.look) && lookOk s.look

theorem ent295 : enters Tryz.prog 295 = true := by kernel_rfl
theorem runs295 (A kt kf : Key) (h : kt ≠ kf) (to : Look) (s : Style) : Runs Tryz.prog A 295 [.ptr kt 1 0 0, .ptr kf 1 0 5] [(kt, .row 9 [to.pv]), (kf, .row 14 [s.pv])] (.tup []) [(kt, some (.row 9 [({ to with color := s.look.color } : Look).pv]))] := by
  refine Runs.body (rs := []) ent295 Tryz.func295 rfl Tryz.ntmps295 rfl (fun x hx => by rw [List.mem_singleton.1 hx]; exact .inr ⟨_, St.find_hd _ _ _⟩) ?_
  repeat' first
   |(with_reducible first|apply qa|apply qb|apply qc|apply qd|apply qe|apply qf|apply qg|apply qh|apply qi|apply qj|apply qk|apply ql|apply qm|apply qn|apply qo|apply qp|apply qq|refine blockP_ne (by decide) ?_)
   |((with_reducible refine Pwp.reg fun K hK=>?_);simp[h, h.symm])
   |((with_reducible refine Hid.go hK ?_);clear hK K)|((with_reducible apply Pwp.condG);rfl)|((with_reducible first|apply qqj|apply qqk);simp[h, h.symm];done)|((with_reducible first|apply qr|apply qs|apply qt|apply qu|apply qv|apply qw)<;>intro h)
   |((with_reducible first|apply qx|apply qy|apply qz|apply qqa|apply qqb|apply qqc)<;>intro h<;>try simp[h, h, h.symm])
   |((with_reducible refine and_go ?_ fun hs=>?_);focus omega
     try simp[h, h.symm])
   |((with_reducible first|apply qql|apply qqn|apply qqp);simp[h, h.symm])
  refine endP_normal PLe.refl (by simp) ?_
  simp [h, h.symm]
  exact Sub.refl _
theorem ent296 : enters Tryz.prog 296 = true := by kernel_rfl
theorem runs296 (A kt kf : Key) (h : kt ≠ kf) (to : Look) (s : Style) : Runs Tryz.prog A 296 [.ptr kt 1 0 0, .ptr kf 1 0 5] [(kt, .row 9 [to.pv]), (kf, .row 14 [s.pv])] (.tup []) [(kt, some (.row 9 [({ to with texture := s.look.texture } : Look).pv]))] := by
  refine Runs.body (rs := []) ent296 Tryz.func296 rfl Tryz.ntmps296 rfl (fun x hx => by rw [List.mem_singleton.1 hx]; exact .inr ⟨_, St.find_hd _ _ _⟩) ?_
  repeat' first
   |(with_reducible first|apply qa|apply qb|apply qc|apply qd|apply qe|apply qf|apply qg|apply qh|apply qi|apply qj|apply qk|apply ql|apply qm|apply qn|apply qo|apply qp|apply qq|refine blockP_ne (by decide) ?_)
   |((with_reducible refine Pwp.reg fun K hK=>?_);simp[h, h.symm])
   |((with_reducible refine Hid.go hK ?_);clear hK K)|((with_reducible apply Pwp.condG);rfl)|((with_reducible first|apply qqj|apply qqk);simp[h, h.symm];done)|((with_reducible first|apply qr|apply qs|apply qt|apply qu|apply qv|apply qw)<;>intro h)
   |((with_reducible first|apply qx|apply qy|apply qz|apply qqa|apply qqb|apply qqc)<;>intro h<;>try simp[h, h, h.symm])
   |((with_reducible refine and_go ?_ fun hs=>?_);focus omega
     try simp[h, h.symm])
   |((with_reducible first|apply qql|apply qqn|apply qqp);simp[h, h.symm])
  refine endP_normal PLe.refl (by simp) ?_
  simp [h, h.symm]
  exact Sub.refl _
theorem ent297 : enters Tryz.prog 297 = true := by kernel_rfl
theorem runs297 (A kt kf : Key) (h : kt ≠ kf) (to : Look) (s : Style) : Runs Tryz.prog A 297 [.ptr kt 1 0 0, .ptr kf 1 0 5] [(kt, .row 9 [to.pv]), (kf, .row 14 [s.pv])] (.tup []) [(kt, some (.row 9 [({ to with cull := s.look.cull } : Look).pv]))] := by
  refine Runs.body (rs := []) ent297 Tryz.func297 rfl Tryz.ntmps297 rfl (fun x hx => by rw [List.mem_singleton.1 hx]; exact .inr ⟨_, St.find_hd _ _ _⟩) ?_
  repeat' first
   |(with_reducible first|apply qa|apply qb|apply qc|apply qd|apply qe|apply qf|apply qg|apply qh|apply qi|apply qj|apply qk|apply ql|apply qm|apply qn|apply qo|apply qp|apply qq|refine blockP_ne (by decide) ?_)
   |((with_reducible refine Pwp.reg fun K hK=>?_);simp[h, h.symm])
   |((with_reducible refine Hid.go hK ?_);clear hK K)|((with_reducible apply Pwp.condG);rfl)|((with_reducible first|apply qqj|apply qqk);simp[h, h.symm];done)|((with_reducible first|apply qr|apply qs|apply qt|apply qu|apply qv|apply qw)<;>intro h)
   |((with_reducible first|apply qx|apply qy|apply qz|apply qqa|apply qqb|apply qqc)<;>intro h<;>try simp[h, h, h.symm])
   |((with_reducible refine and_go ?_ fun hs=>?_);focus omega
     try simp[h, h.symm])
   |((with_reducible first|apply qql|apply qqn|apply qqp);simp[h, h.symm])
  refine endP_normal PLe.refl (by simp) ?_
  simp [h, h.symm]
  exact Sub.refl _
theorem ent298 : enters Tryz.prog 298 = true := by kernel_rfl
theorem runs298 (A kt kf : Key) (h : kt ≠ kf) (to : Look) (s : Style) : Runs Tryz.prog A 298 [.ptr kt 1 0 0, .ptr kf 1 0 5] [(kt, .row 9 [to.pv]), (kf, .row 14 [s.pv])] (.tup []) [(kt, some (.row 9 [({ to with bias := s.look.bias } : Look).pv]))] := by
  refine Runs.body (rs := []) ent298 Tryz.func298 rfl Tryz.ntmps298 rfl (fun x hx => by rw [List.mem_singleton.1 hx]; exact .inr ⟨_, St.find_hd _ _ _⟩) ?_
  repeat' first
   |(with_reducible first|apply qa|apply qb|apply qc|apply qd|apply qe|apply qf|apply qg|apply qh|apply qi|apply qj|apply qk|apply ql|apply qm|apply qn|apply qo|apply qp|apply qq|refine blockP_ne (by decide) ?_)
   |((with_reducible refine Pwp.reg fun K hK=>?_);simp[h, h.symm])
   |((with_reducible refine Hid.go hK ?_);clear hK K)|((with_reducible apply Pwp.condG);rfl)|((with_reducible first|apply qqj|apply qqk);simp[h, h.symm];done)|((with_reducible first|apply qr|apply qs|apply qt|apply qu|apply qv|apply qw)<;>intro h)
   |((with_reducible first|apply qx|apply qy|apply qz|apply qqa|apply qqb|apply qqc)<;>intro h<;>try simp[h, h, h.symm])
   |((with_reducible refine and_go ?_ fun hs=>?_);focus omega
     try simp[h, h.symm])
   |((with_reducible first|apply qql|apply qqn|apply qqp);simp[h, h.symm])
  refine endP_normal PLe.refl (by simp) ?_
  simp [h, h.symm]
  exact Sub.refl _
theorem ent299 : enters Tryz.prog 299 = true := by kernel_rfl
theorem runs299 (A kt kf : Key) (h : kt ≠ kf) (to : Look) (s : Style) : Runs Tryz.prog A 299 [.ptr kt 1 0 0, .ptr kf 1 0 5] [(kt, .row 9 [to.pv]), (kf, .row 14 [s.pv])] (.tup []) [(kt, some (.row 9 [({ to with blend := s.look.blend, bin := s.look.bin } : Look).pv]))] := by
  refine Runs.body (rs := []) ent299 Tryz.func299 rfl Tryz.ntmps299 rfl (fun x hx => by rw [List.mem_singleton.1 hx]; exact .inr ⟨_, St.find_hd _ _ _⟩) ?_
  repeat' first
   |(with_reducible first|apply qa|apply qb|apply qc|apply qd|apply qe|apply qf|apply qg|apply qh|apply qi|apply qj|apply qk|apply ql|apply qm|apply qn|apply qo|apply qp|apply qq|refine blockP_ne (by decide) ?_)
   |((with_reducible refine Pwp.reg fun K hK=>?_);simp[h, h.symm])
   |((with_reducible refine Pwp.drawn (id := 0) follows_mixed [0, 0, 0, 4, 12, 28, 0, 64, 192, 448, 1021, 2045, 4093, 8191, 16383, 32767] [false, false, false, false, false, false, false, false, false, false, false, false, true, false, false, true] ?_ fun K hK => ?_); focus kernel_rfl
     simp [h, h.symm])
   |((with_reducible refine Hid.go hK ?_);clear hK K)|((with_reducible apply Pwp.condG);rfl)|((with_reducible first|apply qqj|apply qqk);simp[h, h.symm];done)|((with_reducible first|apply qr|apply qs|apply qt|apply qu|apply qv|apply qw)<;>intro h)
   |((with_reducible first|apply qx|apply qy|apply qz|apply qqa|apply qqb|apply qqc|apply qqd|apply qqe|apply qqf|apply qqg|apply qqh|apply qqi)<;>intro h<;>try simp[h, h, h.symm])
   |((with_reducible refine and_go ?_ fun hs=>?_);focus omega
     try simp[h, h.symm])
   |((with_reducible first|apply qql|apply qqn|apply qqp|apply qqm|apply qqo|apply qqq);simp[h, h.symm])
  refine endP_normal PLe.refl (by simp) ?_
  simp [h, h.symm]
  exact Sub.refl _

def copiesPv : PV := .agg [.func (.func 295) [] [], .func (.func 296) [] [], .func (.func 297) [] [], .func (.func 298) [] [], .func (.func 299) [] []]
attribute [simp] copiesPv
theorem ent247 : enters Tryz.prog 247 = true := by kernel_rfl
theorem runs247 (A : Key) : Runs Tryz.prog A 247 [] [] copiesPv [] := by
  refine Runs.body (rs := [.cell 0 354]) ent247 Tryz.func247 rfl Tryz.ntmps247 rfl (fun x h => by cases h) ?_
  repeat' first
   |(with_reducible first|apply qa|apply qb|apply qc|apply qd|apply qe|apply qf|apply qg|apply qh|apply qi|apply qj|apply qk|apply ql|apply qm|apply qn|apply qo|apply qp|apply qq|refine blockP_ne (by decide) ?_)
   |((with_reducible refine Pwp.reg fun K hK=>?_);simp[*])
   |((with_reducible refine Hid.go hK ?_);clear hK K)|((with_reducible apply Pwp.condG);rfl)|((with_reducible first|apply qqj|apply qqk);simp[*];done)|((with_reducible first|apply qr|apply qs|apply qt|apply qu|apply qv|apply qw)<;>intro h)
   |((with_reducible first|apply qx|apply qy|apply qz|apply qqa|apply qqb|apply qqc)<;>intro h<;>try simp[h, *])
   |((with_reducible refine and_go ?_ fun hs=>?_);focus omega
     try simp[*])
   |((with_reducible first|apply qql|apply qqn|apply qqp);simp[*])
end Go.Pv

