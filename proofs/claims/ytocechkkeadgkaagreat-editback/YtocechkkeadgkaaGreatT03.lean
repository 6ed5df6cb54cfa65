/- EditBack: for every scene and node, the law EditBack returns true, and what it was given reads as before. Part 4 of 6. -/
import Derived.Test.YtocechkkeadgkaaGreatT02
set_option linter.unusedVariables false
set_option linter.unusedSimpArgs false
set_option maxRecDepth 100000
namespace Go.Pv
open Go Go.Proofs

theorem sayOk_not {x : Int} (h : sayOk x = false) : ¬ x = 0 ∧ ¬ x = 1 ∧ ¬ x = 3 ∧ ¬ x = 5 ∧ ¬ x = 7 := by
  simp only [sayOk, decide_eq_false_iff_not] at h
  omega

set_option maxHeartbeats 4000000
theorem ent153 : enters Tryz.prog 153 = true := by kernel_rfl
theorem runs153 (A : Key) (s : Style) : Runs Tryz.prog A 153 [s.pv] [] (.int .i64 (errIf (!styleOk s))) [] := by
  refine Runs.body (rs := [.tmp 2]) ent153 Tryz.func153 rfl Tryz.ntmps153 rfl (fun x h => by cases h) ?_
  repeat' first
   |(with_reducible first|apply qa|apply qb|apply qc|apply qd|apply qe|apply qf|apply qg|apply qh|apply qi|apply qj|apply qk|apply ql|apply qm|apply qn|apply qo|apply qp|apply qq|refine blockP_ne (by decide) ?_)
   |((with_reducible refine Pwp.reg fun K hK=>?_);simp[*])
   |((with_reducible refine Hid.go hK ?_);clear hK K)|((with_reducible apply Pwp.condG);rfl)|((with_reducible first|apply qqj|apply qqk);simp[*];done)|((with_reducible first|apply qr|apply qs|apply qt|apply qu|apply qv|apply qw)<;>intro h)
   |((with_reducible first|apply qx|apply qy|apply qz|apply qqa|apply qqb|apply qqc)<;>intro h<;>try simp[h, *])
   |((with_reducible refine and_go ?_ fun hs=>?_);focus omega
     try simp[*])
   |((with_reducible first|apply qql|apply qqn|apply qqp);simp[*])
  refine vcallk_pure (runs247 _) ?_
  repeat' first
   |(with_reducible first|apply qa|apply qb|apply qc|apply qd|apply qe|apply qf|apply qg|apply qh|apply qi|apply qj|apply qk|apply ql|apply qm|apply qn|apply qo|apply qp|apply qq|refine blockP_ne (by decide) ?_)
   |((with_reducible refine Pwp.reg fun K hK=>?_);simp[*])
   |((with_reducible refine Hid.go hK ?_);clear hK K)|((with_reducible apply Pwp.condG);rfl)|((with_reducible first|apply qqj|apply qqk);simp[*];done)|((with_reducible first|apply qr|apply qs|apply qt|apply qu|apply qv|apply qw)<;>intro h)
   |((with_reducible first|apply qx|apply qy|apply qz|apply qqa|apply qqb|apply qqc)<;>intro h<;>try simp[h, *])
   |((with_reducible refine and_go ?_ fun hs=>?_);focus omega
     try simp[*])
   |((with_reducible first|apply qql|apply qqn|apply qqp);simp[*])
  refine Pwp.loopN (ι := Nat) (S := fun j => ⟨[.any, .ptr (0 :: A) 1 0 0, .any, .ptr (2 :: A) 1 0 0, .any, .any, copiesPv, .int .i64 j, .any, .any, .any, .any, .any, .any, .any, .any, .any, .any, .any, .any, .any, .any, .any, .any, .any, .any, .any, .any, .any, .any, .any, .any, .any], [(0 :: A, .row 14 [s.pv]), (2 :: A, .row 9 [(saidUpto s j).pv])], j :: 5 :: A, 0⟩)
    (C := fun j => j ≤ 5 ∧ ∀ i, i < j → sayOk (sayAt s i) = true) (μ := fun j => 5 - j) 0 ?_ ?_ ?_
  · have e0 : saidUpto s 0 = ⟨⟨0, 0, 0, 0⟩, 0, 0, 0, false, 0⟩ := by simp [saidUpto]
    refine PLe.tellIn [] ?_ ?_ ?_ ?_
    · simp
    · exact Sub.nil _
    · simp [ObLe.refl, *]
    · repeat' first | exact VLeL.nil | refine VLeL.cons ?_ ?_
      all_goals first | exact VLe.any _ | exact VLe.refl _ | exact VLe.ghost _ ⟨_, rfl, by omega, by omega⟩ | (apply VLe.row (h := ELe.refl _); (focus (first | exact St.find_hd _ _ _ | exact St.find_tl (by simp) (St.find_hd _ _ _) | exact St.find_tl (by simp) (St.find_tl (by simp) (St.find_hd _ _ _)))); (simp [*]; done)) | exact VLe.of_eq (by simp [*])
  · simp
  · rintro j ⟨hj, hp⟩
    have hj6 : j = 0 ∨ j = 1 ∨ j = 2 ∨ j = 3 ∨ j = 4 ∨ j = 5 := by omega
    have hpn : ∀ n, n = j + 1 → sayOk (sayAt s j) = true → ∀ i, i < n → sayOk (sayAt s i) = true := by
      intro n hn hs i hi
      by_cases e : i = j
      · rw [e]; exact hs
      · exact hp i (by omega)
    rcases hj6 with rfl | rfl | rfl | rfl | rfl | rfl
    · cases hok : sayOk s.s0 with
      | false =>
        have hv : styleOk s = false := by simp [styleOk, hok]
        obtain ⟨n0, n1, n3, n5, n7⟩ := sayOk_not hok
        clear hp hpn
        repeat' first
         |(with_reducible first|apply qa|apply qb|apply qc|apply qd|apply qe|apply qf|apply qg|apply qh|apply qi|apply qj|apply qk|apply ql|apply qm|apply qn|apply qo|apply qp|apply qq|refine blockP_ne (by decide) ?_)
         |((with_reducible refine Pwp.reg fun K hK=>?_);simp[n0, n1, n3, n5, n7])
         |((with_reducible refine Hid.go hK ?_);clear hK K)|((with_reducible apply Pwp.condG);rfl)|((with_reducible first|apply qqj|apply qqk);simp[n0, n1, n3, n5, n7];done)|((with_reducible first|apply qr|apply qs|apply qt|apply qu|apply qv|apply qw)<;>intro h)
         |((with_reducible first|apply qx|apply qy|apply qz|apply qqa|apply qqb|apply qqc)<;>intro h<;>try simp[h, n0, n1, n3, n5, n7])
         |((with_reducible refine and_go ?_ fun hs=>?_);focus omega
           try simp[n0, n1, n3, n5, n7])
         |((with_reducible first|apply qql|apply qqn|apply qqp);simp[n0, n1, n3, n5, n7])
        all_goals (refine endP_ret0 ?_; simp [errIf, hv])
      | true =>
        have hpj := hpn 1 rfl hok
        clear hp hpn
        by_cases n0 : s.s0 = 0
        · have hnext : saidUpto s 1 = saidUpto s 0 := by simp [saidUpto, n0]
          repeat' first
           |(with_reducible first|apply qa|apply qb|apply qc|apply qd|apply qe|apply qf|apply qg|apply qh|apply qi|apply qj|apply qk|apply ql|apply qm|apply qn|apply qo|apply qp|apply qq|refine blockP_ne (by decide) ?_)
           |((with_reducible refine Pwp.reg fun K hK=>?_);simp[n0])
           |((with_reducible refine Hid.go hK ?_);clear hK K)|((with_reducible apply Pwp.condG);rfl)|((with_reducible first|apply qqj|apply qqk);simp[n0];done)|((with_reducible first|apply qr|apply qs|apply qt|apply qu|apply qv|apply qw)<;>intro h)
           |((with_reducible first|apply qx|apply qy|apply qz|apply qqa|apply qqb|apply qqc)<;>intro h<;>try simp[h, n0])
           |((with_reducible refine and_go ?_ fun hs=>?_);focus omega
             try simp[n0])
           |((with_reducible first|apply qql|apply qqn|apply qqp);simp[n0])
          refine roundN_go 1 ?_ ⟨by omega, hpj⟩ (by omega)
          exact (PLe.tellNext (pre := []) [] (by simp) (by exact Sub.nil _) (by simp [ObLe.refl, *]) (by (repeat' first | exact VLeL.nil | refine VLeL.cons ?_ ?_); all_goals first | exact VLe.any _ | exact VLe.refl _ | exact VLe.ghost _ ⟨_, rfl, by omega, by omega⟩ | (apply VLe.row (h := ELe.refl _); (focus (first | exact St.find_hd _ _ _ | exact St.find_tl (by simp) (St.find_hd _ _ _) | exact St.find_tl (by simp) (St.find_tl (by simp) (St.find_hd _ _ _)))); (simp [*]; done)) | exact VLe.of_eq (by simp [*])))
        · have hnext : saidUpto s 1 = { saidUpto s 0 with color := s.look.color } := by simp [saidUpto, n0]
          have hc : s.s0 = 1 ∨ s.s0 = 3 ∨ s.s0 = 5 ∨ s.s0 = 7 := by
            simp only [sayOk, decide_eq_true_eq] at hok; omega
          rcases hc with c | c | c | c
          repeat' first
           |(with_reducible first|apply qa|apply qb|apply qc|apply qd|apply qe|apply qf|apply qg|apply qh|apply qi|apply qj|apply qk|apply ql|apply qm|apply qn|apply qo|apply qp|apply qq|refine blockP_ne (by decide) ?_)
           |((with_reducible refine Pwp.reg fun K hK=>?_);simp[c])
           |((with_reducible refine Hid.go hK ?_);clear hK K)|((with_reducible apply Pwp.condG);rfl)|((with_reducible first|apply qqj|apply qqk);simp[c];done)|((with_reducible first|apply qr|apply qs|apply qt|apply qu|apply qv|apply qw)<;>intro h)
           |((with_reducible first|apply qx|apply qy|apply qz|apply qqa|apply qqb|apply qqc)<;>intro h<;>try simp[h, c])
           |((with_reducible refine and_go ?_ fun hs=>?_);focus omega
             try simp[c])
           |((with_reducible first|apply qql|apply qqn|apply qqp);simp[c])
          all_goals refine vcallk_new (runs295 _ (2 :: A) (0 :: A) (by simp) (saidUpto s 0) s) (by repeat' first | exact Sub.nil _ | refine Sub.cons (by simp [St.find, c]) ?_) ?_
          repeat' first
           |(with_reducible first|apply qa|apply qb|apply qc|apply qd|apply qe|apply qf|apply qg|apply qh|apply qi|apply qj|apply qk|apply ql|apply qm|apply qn|apply qo|apply qp|apply qq|refine blockP_ne (by decide) ?_)
           |((with_reducible refine Pwp.reg fun K hK=>?_);simp[c])
           |((with_reducible refine Hid.go hK ?_);clear hK K)|((with_reducible apply Pwp.condG);rfl)|((with_reducible first|apply qqj|apply qqk);simp[c];done)|((with_reducible first|apply qr|apply qs|apply qt|apply qu|apply qv|apply qw)<;>intro h)
           |((with_reducible first|apply qx|apply qy|apply qz|apply qqa|apply qqb|apply qqc)<;>intro h<;>try simp[h, c])
           |((with_reducible refine and_go ?_ fun hs=>?_);focus omega
             try simp[c])
           |((with_reducible first|apply qql|apply qqn|apply qqp);simp[c])
          all_goals refine roundN_go 1 ?_ ⟨by omega, hpj⟩ (by omega)
          all_goals exact (PLe.tellNext (pre := []) [] (by simp) (by exact Sub.nil _) (by simp [ObLe.refl, *]) (by (repeat' first | exact VLeL.nil | refine VLeL.cons ?_ ?_); all_goals first | exact VLe.any _ | exact VLe.refl _ | exact VLe.ghost _ ⟨_, rfl, by omega, by omega⟩ | (apply VLe.row (h := ELe.refl _); (focus (first | exact St.find_hd _ _ _ | exact St.find_tl (by simp) (St.find_hd _ _ _) | exact St.find_tl (by simp) (St.find_tl (by simp) (St.find_hd _ _ _)))); (simp [*]; done)) | exact VLe.of_eq (by simp [*])))
    · cases hok : sayOk s.s1 with
      | false =>
        have hv : styleOk s = false := by simp [styleOk, hok]
        obtain ⟨n0, n1, n3, n5, n7⟩ := sayOk_not hok
        clear hp hpn
        repeat' first
         |(with_reducible first|apply qa|apply qb|apply qc|apply qd|apply qe|apply qf|apply qg|apply qh|apply qi|apply qj|apply qk|apply ql|apply qm|apply qn|apply qo|apply qp|apply qq|refine blockP_ne (by decide) ?_)
         |((with_reducible refine Pwp.reg fun K hK=>?_);simp[n0, n1, n3, n5, n7])
         |((with_reducible refine Hid.go hK ?_);clear hK K)|((with_reducible apply Pwp.condG);rfl)|((with_reducible first|apply qqj|apply qqk);simp[n0, n1, n3, n5, n7];done)|((with_reducible first|apply qr|apply qs|apply qt|apply qu|apply qv|apply qw)<;>intro h)
         |((with_reducible first|apply qx|apply qy|apply qz|apply qqa|apply qqb|apply qqc)<;>intro h<;>try simp[h, n0, n1, n3, n5, n7])
         |((with_reducible refine and_go ?_ fun hs=>?_);focus omega
           try simp[n0, n1, n3, n5, n7])
         |((with_reducible first|apply qql|apply qqn|apply qqp);simp[n0, n1, n3, n5, n7])
        all_goals (refine endP_ret0 ?_; simp [errIf, hv])
      | true =>
        have hpj := hpn 2 rfl hok
        clear hp hpn
        by_cases n0 : s.s1 = 0
        · have hnext : saidUpto s 2 = saidUpto s 1 := by simp [saidUpto, n0]
          repeat' first
           |(with_reducible first|apply qa|apply qb|apply qc|apply qd|apply qe|apply qf|apply qg|apply qh|apply qi|apply qj|apply qk|apply ql|apply qm|apply qn|apply qo|apply qp|apply qq|refine blockP_ne (by decide) ?_)
           |((with_reducible refine Pwp.reg fun K hK=>?_);simp[n0])
           |((with_reducible refine Hid.go hK ?_);clear hK K)|((with_reducible apply Pwp.condG);rfl)|((with_reducible first|apply qqj|apply qqk);simp[n0];done)|((with_reducible first|apply qr|apply qs|apply qt|apply qu|apply qv|apply qw)<;>intro h)
           |((with_reducible first|apply qx|apply qy|apply qz|apply qqa|apply qqb|apply qqc)<;>intro h<;>try simp[h, n0])
           |((with_reducible refine and_go ?_ fun hs=>?_);focus omega
             try simp[n0])
           |((with_reducible first|apply qql|apply qqn|apply qqp);simp[n0])
          refine roundN_go 2 ?_ ⟨by omega, hpj⟩ (by omega)
          exact (PLe.tellNext (pre := []) [] (by simp) (by exact Sub.nil _) (by simp [ObLe.refl, *]) (by (repeat' first | exact VLeL.nil | refine VLeL.cons ?_ ?_); all_goals first | exact VLe.any _ | exact VLe.refl _ | exact VLe.ghost _ ⟨_, rfl, by omega, by omega⟩ | (apply VLe.row (h := ELe.refl _); (focus (first | exact St.find_hd _ _ _ | exact St.find_tl (by simp) (St.find_hd _ _ _) | exact St.find_tl (by simp) (St.find_tl (by simp) (St.find_hd _ _ _)))); (simp [*]; done)) | exact VLe.of_eq (by simp [*])))
        · have hnext : saidUpto s 2 = { saidUpto s 1 with texture := s.look.texture } := by simp [saidUpto, n0]
          have hc : s.s1 = 1 ∨ s.s1 = 3 ∨ s.s1 = 5 ∨ s.s1 = 7 := by
            simp only [sayOk, decide_eq_true_eq] at hok; omega
          rcases hc with c | c | c | c
          repeat' first
           |(with_reducible first|apply qa|apply qb|apply qc|apply qd|apply qe|apply qf|apply qg|apply qh|apply qi|apply qj|apply qk|apply ql|apply qm|apply qn|apply qo|apply qp|apply qq|refine blockP_ne (by decide) ?_)
           |((with_reducible refine Pwp.reg fun K hK=>?_);simp[c])
           |((with_reducible refine Hid.go hK ?_);clear hK K)|((with_reducible apply Pwp.condG);rfl)|((with_reducible first|apply qqj|apply qqk);simp[c];done)|((with_reducible first|apply qr|apply qs|apply qt|apply qu|apply qv|apply qw)<;>intro h)
           |((with_reducible first|apply qx|apply qy|apply qz|apply qqa|apply qqb|apply qqc)<;>intro h<;>try simp[h, c])
           |((with_reducible refine and_go ?_ fun hs=>?_);focus omega
             try simp[c])
           |((with_reducible first|apply qql|apply qqn|apply qqp);simp[c])
          all_goals refine vcallk_new (runs296 _ (2 :: A) (0 :: A) (by simp) (saidUpto s 1) s) (by repeat' first | exact Sub.nil _ | refine Sub.cons (by simp [St.find, c]) ?_) ?_
          repeat' first
           |(with_reducible first|apply qa|apply qb|apply qc|apply qd|apply qe|apply qf|apply qg|apply qh|apply qi|apply qj|apply qk|apply ql|apply qm|apply qn|apply qo|apply qp|apply qq|refine blockP_ne (by decide) ?_)
           |((with_reducible refine Pwp.reg fun K hK=>?_);simp[c])
           |((with_reducible refine Hid.go hK ?_);clear hK K)|((with_reducible apply Pwp.condG);rfl)|((with_reducible first|apply qqj|apply qqk);simp[c];done)|((with_reducible first|apply qr|apply qs|apply qt|apply qu|apply qv|apply qw)<;>intro h)
           |((with_reducible first|apply qx|apply qy|apply qz|apply qqa|apply qqb|apply qqc)<;>intro h<;>try simp[h, c])
           |((with_reducible refine and_go ?_ fun hs=>?_);focus omega
             try simp[c])
           |((with_reducible first|apply qql|apply qqn|apply qqp);simp[c])
          all_goals refine roundN_go 2 ?_ ⟨by omega, hpj⟩ (by omega)
          all_goals exact (PLe.tellNext (pre := []) [] (by simp) (by exact Sub.nil _) (by simp [ObLe.refl, *]) (by (repeat' first | exact VLeL.nil | refine VLeL.cons ?_ ?_); all_goals first | exact VLe.any _ | exact VLe.refl _ | exact VLe.ghost _ ⟨_, rfl, by omega, by omega⟩ | (apply VLe.row (h := ELe.refl _); (focus (first | exact St.find_hd _ _ _ | exact St.find_tl (by simp) (St.find_hd _ _ _) | exact St.find_tl (by simp) (St.find_tl (by simp) (St.find_hd _ _ _)))); (simp [*]; done)) | exact VLe.of_eq (by simp [*])))
    · cases hok : sayOk s.s2 with
      | false =>
        have hv : styleOk s = false := by simp [styleOk, hok]
        obtain ⟨n0, n1, n3, n5, n7⟩ := sayOk_not hok
        clear hp hpn
        repeat' first
         |(with_reducible first|apply qa|apply qb|apply qc|apply qd|apply qe|apply qf|apply qg|apply qh|apply qi|apply qj|apply qk|apply ql|apply qm|apply qn|apply qo|apply qp|apply qq|refine blockP_ne (by decide) ?_)
         |((with_reducible refine Pwp.reg fun K hK=>?_);simp[n0, n1, n3, n5, n7])
         |((with_reducible refine Hid.go hK ?_);clear hK K)|((with_reducible apply Pwp.condG);rfl)|((with_reducible first|apply qqj|apply qqk);simp[n0, n1, n3, n5, n7];done)|((with_reducible first|apply qr|apply qs|apply qt|apply qu|apply qv|apply qw)<;>intro h)
         |((with_reducible first|apply qx|apply qy|apply qz|apply qqa|apply qqb|apply qqc)<;>intro h<;>try simp[h, n0, n1, n3, n5, n7])
         |((with_reducible refine and_go ?_ fun hs=>?_);focus omega
           try simp[n0, n1, n3, n5, n7])
         |((with_reducible first|apply qql|apply qqn|apply qqp);simp[n0, n1, n3, n5, n7])
        all_goals (refine endP_ret0 ?_; simp [errIf, hv])
      | true =>
        have hpj := hpn 3 rfl hok
        clear hp hpn
        by_cases n0 : s.s2 = 0
        · have hnext : saidUpto s 3 = saidUpto s 2 := by simp [saidUpto, n0]
          repeat' first
           |(with_reducible first|apply qa|apply qb|apply qc|apply qd|apply qe|apply qf|apply qg|apply qh|apply qi|apply qj|apply qk|apply ql|apply qm|apply qn|apply qo|apply qp|apply qq|refine blockP_ne (by decide) ?_)
           |((with_reducible refine Pwp.reg fun K hK=>?_);simp[n0])
           |((with_reducible refine Hid.go hK ?_);clear hK K)|((with_reducible apply Pwp.condG);rfl)|((with_reducible first|apply qqj|apply qqk);simp[n0];done)|((with_reducible first|apply qr|apply qs|apply qt|apply qu|apply qv|apply qw)<;>intro h)
           |((with_reducible first|apply qx|apply qy|apply qz|apply qqa|apply qqb|apply qqc)<;>intro h<;>try simp[h, n0])
           |((with_reducible refine and_go ?_ fun hs=>?_);focus omega
             try simp[n0])
           |((with_reducible first|apply qql|apply qqn|apply qqp);simp[n0])
          refine roundN_go 3 ?_ ⟨by omega, hpj⟩ (by omega)
          exact (PLe.tellNext (pre := []) [] (by simp) (by exact Sub.nil _) (by simp [ObLe.refl, *]) (by (repeat' first | exact VLeL.nil | refine VLeL.cons ?_ ?_); all_goals first | exact VLe.any _ | exact VLe.refl _ | exact VLe.ghost _ ⟨_, rfl, by omega, by omega⟩ | (apply VLe.row (h := ELe.refl _); (focus (first | exact St.find_hd _ _ _ | exact St.find_tl (by simp) (St.find_hd _ _ _) | exact St.find_tl (by simp) (St.find_tl (by simp) (St.find_hd _ _ _)))); (simp [*]; done)) | exact VLe.of_eq (by simp [*])))
        · have hnext : saidUpto s 3 = { saidUpto s 2 with cull := s.look.cull } := by simp [saidUpto, n0]
          have hc : s.s2 = 1 ∨ s.s2 = 3 ∨ s.s2 = 5 ∨ s.s2 = 7 := by
            simp only [sayOk, decide_eq_true_eq] at hok; omega
          rcases hc with c | c | c | c
          repeat' first
           |(with_reducible first|apply qa|apply qb|apply qc|apply qd|apply qe|apply qf|apply qg|apply qh|apply qi|apply qj|apply qk|apply ql|apply qm|apply qn|apply qo|apply qp|apply qq|refine blockP_ne (by decide) ?_)
           |((with_reducible refine Pwp.reg fun K hK=>?_);simp[c])
           |((with_reducible refine Hid.go hK ?_);clear hK K)|((with_reducible apply Pwp.condG);rfl)|((with_reducible first|apply qqj|apply qqk);simp[c];done)|((with_reducible first|apply qr|apply qs|apply qt|apply qu|apply qv|apply qw)<;>intro h)
           |((with_reducible first|apply qx|apply qy|apply qz|apply qqa|apply qqb|apply qqc)<;>intro h<;>try simp[h, c])
           |((with_reducible refine and_go ?_ fun hs=>?_);focus omega
             try simp[c])
           |((with_reducible first|apply qql|apply qqn|apply qqp);simp[c])
          all_goals refine vcallk_new (runs297 _ (2 :: A) (0 :: A) (by simp) (saidUpto s 2) s) (by repeat' first | exact Sub.nil _ | refine Sub.cons (by simp [St.find, c]) ?_) ?_
          repeat' first
           |(with_reducible first|apply qa|apply qb|apply qc|apply qd|apply qe|apply qf|apply qg|apply qh|apply qi|apply qj|apply qk|apply ql|apply qm|apply qn|apply qo|apply qp|apply qq|refine blockP_ne (by decide) ?_)
           |((with_reducible refine Pwp.reg fun K hK=>?_);simp[c])
           |((with_reducible refine Hid.go hK ?_);clear hK K)|((with_reducible apply Pwp.condG);rfl)|((with_reducible first|apply qqj|apply qqk);simp[c];done)|((with_reducible first|apply qr|apply qs|apply qt|apply qu|apply qv|apply qw)<;>intro h)
           |((with_reducible first|apply qx|apply qy|apply qz|apply qqa|apply qqb|apply qqc)<;>intro h<;>try simp[h, c])
           |((with_reducible refine and_go ?_ fun hs=>?_);focus omega
             try simp[c])
           |((with_reducible first|apply qql|apply qqn|apply qqp);simp[c])
          all_goals refine roundN_go 3 ?_ ⟨by omega, hpj⟩ (by omega)
          all_goals exact (PLe.tellNext (pre := []) [] (by simp) (by exact Sub.nil _) (by simp [ObLe.refl, *]) (by (repeat' first | exact VLeL.nil | refine VLeL.cons ?_ ?_); all_goals first | exact VLe.any _ | exact VLe.refl _ | exact VLe.ghost _ ⟨_, rfl, by omega, by omega⟩ | (apply VLe.row (h := ELe.refl _); (focus (first | exact St.find_hd _ _ _ | exact St.find_tl (by simp) (St.find_hd _ _ _) | exact St.find_tl (by simp) (St.find_tl (by simp) (St.find_hd _ _ _)))); (simp [*]; done)) | exact VLe.of_eq (by simp [*])))
    · cases hok : sayOk s.s3 with
      | false =>
        have hv : styleOk s = false := by simp [styleOk, hok]
        obtain ⟨n0, n1, n3, n5, n7⟩ := sayOk_not hok
        clear hp hpn
        repeat' first
         |(with_reducible first|apply qa|apply qb|apply qc|apply qd|apply qe|apply qf|apply qg|apply qh|apply qi|apply qj|apply qk|apply ql|apply qm|apply qn|apply qo|apply qp|apply qq|refine blockP_ne (by decide) ?_)
         |((with_reducible refine Pwp.reg fun K hK=>?_);simp[n0, n1, n3, n5, n7])
         |((with_reducible refine Hid.go hK ?_);clear hK K)|((with_reducible apply Pwp.condG);rfl)|((with_reducible first|apply qqj|apply qqk);simp[n0, n1, n3, n5, n7];done)|((with_reducible first|apply qr|apply qs|apply qt|apply qu|apply qv|apply qw)<;>intro h)
         |((with_reducible first|apply qx|apply qy|apply qz|apply qqa|apply qqb|apply qqc)<;>intro h<;>try simp[h, n0, n1, n3, n5, n7])
         |((with_reducible refine and_go ?_ fun hs=>?_);focus omega
           try simp[n0, n1, n3, n5, n7])
         |((with_reducible first|apply qql|apply qqn|apply qqp);simp[n0, n1, n3, n5, n7])
        all_goals (refine endP_ret0 ?_; simp [errIf, hv])
      | true =>
        have hpj := hpn 4 rfl hok
        clear hp hpn
        by_cases n0 : s.s3 = 0
        · have hnext : saidUpto s 4 = saidUpto s 3 := by simp [saidUpto, n0]
          repeat' first
           |(with_reducible first|apply qa|apply qb|apply qc|apply qd|apply qe|apply qf|apply qg|apply qh|apply qi|apply qj|apply qk|apply ql|apply qm|apply qn|apply qo|apply qp|apply qq|refine blockP_ne (by decide) ?_)
           |((with_reducible refine Pwp.reg fun K hK=>?_);simp[n0])
           |((with_reducible refine Hid.go hK ?_);clear hK K)|((with_reducible apply Pwp.condG);rfl)|((with_reducible first|apply qqj|apply qqk);simp[n0];done)|((with_reducible first|apply qr|apply qs|apply qt|apply qu|apply qv|apply qw)<;>intro h)
           |((with_reducible first|apply qx|apply qy|apply qz|apply qqa|apply qqb|apply qqc)<;>intro h<;>try simp[h, n0])
           |((with_reducible refine and_go ?_ fun hs=>?_);focus omega
             try simp[n0])
           |((with_reducible first|apply qql|apply qqn|apply qqp);simp[n0])
          refine roundN_go 4 ?_ ⟨by omega, hpj⟩ (by omega)
          exact (PLe.tellNext (pre := []) [] (by simp) (by exact Sub.nil _) (by simp [ObLe.refl, *]) (by (repeat' first | exact VLeL.nil | refine VLeL.cons ?_ ?_); all_goals first | exact VLe.any _ | exact VLe.refl _ | exact VLe.ghost _ ⟨_, rfl, by omega, by omega⟩ | (apply VLe.row (h := ELe.refl _); (focus (first | exact St.find_hd _ _ _ | exact St.find_tl (by simp) (St.find_hd _ _ _) | exact St.find_tl (by simp) (St.find_tl (by simp) (St.find_hd _ _ _)))); (simp [*]; done)) | exact VLe.of_eq (by simp [*])))
        · have hnext : saidUpto s 4 = { saidUpto s 3 with bias := s.look.bias } := by simp [saidUpto, n0]
          have hc : s.s3 = 1 ∨ s.s3 = 3 ∨ s.s3 = 5 ∨ s.s3 = 7 := by
            simp only [sayOk, decide_eq_true_eq] at hok; omega
          rcases hc with c | c | c | c
          repeat' first
           |(with_reducible first|apply qa|apply qb|apply qc|apply qd|apply qe|apply qf|apply qg|apply qh|apply qi|apply qj|apply qk|apply ql|apply qm|apply qn|apply qo|apply qp|apply qq|refine blockP_ne (by decide) ?_)
           |((with_reducible refine Pwp.reg fun K hK=>?_);simp[c])
           |((with_reducible refine Hid.go hK ?_);clear hK K)|((with_reducible apply Pwp.condG);rfl)|((with_reducible first|apply qqj|apply qqk);simp[c];done)|((with_reducible first|apply qr|apply qs|apply qt|apply qu|apply qv|apply qw)<;>intro h)
           |((with_reducible first|apply qx|apply qy|apply qz|apply qqa|apply qqb|apply qqc)<;>intro h<;>try simp[h, c])
           |((with_reducible refine and_go ?_ fun hs=>?_);focus omega
             try simp[c])
           |((with_reducible first|apply qql|apply qqn|apply qqp);simp[c])
          all_goals refine vcallk_new (runs298 _ (2 :: A) (0 :: A) (by simp) (saidUpto s 3) s) (by repeat' first | exact Sub.nil _ | refine Sub.cons (by simp [St.find, c]) ?_) ?_
          repeat' first
           |(with_reducible first|apply qa|apply qb|apply qc|apply qd|apply qe|apply qf|apply qg|apply qh|apply qi|apply qj|apply qk|apply ql|apply qm|apply qn|apply qo|apply qp|apply qq|refine blockP_ne (by decide) ?_)
           |((with_reducible refine Pwp.reg fun K hK=>?_);simp[c])
           |((with_reducible refine Hid.go hK ?_);clear hK K)|((with_reducible apply Pwp.condG);rfl)|((with_reducible first|apply qqj|apply qqk);simp[c];done)|((with_reducible first|apply qr|apply qs|apply qt|apply qu|apply qv|apply qw)<;>intro h)
           |((with_reducible first|apply qx|apply qy|apply qz|apply qqa|apply qqb|apply qqc)<;>intro h<;>try simp[h, c])
           |((with_reducible refine and_go ?_ fun hs=>?_);focus omega
             try simp[c])
           |((with_reducible first|apply qql|apply qqn|apply qqp);simp[c])
          all_goals refine roundN_go 4 ?_ ⟨by omega, hpj⟩ (by omega)
          all_goals exact (PLe.tellNext (pre := []) [] (by simp) (by exact Sub.nil _) (by simp [ObLe.refl, *]) (by (repeat' first | exact VLeL.nil | refine VLeL.cons ?_ ?_); all_goals first | exact VLe.any _ | exact VLe.refl _ | exact VLe.ghost _ ⟨_, rfl, by omega, by omega⟩ | (apply VLe.row (h := ELe.refl _); (focus (first | exact St.find_hd _ _ _ | exact St.find_tl (by simp) (St.find_hd _ _ _) | exact St.find_tl (by simp) (St.find_tl (by simp) (St.find_hd _ _ _)))); (simp [*]; done)) | exact VLe.of_eq (by simp [*])))
    · cases hok : sayOk s.s4 with
      | false =>
        have hv : styleOk s = false := by simp [styleOk, hok]
        obtain ⟨n0, n1, n3, n5, n7⟩ := sayOk_not hok
        clear hp hpn
        repeat' first
         |(with_reducible first|apply qa|apply qb|apply qc|apply qd|apply qe|apply qf|apply qg|apply qh|apply qi|apply qj|apply qk|apply ql|apply qm|apply qn|apply qo|apply qp|apply qq|refine blockP_ne (by decide) ?_)
         |((with_reducible refine Pwp.reg fun K hK=>?_);simp[n0, n1, n3, n5, n7])
         |((with_reducible refine Hid.go hK ?_);clear hK K)|((with_reducible apply Pwp.condG);rfl)|((with_reducible first|apply qqj|apply qqk);simp[n0, n1, n3, n5, n7];done)|((with_reducible first|apply qr|apply qs|apply qt|apply qu|apply qv|apply qw)<;>intro h)
         |((with_reducible first|apply qx|apply qy|apply qz|apply qqa|apply qqb|apply qqc)<;>intro h<;>try simp[h, n0, n1, n3, n5, n7])
         |((with_reducible refine and_go ?_ fun hs=>?_);focus omega
           try simp[n0, n1, n3, n5, n7])
         |((with_reducible first|apply qql|apply qqn|apply qqp);simp[n0, n1, n3, n5, n7])
        all_goals (refine endP_ret0 ?_; simp [errIf, hv])
      | true =>
        have hpj := hpn 5 rfl hok
        clear hp hpn
        by_cases n0 : s.s4 = 0
        · have hnext : saidUpto s 5 = saidUpto s 4 := by simp [saidUpto, n0]
          repeat' first
           |(with_reducible first|apply qa|apply qb|apply qc|apply qd|apply qe|apply qf|apply qg|apply qh|apply qi|apply qj|apply qk|apply ql|apply qm|apply qn|apply qo|apply qp|apply qq|refine blockP_ne (by decide) ?_)
           |((with_reducible refine Pwp.reg fun K hK=>?_);simp[n0])
           |((with_reducible refine Hid.go hK ?_);clear hK K)|((with_reducible apply Pwp.condG);rfl)|((with_reducible first|apply qqj|apply qqk);simp[n0];done)|((with_reducible first|apply qr|apply qs|apply qt|apply qu|apply qv|apply qw)<;>intro h)
           |((with_reducible first|apply qx|apply qy|apply qz|apply qqa|apply qqb|apply qqc)<;>intro h<;>try simp[h, n0])
           |((with_reducible refine and_go ?_ fun hs=>?_);focus omega
             try simp[n0])
           |((with_reducible first|apply qql|apply qqn|apply qqp);simp[n0])
          refine roundN_go 5 ?_ ⟨by omega, hpj⟩ (by omega)
          exact (PLe.tellNext (pre := []) [] (by simp) (by exact Sub.nil _) (by simp [ObLe.refl, *]) (by (repeat' first | exact VLeL.nil | refine VLeL.cons ?_ ?_); all_goals first | exact VLe.any _ | exact VLe.refl _ | exact VLe.ghost _ ⟨_, rfl, by omega, by omega⟩ | (apply VLe.row (h := ELe.refl _); (focus (first | exact St.find_hd _ _ _ | exact St.find_tl (by simp) (St.find_hd _ _ _) | exact St.find_tl (by simp) (St.find_tl (by simp) (St.find_hd _ _ _)))); (simp [*]; done)) | exact VLe.of_eq (by simp [*])))
        · have hnext : saidUpto s 5 = { saidUpto s 4 with blend := s.look.blend, bin := s.look.bin } := by simp [saidUpto, n0]
          have hc : s.s4 = 1 ∨ s.s4 = 3 ∨ s.s4 = 5 ∨ s.s4 = 7 := by
            simp only [sayOk, decide_eq_true_eq] at hok; omega
          rcases hc with c | c | c | c
          repeat' first
           |(with_reducible first|apply qa|apply qb|apply qc|apply qd|apply qe|apply qf|apply qg|apply qh|apply qi|apply qj|apply qk|apply ql|apply qm|apply qn|apply qo|apply qp|apply qq|refine blockP_ne (by decide) ?_)
           |((with_reducible refine Pwp.reg fun K hK=>?_);simp[c])
           |((with_reducible refine Hid.go hK ?_);clear hK K)|((with_reducible apply Pwp.condG);rfl)|((with_reducible first|apply qqj|apply qqk);simp[c];done)|((with_reducible first|apply qr|apply qs|apply qt|apply qu|apply qv|apply qw)<;>intro h)
           |((with_reducible first|apply qx|apply qy|apply qz|apply qqa|apply qqb|apply qqc)<;>intro h<;>try simp[h, c])
           |((with_reducible refine and_go ?_ fun hs=>?_);focus omega
             try simp[c])
           |((with_reducible first|apply qql|apply qqn|apply qqp);simp[c])
          all_goals refine vcallk_new (runs299 _ (2 :: A) (0 :: A) (by simp) (saidUpto s 4) s) (by repeat' first | exact Sub.nil _ | refine Sub.cons (by simp [St.find, c]) ?_) ?_
          repeat' first
           |(with_reducible first|apply qa|apply qb|apply qc|apply qd|apply qe|apply qf|apply qg|apply qh|apply qi|apply qj|apply qk|apply ql|apply qm|apply qn|apply qo|apply qp|apply qq|refine blockP_ne (by decide) ?_)
           |((with_reducible refine Pwp.reg fun K hK=>?_);simp[c])
           |((with_reducible refine Hid.go hK ?_);clear hK K)|((with_reducible apply Pwp.condG);rfl)|((with_reducible first|apply qqj|apply qqk);simp[c];done)|((with_reducible first|apply qr|apply qs|apply qt|apply qu|apply qv|apply qw)<;>intro h)
           |((with_reducible first|apply qx|apply qy|apply qz|apply qqa|apply qqb|apply qqc)<;>intro h<;>try simp[h, c])
           |((with_reducible refine and_go ?_ fun hs=>?_);focus omega
             try simp[c])
           |((with_reducible first|apply qql|apply qqn|apply qqp);simp[c])
          all_goals refine roundN_go 5 ?_ ⟨by omega, hpj⟩ (by omega)
          all_goals exact (PLe.tellNext (pre := []) [] (by simp) (by exact Sub.nil _) (by simp [ObLe.refl, *]) (by (repeat' first | exact VLeL.nil | refine VLeL.cons ?_ ?_); all_goals first | exact VLe.any _ | exact VLe.refl _ | exact VLe.ghost _ ⟨_, rfl, by omega, by omega⟩ | (apply VLe.row (h := ELe.refl _); (focus (first | exact St.find_hd _ _ _ | exact St.find_tl (by simp) (St.find_hd _ _ _) | exact St.find_tl (by simp) (St.find_tl (by simp) (St.find_hd _ _ _)))); (simp [*]; done)) | exact VLe.of_eq (by simp [*])))
    · have h0 := hp 0 (by omega)
      have h1 := hp 1 (by omega)
      have h2 := hp 2 (by omega)
      have h3 := hp 3 (by omega)
      have h4 := hp 4 (by omega)
      simp only [sayAt] at h0 h1 h2 h3 h4
      clear hp hpn
      by_cases he : saidUpto s 5 = s.look
      · have hv : styleOk s = lookOk s.look := by simp [styleOk, *]
        repeat' first
         |(with_reducible first|apply qa|apply qb|apply qc|apply qd|apply qe|apply qf|apply qg|apply qh|apply qi|apply qj|apply qk|apply ql|apply qm|apply qn|apply qo|apply qp|apply qq|refine blockP_ne (by decide) ?_)
         |((with_reducible refine Pwp.reg fun K hK=>?_);simp[he])
         |((with_reducible refine Hid.go hK ?_);clear hK K)|((with_reducible apply Pwp.condG);rfl)|((with_reducible first|apply qqj|apply qqk);simp[he];done)|((with_reducible first|apply qr|apply qs|apply qt|apply qu|apply qv|apply qw)<;>intro h)
         |((with_reducible first|apply qx|apply qy|apply qz|apply qqa|apply qqb|apply qqc)<;>intro h<;>try simp[h, he])
         |((with_reducible refine and_go ?_ fun hs=>?_);focus omega
           try simp[he])
         |((with_reducible first|apply qql|apply qqn|apply qqp);simp[he])
        refine vcallk_pure (runs248 _ s.look) ?_
        repeat' first
         |(with_reducible first|apply qa|apply qb|apply qc|apply qd|apply qe|apply qf|apply qg|apply qh|apply qi|apply qj|apply qk|apply ql|apply qm|apply qn|apply qo|apply qp|apply qq|refine blockP_ne (by decide) ?_)
         |((with_reducible refine Pwp.reg fun K hK=>?_);simp[he])
         |((with_reducible refine Hid.go hK ?_);clear hK K)|((with_reducible apply Pwp.condG);rfl)|((with_reducible first|apply qqj|apply qqk);simp[he];done)|((with_reducible first|apply qr|apply qs|apply qt|apply qu|apply qv|apply qw)<;>intro h)
         |((with_reducible first|apply qx|apply qy|apply qz|apply qqa|apply qqb|apply qqc)<;>intro h<;>try simp[h, he])
         |((with_reducible refine and_go ?_ fun hs=>?_);focus omega
           try simp[he])
         |((with_reducible first|apply qql|apply qqn|apply qqp);simp[he])
        all_goals (refine endP_ret0 ?_; simp [hv])
      · have hv : styleOk s = false := by simp [styleOk, he]
        repeat' first
         |(with_reducible first|apply qa|apply qb|apply qc|apply qd|apply qe|apply qf|apply qg|apply qh|apply qi|apply qj|apply qk|apply ql|apply qm|apply qn|apply qo|apply qp|apply qq|refine blockP_ne (by decide) ?_)
         |((with_reducible refine Pwp.reg fun K hK=>?_);simp[he])
         |((with_reducible refine Hid.go hK ?_);clear hK K)|((with_reducible apply Pwp.condG);rfl)|((with_reducible first|apply qqj|apply qqk);simp[he];done)|((with_reducible first|apply qr|apply qs|apply qt|apply qu|apply qv|apply qw)<;>intro h)
         |((with_reducible first|apply qx|apply qy|apply qz|apply qqa|apply qqb|apply qqc)<;>intro h<;>try simp[h, he])
         |((with_reducible refine and_go ?_ fun hs=>?_);focus omega
           try simp[he])
         |((with_reducible first|apply qql|apply qqn|apply qqp);simp[he])
        all_goals (refine endP_ret0 ?_; simp [errIf, hv])
end Go.Pv

set_option linter.unusedVariables false
set_option linter.unusedSimpArgs false
set_option maxRecDepth 100000
namespace Go.Pv
open Go Go.Proofs

theorem ent69 : enters Tryz.prog 69 = true := by kernel_rfl
theorem runs69 (A : Key) (a b : Node) (hl : a.far.length < 4611686018427387904) : Runs Tryz.prog A 69 [a.pv, b.pv] [] (.bool (decide (a = b))) [] := by
  refine Runs.body (rs := [.tmp 4]) ent69 Tryz.func69 rfl Tryz.ntmps69 rfl (fun x h => by cases h) ?_
  repeat' first
   |(with_reducible first|apply qa|apply qb|apply qc|apply qd|apply qe|apply qf|apply qg|apply qh|apply qi|apply qj|apply qk|apply ql|apply qm|apply qn|apply qo|apply qp|apply qq|refine blockP_ne (by decide) ?_)
   |((with_reducible refine Pwp.reg fun K hK=>?_);simp[*])
   |((with_reducible refine Hid.go hK ?_);clear hK K)|((with_reducible apply Pwp.condG);rfl)|((with_reducible first|apply qqj|apply qqk);simp[*];done)|((with_reducible first|apply qr|apply qs|apply qt|apply qu|apply qv|apply qw)<;>intro h)
   |((with_reducible first|apply qx|apply qy|apply qz|apply qqa|apply qqb|apply qqc)<;>intro h<;>try simp[h, *])
   |((with_reducible refine and_go ?_ fun hs=>?_);focus omega
     try simp[*])
   |((with_reducible first|apply qql|apply qqn|apply qqp);simp[*])
  all_goals try (refine endP_ret0 ?_; simp [Node.eq_iff, *]; done)
  refine vcallk_pure (runs105 _ a.far b.far hl) ?_
  repeat' first
   |(with_reducible first|apply qa|apply qb|apply qc|apply qd|apply qe|apply qf|apply qg|apply qh|apply qi|apply qj|apply qk|apply ql|apply qm|apply qn|apply qo|apply qp|apply qq|refine blockP_ne (by decide) ?_)
   |((with_reducible refine Pwp.reg fun K hK=>?_);simp[*])
   |((with_reducible refine Hid.go hK ?_);clear hK K)|((with_reducible apply Pwp.condG);rfl)|((with_reducible first|apply qqj|apply qqk);simp[*];done)|((with_reducible first|apply qr|apply qs|apply qt|apply qu|apply qv|apply qw)<;>intro h)
   |((with_reducible first|apply qx|apply qy|apply qz|apply qqa|apply qqb|apply qqc)<;>intro h<;>try simp[h, *])
   |((with_reducible refine and_go ?_ fun hs=>?_);focus omega
     try simp[*])
   |((with_reducible first|apply qql|apply qqn|apply qqp);simp[*])
  all_goals (refine endP_ret0 ?_; simp [Node.eq_iff, *])

@[simp] def zVec : Vec := ⟨0, 0, 0⟩
@[simp] def zMat : Mat := ⟨0, 0, 0, 0, 0, 0, 0, 0, 0, ⟨0, 0, 0⟩⟩
def plainN (n : Node) : Node :=
  { kind := n.kind, mat := if n.kind = 2 then n.mat else zMat, on := if n.kind = 3 then n.on else 0, center := if n.kind = 4 then n.center else zVec
    far := if n.kind = 4 then n.far else [], mesh := if n.kind = 5 then n.mesh else 0, style := n.style }
def plainOk (n : Node) : Bool := if n.kind = 1 then true else if n.kind = 2 then matOk n.mat else if n.kind = 3 then true else if n.kind = 4 then vecOk n.center && farOk n.far else decide (n.kind = 5)

set_option maxHeartbeats 4000000
theorem ent152 : enters Tryz.prog 152 = true := by kernel_rfl
theorem runs152 (A : Key) (n : Node) (hl : n.far.length < 4611686018427387904) : Runs Tryz.prog A 152 [n.pv] [] (.tup [(plainN n).pv, .bool (plainOk n)]) [] := by
  by_cases k1 : n.kind = 1
  · have hp : plainN n = ⟨1, zMat, 0, zVec, [], 0, n.style⟩ := by simp [plainN, k1]
    have hq : plainOk n = true := by simp [plainOk, k1]
    rw [hp, hq]
    refine Runs.body (rs := [.cell 2 51, .tmp 3]) ent152 Tryz.func152 rfl Tryz.ntmps152 rfl (fun x h => by cases h) ?_
    repeat' first
     |(with_reducible first|apply qa|apply qb|apply qc|apply qd|apply qe|apply qf|apply qg|apply qh|apply qi|apply qj|apply qk|apply ql|apply qm|apply qn|apply qo|apply qp|apply qq|refine blockP_ne (by decide) ?_)
     |((with_reducible refine Pwp.reg fun K hK=>?_);simp[k1])
     |((with_reducible refine Pwp.drawn (id := 7) follows_mixed [0, 0, 2, 6, 14, 15, 63] [false, false, false, false, false, true, false] ?_ fun K hK => ?_); focus kernel_rfl
       simp [k1])
     |((with_reducible refine Pwp.drawnOw (id := 12) follows_mixed [0, 1, 0, 4, 3, 19, 63, 127] [false, false, false, false, false, false, false, true] (8 :: A) 5 (by simp [St.find]) ?_ fun K hK => ?_); focus kernel_rfl
       simp [k1])
     |((with_reducible refine Pwp.drawn (id := 13) follows_mixed [0, 0, 2, 6, 14, 30, 62, 126, 254, 510, 511, 2047] [false, false, false, false, false, false, false, false, false, false, true, false] ?_ fun K hK => ?_); focus kernel_rfl
       simp [k1])
     |((with_reducible refine Hid.go hK ?_);clear hK K)|((with_reducible apply Pwp.condG);rfl)|((with_reducible first|apply qqj|apply qqk);simp[k1];done)|((with_reducible first|apply qr|apply qs|apply qt|apply qu|apply qv|apply qw)<;>intro h)
     |((with_reducible first|apply qx|apply qy|apply qz|apply qqa|apply qqb|apply qqc|apply qqd|apply qqe|apply qqf|apply qqg|apply qqh|apply qqi)<;>intro h<;>try simp[h, k1])
     |((with_reducible refine and_go ?_ fun hs=>?_);focus omega
       try simp[k1])
     |((with_reducible first|apply qql|apply qqn|apply qqp|apply qqm|apply qqo|apply qqq);simp[k1])
    refine endP_mem (by first | exact .inl rfl | exact .inr rfl) [] [(1 :: A, .row 33 [Node.pv ⟨1, zMat, 0, zVec, [], 0, n.style⟩])] ?_ ?_ ?_ ?_
    · repeat' first | exact Sub.nil _ | refine Sub.cons (by simp [St.find]) ?_
    · repeat' first | exact StLe.nil | (apply StLe.cons; (focus (simp [St.find]; done)))
      all_goals try ((((repeat' first | exact St.find_hd _ _ _ | (apply St.find_tl; (focus (first | assumption | (simp; done) | (simp [*]; done))))); done)); done)
      all_goals first | exact ObLe.refl _ | (refine ObLe.of_eq ?_; simp [*]; done) | (refine ObLe.row _ _ _ (ELe.one ?_ ?_); (focus (simp; done)))
      all_goals repeat' first | exact VLeL.nil | refine VLeL.cons ?_ ?_
      all_goals first | exact VLe.refl _ | exact VLe.cap _ _ | exact VLe.any _ | (apply VLe.row (h := ELe.refl _); (focus (((repeat' first | exact St.find_hd _ _ _ | (apply St.find_tl; (focus (first | assumption | (simp; done) | (simp [*]; done))))); done))); (simp [*]; done)) | (refine VLe.of_eq ?_; simp [*]; done)
    · simp [*]
    · repeat' first | exact Sub.nil _ | refine Sub.cons (by simp [St.find]) ?_
  by_cases k2 : n.kind = 2
  · have hp : plainN n = ⟨2, n.mat, 0, zVec, [], 0, n.style⟩ := by simp [plainN, k2]
    have hq : plainOk n = matOk n.mat := by simp [plainOk, k2]
    rw [hp, hq]
    refine Runs.body (rs := [.cell 2 51, .tmp 3]) ent152 Tryz.func152 rfl Tryz.ntmps152 rfl (fun x h => by cases h) ?_
    repeat' first
     |(with_reducible first|apply qa|apply qb|apply qc|apply qd|apply qe|apply qf|apply qg|apply qh|apply qi|apply qj|apply qk|apply ql|apply qm|apply qn|apply qo|apply qp|apply qq|refine blockP_ne (by decide) ?_)
     |((with_reducible refine Pwp.reg fun K hK=>?_);simp[k1, k2])
     |((with_reducible refine Pwp.drawn (id := 7) follows_mixed [0, 0, 2, 6, 14, 15, 63] [false, false, false, false, false, true, false] ?_ fun K hK => ?_); focus kernel_rfl
       simp [k1, k2])
     |((with_reducible refine Pwp.drawnOw (id := 12) follows_mixed [0, 1, 0, 4, 3, 19, 63, 127] [false, false, false, false, false, false, false, true] (8 :: A) 5 (by simp [St.find]) ?_ fun K hK => ?_); focus kernel_rfl
       simp [k1, k2])
     |((with_reducible refine Pwp.drawn (id := 13) follows_mixed [0, 0, 2, 6, 14, 30, 62, 126, 254, 510, 511, 2047] [false, false, false, false, false, false, false, false, false, false, true, false] ?_ fun K hK => ?_); focus kernel_rfl
       simp [k1, k2])
     |((with_reducible refine Hid.go hK ?_);clear hK K)|((with_reducible apply Pwp.condG);rfl)|((with_reducible first|apply qqj|apply qqk);simp[k1, k2];done)|((with_reducible first|apply qr|apply qs|apply qt|apply qu|apply qv|apply qw)<;>intro h)
     |((with_reducible first|apply qx|apply qy|apply qz|apply qqa|apply qqb|apply qqc|apply qqd|apply qqe|apply qqf|apply qqg|apply qqh|apply qqi)<;>intro h<;>try simp[h, k1, k2])
     |((with_reducible refine and_go ?_ fun hs=>?_);focus omega
       try simp[k1, k2])
     |((with_reducible first|apply qql|apply qqn|apply qqp|apply qqm|apply qqo|apply qqq);simp[k1, k2])
    refine dcallk_pure (runs244 _ n.mat) ?_
    cases hm : matOk n.mat with
    | false =>
      repeat' first
       |(with_reducible first|apply qa|apply qb|apply qc|apply qd|apply qe|apply qf|apply qg|apply qh|apply qi|apply qj|apply qk|apply ql|apply qm|apply qn|apply qo|apply qp|apply qq|refine blockP_ne (by decide) ?_)
       |((with_reducible refine Pwp.reg fun K hK=>?_);simp[k1, k2, hm])
       |((with_reducible refine Pwp.drawn (id := 7) follows_mixed [0, 0, 2, 6, 14, 15, 63] [false, false, false, false, false, true, false] ?_ fun K hK => ?_); focus kernel_rfl
         simp [k1, k2, hm])
       |((with_reducible refine Pwp.drawnOw (id := 12) follows_mixed [0, 1, 0, 4, 3, 19, 63, 127] [false, false, false, false, false, false, false, true] (8 :: A) 5 (by simp [St.find]) ?_ fun K hK => ?_); focus kernel_rfl
         simp [k1, k2, hm])
       |((with_reducible refine Pwp.drawn (id := 13) follows_mixed [0, 0, 2, 6, 14, 30, 62, 126, 254, 510, 511, 2047] [false, false, false, false, false, false, false, false, false, false, true, false] ?_ fun K hK => ?_); focus kernel_rfl
         simp [k1, k2, hm])
       |((with_reducible refine Hid.go hK ?_);clear hK K)|((with_reducible apply Pwp.condG);rfl)|((with_reducible first|apply qqj|apply qqk);simp[k1, k2, hm];done)|((with_reducible first|apply qr|apply qs|apply qt|apply qu|apply qv|apply qw)<;>intro h)
       |((with_reducible first|apply qx|apply qy|apply qz|apply qqa|apply qqb|apply qqc|apply qqd|apply qqe|apply qqf|apply qqg|apply qqh|apply qqi)<;>intro h<;>try simp[h, k1, k2, hm])
       |((with_reducible refine and_go ?_ fun hs=>?_);focus omega
         try simp[k1, k2, hm])
       |((with_reducible first|apply qql|apply qqn|apply qqp|apply qqm|apply qqo|apply qqq);simp[k1, k2, hm])
      refine endP_mem (by first | exact .inl rfl | exact .inr rfl) [] [(1 :: A, .row 33 [Node.pv ⟨2, n.mat, 0, zVec, [], 0, n.style⟩])] ?_ ?_ ?_ ?_
      · repeat' first | exact Sub.nil _ | refine Sub.cons (by simp [St.find]) ?_
      · repeat' first | exact StLe.nil | (apply StLe.cons; (focus (simp [St.find]; done)))
        all_goals try ((((repeat' first | exact St.find_hd _ _ _ | (apply St.find_tl; (focus (first | assumption | (simp; done) | (simp [*]; done))))); done)); done)
        all_goals first | exact ObLe.refl _ | (refine ObLe.of_eq ?_; simp [*]; done) | (refine ObLe.row _ _ _ (ELe.one ?_ ?_); (focus (simp; done)))
        all_goals repeat' first | exact VLeL.nil | refine VLeL.cons ?_ ?_
        all_goals first | exact VLe.refl _ | exact VLe.cap _ _ | exact VLe.any _ | (apply VLe.row (h := ELe.refl _); (focus (((repeat' first | exact St.find_hd _ _ _ | (apply St.find_tl; (focus (first | assumption | (simp; done) | (simp [*]; done))))); done))); (simp [*]; done)) | (refine VLe.of_eq ?_; simp [*]; done)
      · simp [*]
      · repeat' first | exact Sub.nil _ | refine Sub.cons (by simp [St.find]) ?_
    | true =>
      repeat' first
       |(with_reducible first|apply qa|apply qb|apply qc|apply qd|apply qe|apply qf|apply qg|apply qh|apply qi|apply qj|apply qk|apply ql|apply qm|apply qn|apply qo|apply qp|apply qq|refine blockP_ne (by decide) ?_)
       |((with_reducible refine Pwp.reg fun K hK=>?_);simp[k1, k2, hm])
       |((with_reducible refine Pwp.drawn (id := 7) follows_mixed [0, 0, 2, 6, 14, 15, 63] [false, false, false, false, false, true, false] ?_ fun K hK => ?_); focus kernel_rfl
         simp [k1, k2, hm])
       |((with_reducible refine Pwp.drawnOw (id := 12) follows_mixed [0, 1, 0, 4, 3, 19, 63, 127] [false, false, false, false, false, false, false, true] (8 :: A) 5 (by simp [St.find]) ?_ fun K hK => ?_); focus kernel_rfl
         simp [k1, k2, hm])
       |((with_reducible refine Pwp.drawn (id := 13) follows_mixed [0, 0, 2, 6, 14, 30, 62, 126, 254, 510, 511, 2047] [false, false, false, false, false, false, false, false, false, false, true, false] ?_ fun K hK => ?_); focus kernel_rfl
         simp [k1, k2, hm])
       |((with_reducible refine Hid.go hK ?_);clear hK K)|((with_reducible apply Pwp.condG);rfl)|((with_reducible first|apply qqj|apply qqk);simp[k1, k2, hm];done)|((with_reducible first|apply qr|apply qs|apply qt|apply qu|apply qv|apply qw)<;>intro h)
       |((with_reducible first|apply qx|apply qy|apply qz|apply qqa|apply qqb|apply qqc|apply qqd|apply qqe|apply qqf|apply qqg|apply qqh|apply qqi)<;>intro h<;>try simp[h, k1, k2, hm])
       |((with_reducible refine and_go ?_ fun hs=>?_);focus omega
         try simp[k1, k2, hm])
       |((with_reducible first|apply qql|apply qqn|apply qqp|apply qqm|apply qqo|apply qqq);simp[k1, k2, hm])
      refine endP_mem (by first | exact .inl rfl | exact .inr rfl) [] [(1 :: A, .row 33 [Node.pv ⟨2, n.mat, 0, zVec, [], 0, n.style⟩])] ?_ ?_ ?_ ?_
      · repeat' first | exact Sub.nil _ | refine Sub.cons (by simp [St.find]) ?_
      · repeat' first | exact StLe.nil | (apply StLe.cons; (focus (simp [St.find]; done)))
        all_goals try ((((repeat' first | exact St.find_hd _ _ _ | (apply St.find_tl; (focus (first | assumption | (simp; done) | (simp [*]; done))))); done)); done)
        all_goals first | exact ObLe.refl _ | (refine ObLe.of_eq ?_; simp [*]; done) | (refine ObLe.row _ _ _ (ELe.one ?_ ?_); (focus (simp; done)))
        all_goals repeat' first | exact VLeL.nil | refine VLeL.cons ?_ ?_
        all_goals first | exact VLe.refl _ | exact VLe.cap _ _ | exact VLe.any _ | (apply VLe.row (h := ELe.refl _); (focus (((repeat' first | exact St.find_hd _ _ _ | (apply St.find_tl; (focus (first | assumption | (simp; done) | (simp [*]; done))))); done))); (simp [*]; done)) | (refine VLe.of_eq ?_; simp [*]; done)
      · simp [*]
      · repeat' first | exact Sub.nil _ | refine Sub.cons (by simp [St.find]) ?_
  by_cases k3 : n.kind = 3
  · have hp : plainN n = ⟨3, zMat, n.on, zVec, [], 0, n.style⟩ := by simp [plainN, k3]
    have hq : plainOk n = true := by simp [plainOk, k3]
    rw [hp, hq]
    refine Runs.body (rs := [.cell 2 51, .tmp 3]) ent152 Tryz.func152 rfl Tryz.ntmps152 rfl (fun x h => by cases h) ?_
    repeat' first
     |(with_reducible first|apply qa|apply qb|apply qc|apply qd|apply qe|apply qf|apply qg|apply qh|apply qi|apply qj|apply qk|apply ql|apply qm|apply qn|apply qo|apply qp|apply qq|refine blockP_ne (by decide) ?_)
     |((with_reducible refine Pwp.reg fun K hK=>?_);simp[k1, k2, k3])
     |((with_reducible refine Pwp.drawn (id := 7) follows_mixed [0, 0, 2, 6, 14, 15, 63] [false, false, false, false, false, true, false] ?_ fun K hK => ?_); focus kernel_rfl
       simp [k1, k2, k3])
     |((with_reducible refine Pwp.drawnOw (id := 12) follows_mixed [0, 1, 0, 4, 3, 19, 63, 127] [false, false, false, false, false, false, false, true] (8 :: A) 5 (by simp [St.find]) ?_ fun K hK => ?_); focus kernel_rfl
       simp [k1, k2, k3])
     |((with_reducible refine Pwp.drawn (id := 13) follows_mixed [0, 0, 2, 6, 14, 30, 62, 126, 254, 510, 511, 2047] [false, false, false, false, false, false, false, false, false, false, true, false] ?_ fun K hK => ?_); focus kernel_rfl
       simp [k1, k2, k3])
     |((with_reducible refine Hid.go hK ?_);clear hK K)|((with_reducible apply Pwp.condG);rfl)|((with_reducible first|apply qqj|apply qqk);simp[k1, k2, k3];done)|((with_reducible first|apply qr|apply qs|apply qt|apply qu|apply qv|apply qw)<;>intro h)
     |((with_reducible first|apply qx|apply qy|apply qz|apply qqa|apply qqb|apply qqc|apply qqd|apply qqe|apply qqf|apply qqg|apply qqh|apply qqi)<;>intro h<;>try simp[h, k1, k2, k3])
     |((with_reducible refine and_go ?_ fun hs=>?_);focus omega
       try simp[k1, k2, k3])
     |((with_reducible first|apply qql|apply qqn|apply qqp|apply qqm|apply qqo|apply qqq);simp[k1, k2, k3])
    refine endP_mem (by first | exact .inl rfl | exact .inr rfl) [] [(1 :: A, .row 33 [Node.pv ⟨3, zMat, n.on, zVec, [], 0, n.style⟩])] ?_ ?_ ?_ ?_
    · repeat' first | exact Sub.nil _ | refine Sub.cons (by simp [St.find]) ?_
    · repeat' first | exact StLe.nil | (apply StLe.cons; (focus (simp [St.find]; done)))
      all_goals try ((((repeat' first | exact St.find_hd _ _ _ | (apply St.find_tl; (focus (first | assumption | (simp; done) | (simp [*]; done))))); done)); done)
      all_goals first | exact ObLe.refl _ | (refine ObLe.of_eq ?_; simp [*]; done) | (refine ObLe.row _ _ _ (ELe.one ?_ ?_); (focus (simp; done)))
      all_goals repeat' first | exact VLeL.nil | refine VLeL.cons ?_ ?_
      all_goals first | exact VLe.refl _ | exact VLe.cap _ _ | exact VLe.any _ | (apply VLe.row (h := ELe.refl _); (focus (((repeat' first | exact St.find_hd _ _ _ | (apply St.find_tl; (focus (first | assumption | (simp; done) | (simp [*]; done))))); done))); (simp [*]; done)) | (refine VLe.of_eq ?_; simp [*]; done)
    · simp [*]
    · repeat' first | exact Sub.nil _ | refine Sub.cons (by simp [St.find]) ?_
  by_cases k4 : n.kind = 4
  · have hp : plainN n = ⟨4, zMat, 0, n.center, n.far, 0, n.style⟩ := by simp [plainN, k4]
    have hq : plainOk n = (vecOk n.center && farOk n.far) := by simp [plainOk, k4]
    rw [hp, hq]
    refine Runs.body (rs := [.cell 2 51, .tmp 3]) ent152 Tryz.func152 rfl Tryz.ntmps152 rfl (fun x h => by cases h) ?_
    repeat' first
     |(with_reducible first|apply qa|apply qb|apply qc|apply qd|apply qe|apply qf|apply qg|apply qh|apply qi|apply qj|apply qk|apply ql|apply qm|apply qn|apply qo|apply qp|apply qq|refine blockP_ne (by decide) ?_)
     |((with_reducible refine Pwp.reg fun K hK=>?_);simp[k1, k2, k3, k4])
     |((with_reducible refine Pwp.drawn (id := 7) follows_mixed [0, 0, 2, 6, 14, 15, 63] [false, false, false, false, false, true, false] ?_ fun K hK => ?_); focus kernel_rfl
       simp [k1, k2, k3, k4])
     |((with_reducible refine Pwp.drawnOw (id := 12) follows_mixed [0, 1, 0, 4, 3, 19, 63, 127] [false, false, false, false, false, false, false, true] (8 :: A) 5 (by simp [St.find]) ?_ fun K hK => ?_); focus kernel_rfl
       simp [k1, k2, k3, k4])
     |((with_reducible refine Pwp.drawn (id := 13) follows_mixed [0, 0, 2, 6, 14, 30, 62, 126, 254, 510, 511, 2047] [false, false, false, false, false, false, false, false, false, false, true, false] ?_ fun K hK => ?_); focus kernel_rfl
       simp [k1, k2, k3, k4])
     |((with_reducible refine Hid.go hK ?_);clear hK K)|((with_reducible apply Pwp.condG);rfl)|((with_reducible first|apply qqj|apply qqk);simp[k1, k2, k3, k4];done)|((with_reducible first|apply qr|apply qs|apply qt|apply qu|apply qv|apply qw)<;>intro h)
     |((with_reducible first|apply qx|apply qy|apply qz|apply qqa|apply qqb|apply qqc|apply qqd|apply qqe|apply qqf|apply qqg|apply qqh|apply qqi)<;>intro h<;>try simp[h, k1, k2, k3, k4])
     |((with_reducible refine and_go ?_ fun hs=>?_);focus omega
       try simp[k1, k2, k3, k4])
     |((with_reducible first|apply qql|apply qqn|apply qqp|apply qqm|apply qqo|apply qqq);simp[k1, k2, k3, k4])
    refine dcallk_pure (runs245 _ n.center) ?_
    cases hv : vecOk n.center with
    | false =>
      repeat' first
       |(with_reducible first|apply qa|apply qb|apply qc|apply qd|apply qe|apply qf|apply qg|apply qh|apply qi|apply qj|apply qk|apply ql|apply qm|apply qn|apply qo|apply qp|apply qq|refine blockP_ne (by decide) ?_)
       |((with_reducible refine Pwp.reg fun K hK=>?_);simp[k1, k2, k3, k4, hv])
       |((with_reducible refine Pwp.drawn (id := 7) follows_mixed [0, 0, 2, 6, 14, 15, 63] [false, false, false, false, false, true, false] ?_ fun K hK => ?_); focus kernel_rfl
         simp [k1, k2, k3, k4, hv])
       |((with_reducible refine Pwp.drawnOw (id := 12) follows_mixed [0, 1, 0, 4, 3, 19, 63, 127] [false, false, false, false, false, false, false, true] (8 :: A) 5 (by simp [St.find]) ?_ fun K hK => ?_); focus kernel_rfl
         simp [k1, k2, k3, k4, hv])
       |((with_reducible refine Pwp.drawn (id := 13) follows_mixed [0, 0, 2, 6, 14, 30, 62, 126, 254, 510, 511, 2047] [false, false, false, false, false, false, false, false, false, false, true, false] ?_ fun K hK => ?_); focus kernel_rfl
         simp [k1, k2, k3, k4, hv])
       |((with_reducible refine Hid.go hK ?_);clear hK K)|((with_reducible apply Pwp.condG);rfl)|((with_reducible first|apply qqj|apply qqk);simp[k1, k2, k3, k4, hv];done)|((with_reducible first|apply qr|apply qs|apply qt|apply qu|apply qv|apply qw)<;>intro h)
       |((with_reducible first|apply qx|apply qy|apply qz|apply qqa|apply qqb|apply qqc|apply qqd|apply qqe|apply qqf|apply qqg|apply qqh|apply qqi)<;>intro h<;>try simp[h, k1, k2, k3, k4, hv])
       |((with_reducible refine and_go ?_ fun hs=>?_);focus omega
         try simp[k1, k2, k3, k4, hv])
       |((with_reducible first|apply qql|apply qqn|apply qqp|apply qqm|apply qqo|apply qqq);simp[k1, k2, k3, k4, hv])
    | true =>
      repeat' first
       |(with_reducible first|apply qa|apply qb|apply qc|apply qd|apply qe|apply qf|apply qg|apply qh|apply qi|apply qj|apply qk|apply ql|apply qm|apply qn|apply qo|apply qp|apply qq|refine blockP_ne (by decide) ?_)
       |((with_reducible refine Pwp.reg fun K hK=>?_);simp[k1, k2, k3, k4, hv])
       |((with_reducible refine Pwp.drawn (id := 7) follows_mixed [0, 0, 2, 6, 14, 15, 63] [false, false, false, false, false, true, false] ?_ fun K hK => ?_); focus kernel_rfl
         simp [k1, k2, k3, k4, hv])
       |((with_reducible refine Pwp.drawnOw (id := 12) follows_mixed [0, 1, 0, 4, 3, 19, 63, 127] [false, false, false, false, false, false, false, true] (8 :: A) 5 (by simp [St.find]) ?_ fun K hK => ?_); focus kernel_rfl
         simp [k1, k2, k3, k4, hv])
       |((with_reducible refine Pwp.drawn (id := 13) follows_mixed [0, 0, 2, 6, 14, 30, 62, 126, 254, 510, 511, 2047] [false, false, false, false, false, false, false, false, false, false, true, false] ?_ fun K hK => ?_); focus kernel_rfl
         simp [k1, k2, k3, k4, hv])
       |((with_reducible refine Hid.go hK ?_);clear hK K)|((with_reducible apply Pwp.condG);rfl)|((with_reducible first|apply qqj|apply qqk);simp[k1, k2, k3, k4, hv];done)|((with_reducible first|apply qr|apply qs|apply qt|apply qu|apply qv|apply qw)<;>intro h)
       |((with_reducible first|apply qx|apply qy|apply qz|apply qqa|apply qqb|apply qqc|apply qqd|apply qqe|apply qqf|apply qqg|apply qqh|apply qqi)<;>intro h<;>try simp[h, k1, k2, k3, k4, hv])
       |((with_reducible refine and_go ?_ fun hs=>?_);focus omega
         try simp[k1, k2, k3, k4, hv])
       |((with_reducible first|apply qql|apply qqn|apply qqp|apply qqm|apply qqo|apply qqq);simp[k1, k2, k3, k4, hv])
      refine dcallk_pure (runs246 _ n.far hl) ?_
      repeat' first
       |(with_reducible first|apply qa|apply qb|apply qc|apply qd|apply qe|apply qf|apply qg|apply qh|apply qi|apply qj|apply qk|apply ql|apply qm|apply qn|apply qo|apply qp|apply qq|refine blockP_ne (by decide) ?_)
       |((with_reducible refine Pwp.reg fun K hK=>?_);simp[k1, k2, k3, k4, hv])
       |((with_reducible refine Pwp.drawn (id := 7) follows_mixed [0, 0, 2, 6, 14, 15, 63] [false, false, false, false, false, true, false] ?_ fun K hK => ?_); focus kernel_rfl
         simp [k1, k2, k3, k4, hv])
       |((with_reducible refine Pwp.drawnOw (id := 12) follows_mixed [0, 1, 0, 4, 3, 19, 63, 127] [false, false, false, false, false, false, false, true] (8 :: A) 5 (by simp [St.find]) ?_ fun K hK => ?_); focus kernel_rfl
         simp [k1, k2, k3, k4, hv])
       |((with_reducible refine Pwp.drawn (id := 13) follows_mixed [0, 0, 2, 6, 14, 30, 62, 126, 254, 510, 511, 2047] [false, false, false, false, false, false, false, false, false, false, true, false] ?_ fun K hK => ?_); focus kernel_rfl
         simp [k1, k2, k3, k4, hv])
       |((with_reducible refine Hid.go hK ?_);clear hK K)|((with_reducible apply Pwp.condG);rfl)|((with_reducible first|apply qqj|apply qqk);simp[k1, k2, k3, k4, hv];done)|((with_reducible first|apply qr|apply qs|apply qt|apply qu|apply qv|apply qw)<;>intro h)
       |((with_reducible first|apply qx|apply qy|apply qz|apply qqa|apply qqb|apply qqc|apply qqd|apply qqe|apply qqf|apply qqg|apply qqh|apply qqi)<;>intro h<;>try simp[h, k1, k2, k3, k4, hv])
       |((with_reducible refine and_go ?_ fun hs=>?_);focus omega
         try simp[k1, k2, k3, k4, hv])
       |((with_reducible first|apply qql|apply qqn|apply qqp|apply qqm|apply qqo|apply qqq);simp[k1, k2, k3, k4, hv])
  by_cases k5 : n.kind = 5
  · have hp : plainN n = ⟨5, zMat, 0, zVec, [], n.mesh, n.style⟩ := by simp [plainN, k5]
    have hq : plainOk n = true := by simp [plainOk, k5]
    rw [hp, hq]
    refine Runs.body (rs := [.cell 2 51, .tmp 3]) ent152 Tryz.func152 rfl Tryz.ntmps152 rfl (fun x h => by cases h) ?_
    repeat' first
     |(with_reducible first|apply qa|apply qb|apply qc|apply qd|apply qe|apply qf|apply qg|apply qh|apply qi|apply qj|apply qk|apply ql|apply qm|apply qn|apply qo|apply qp|apply qq|refine blockP_ne (by decide) ?_)
     |((with_reducible refine Pwp.reg fun K hK=>?_);simp[k1, k2, k3, k4, k5])
     |((with_reducible refine Pwp.drawn (id := 7) follows_mixed [0, 0, 2, 6, 14, 15, 63] [false, false, false, false, false, true, false] ?_ fun K hK => ?_); focus kernel_rfl
       simp [k1, k2, k3, k4, k5])
     |((with_reducible refine Pwp.drawnOw (id := 12) follows_mixed [0, 1, 0, 4, 3, 19, 63, 127] [false, false, false, false, false, false, false, true] (8 :: A) 5 (by simp [St.find]) ?_ fun K hK => ?_); focus kernel_rfl
       simp [k1, k2, k3, k4, k5])
     |((with_reducible refine Pwp.drawn (id := 13) follows_mixed [0, 0, 2, 6, 14, 30, 62, 126, 254, 510, 511, 2047] [false, false, false, false, false, false, false, false, false, false, true, false] ?_ fun K hK => ?_); focus kernel_rfl
       simp [k1, k2, k3, k4, k5])
     |((with_reducible refine Hid.go hK ?_);clear hK K)|((with_reducible apply Pwp.condG);rfl)|((with_reducible first|apply qqj|apply qqk);simp[k1, k2, k3, k4, k5];done)|((with_reducible first|apply qr|apply qs|apply qt|apply qu|apply qv|apply qw)<;>intro h)
     |((with_reducible first|apply qx|apply qy|apply qz|apply qqa|apply qqb|apply qqc|apply qqd|apply qqe|apply qqf|apply qqg|apply qqh|apply qqi)<;>intro h<;>try simp[h, k1, k2, k3, k4, k5])
     |((with_reducible refine and_go ?_ fun hs=>?_);focus omega
       try simp[k1, k2, k3, k4, k5])
     |((with_reducible first|apply qql|apply qqn|apply qqp|apply qqm|apply qqo|apply qqq);simp[k1, k2, k3, k4, k5])
    refine endP_mem (by first | exact .inl rfl | exact .inr rfl) [] [(1 :: A, .row 33 [Node.pv ⟨5, zMat, 0, zVec, [], n.mesh, n.style⟩])] ?_ ?_ ?_ ?_
    · repeat' first | exact Sub.nil _ | refine Sub.cons (by simp [St.find]) ?_
    · repeat' first | exact StLe.nil | (apply StLe.cons; (focus (simp [St.find]; done)))
      all_goals try ((((repeat' first | exact St.find_hd _ _ _ | (apply St.find_tl; (focus (first | assumption | (simp; done) | (simp [*]; done))))); done)); done)
      all_goals first | exact ObLe.refl _ | (refine ObLe.of_eq ?_; simp [*]; done) | (refine ObLe.row _ _ _ (ELe.one ?_ ?_); (focus (simp; done)))
      all_goals repeat' first | exact VLeL.nil | refine VLeL.cons ?_ ?_
      all_goals first | exact VLe.refl _ | exact VLe.cap _ _ | exact VLe.any _ | (apply VLe.row (h := ELe.refl _); (focus (((repeat' first | exact St.find_hd _ _ _ | (apply St.find_tl; (focus (first | assumption | (simp; done) | (simp [*]; done))))); done))); (simp [*]; done)) | (refine VLe.of_eq ?_; simp [*]; done)
    · simp [*]
    · repeat' first | exact Sub.nil _ | refine Sub.cons (by simp [St.find]) ?_
  · have hp : plainN n = ⟨n.kind, zMat, 0, zVec, [], 0, n.style⟩ := by simp [plainN, *]
    have hq : plainOk n = false := by simp [plainOk, *]
    rw [hp, hq]
    refine Runs.body (rs := [.cell 2 51, .tmp 3]) ent152 Tryz.func152 rfl Tryz.ntmps152 rfl (fun x h => by cases h) ?_
    repeat' first
     |(with_reducible first|apply qa|apply qb|apply qc|apply qd|apply qe|apply qf|apply qg|apply qh|apply qi|apply qj|apply qk|apply ql|apply qm|apply qn|apply qo|apply qp|apply qq|refine blockP_ne (by decide) ?_)
     |((with_reducible refine Pwp.reg fun K hK=>?_);simp[k1, k2, k3, k4, k5])
     |((with_reducible refine Pwp.drawn (id := 7) follows_mixed [0, 0, 2, 6, 14, 15, 63] [false, false, false, false, false, true, false] ?_ fun K hK => ?_); focus kernel_rfl
       simp [k1, k2, k3, k4, k5])
     |((with_reducible refine Pwp.drawnOw (id := 12) follows_mixed [0, 1, 0, 4, 3, 19, 63, 127] [false, false, false, false, false, false, false, true] (8 :: A) 5 (by simp [St.find]) ?_ fun K hK => ?_); focus kernel_rfl
       simp [k1, k2, k3, k4, k5])
     |((with_reducible refine Pwp.drawn (id := 13) follows_mixed [0, 0, 2, 6, 14, 30, 62, 126, 254, 510, 511, 2047] [false, false, false, false, false, false, false, false, false, false, true, false] ?_ fun K hK => ?_); focus kernel_rfl
       simp [k1, k2, k3, k4, k5])
     |((with_reducible refine Hid.go hK ?_);clear hK K)|((with_reducible apply Pwp.condG);rfl)|((with_reducible first|apply qqj|apply qqk);simp[k1, k2, k3, k4, k5];done)|((with_reducible first|apply qr|apply qs|apply qt|apply qu|apply qv|apply qw)<;>intro h)
     |((with_reducible first|apply qx|apply qy|apply qz|apply qqa|apply qqb|apply qqc|apply qqd|apply qqe|apply qqf|apply qqg|apply qqh|apply qqi)<;>intro h<;>try simp[h, k1, k2, k3, k4, k5])
     |((with_reducible refine and_go ?_ fun hs=>?_);focus omega
       try simp[k1, k2, k3, k4, k5])
     |((with_reducible first|apply qql|apply qqn|apply qqp|apply qqm|apply qqo|apply qqq);simp[k1, k2, k3, k4, k5])
    refine endP_mem (by first | exact .inl rfl | exact .inr rfl) [] [(1 :: A, .row 33 [Node.pv ⟨n.kind, zMat, 0, zVec, [], 0, n.style⟩])] ?_ ?_ ?_ ?_
    · repeat' first | exact Sub.nil _ | refine Sub.cons (by simp [St.find]) ?_
    · repeat' first | exact StLe.nil | (apply StLe.cons; (focus (simp [St.find]; done)))
      all_goals try ((((repeat' first | exact St.find_hd _ _ _ | (apply St.find_tl; (focus (first | assumption | (simp; done) | (simp [*]; done))))); done)); done)
      all_goals first | exact ObLe.refl _ | (refine ObLe.of_eq ?_; simp [*]; done) | (refine ObLe.row _ _ _ (ELe.one ?_ ?_); (focus (simp; done)))
      all_goals repeat' first | exact VLeL.nil | refine VLeL.cons ?_ ?_
      all_goals first | exact VLe.refl _ | exact VLe.cap _ _ | exact VLe.any _ | (apply VLe.row (h := ELe.refl _); (focus (((repeat' first | exact St.find_hd _ _ _ | (apply St.find_tl; (focus (first | assumption | (simp; done) | (simp [*]; done))))); done))); (simp [*]; done)) | (refine VLe.of_eq ?_; simp [*]; done)
    · simp [*]
    · repeat' first | exact Sub.nil _ | refine Sub.cons (by simp [St.find]) ?_

def nodeOk (nm nt : Nat) (n : Node) : Bool := plainOk n && (decide (plainN n = n) && (styleOk n.style && (!decide (n.kind = 5 ∧ (n.mesh < 0 ∨ (nm : Int) ≤ n.mesh)) && !decide (n.style.s1 ≠ 0 ∧ (nt : Int) ≤ n.style.look.texture))))

theorem ent70 : enters Tryz.prog 70 = true := by kernel_rfl
theorem runs70 (A : Key) (s : Scene) (n : Node) (hl : n.far.length < 4611686018427387904) : Runs Tryz.prog A 70 [s.pv, n.pv] [] (.int .i64 (errIf (!nodeOk s.meshes.length s.textures.length n))) [] := by
  have hpl : (plainN n).far.length < 4611686018427387904 := by
    simp only [plainN]; split
    · exact hl
    · simp
  refine Runs.body (rs := [.tmp 4]) ent70 Tryz.func70 rfl Tryz.ntmps70 rfl (fun x h => by cases h) ?_
  repeat' first
   |(with_reducible first|apply qa|apply qb|apply qc|apply qd|apply qe|apply qf|apply qg|apply qh|apply qi|apply qj|apply qk|apply ql|apply qm|apply qn|apply qo|apply qp|apply qq|refine blockP_ne (by decide) ?_)
   |((with_reducible refine Pwp.reg fun K hK=>?_);simp[*])
   |((with_reducible refine Hid.go hK ?_);clear hK K)|((with_reducible apply Pwp.condG);rfl)|((with_reducible first|apply qqj|apply qqk);simp[*];done)|((with_reducible first|apply qr|apply qs|apply qt|apply qu|apply qv|apply qw)<;>intro h)
   |((with_reducible first|apply qx|apply qy|apply qz|apply qqa|apply qqb|apply qqc)<;>intro h<;>try simp[h, *])
   |((with_reducible refine and_go ?_ fun hs=>?_);focus omega
     try simp[*])
   |((with_reducible first|apply qql|apply qqn|apply qqp);simp[*])
  refine vcallk_pure (runs152 _ n hl) ?_
  cases h1 : plainOk n with
  | false =>
    have hv : nodeOk s.meshes.length s.textures.length n = false := by simp [nodeOk, h1]
    repeat' first
     |(with_reducible first|apply qa|apply qb|apply qc|apply qd|apply qe|apply qf|apply qg|apply qh|apply qi|apply qj|apply qk|apply ql|apply qm|apply qn|apply qo|apply qp|apply qq|refine blockP_ne (by decide) ?_)
     |((with_reducible refine Pwp.reg fun K hK=>?_);simp[h1])
     |((with_reducible refine Hid.go hK ?_);clear hK K)|((with_reducible apply Pwp.condG);rfl)|((with_reducible first|apply qqj|apply qqk);simp[h1];done)|((with_reducible first|apply qr|apply qs|apply qt|apply qu|apply qv|apply qw)<;>intro h)
     |((with_reducible first|apply qx|apply qy|apply qz|apply qqa|apply qqb|apply qqc)<;>intro h<;>try simp[h, h1])
     |((with_reducible refine and_go ?_ fun hs=>?_);focus omega
       try simp[h1])
     |((with_reducible first|apply qql|apply qqn|apply qqp);simp[h1])
    all_goals (refine endP_ret0 ?_; simp [errIf, hv])
  | true =>
    repeat' first
     |(with_reducible first|apply qa|apply qb|apply qc|apply qd|apply qe|apply qf|apply qg|apply qh|apply qi|apply qj|apply qk|apply ql|apply qm|apply qn|apply qo|apply qp|apply qq|refine blockP_ne (by decide) ?_)
     |((with_reducible refine Pwp.reg fun K hK=>?_);simp[h1])
     |((with_reducible refine Hid.go hK ?_);clear hK K)|((with_reducible apply Pwp.condG);rfl)|((with_reducible first|apply qqj|apply qqk);simp[h1];done)|((with_reducible first|apply qr|apply qs|apply qt|apply qu|apply qv|apply qw)<;>intro h)
     |((with_reducible first|apply qx|apply qy|apply qz|apply qqa|apply qqb|apply qqc)<;>intro h<;>try simp[h, h1])
     |((with_reducible refine and_go ?_ fun hs=>?_);focus omega
       try simp[h1])
     |((with_reducible first|apply qql|apply qqn|apply qqp);simp[h1])
    refine vcallk_pure (runs69 _ (plainN n) n hpl) ?_
    by_cases h2 : plainN n = n
    · repeat' first
       |(with_reducible first|apply qa|apply qb|apply qc|apply qd|apply qe|apply qf|apply qg|apply qh|apply qi|apply qj|apply qk|apply ql|apply qm|apply qn|apply qo|apply qp|apply qq|refine blockP_ne (by decide) ?_)
       |((with_reducible refine Pwp.reg fun K hK=>?_);simp[h1, h2])
       |((with_reducible refine Hid.go hK ?_);clear hK K)|((with_reducible apply Pwp.condG);rfl)|((with_reducible first|apply qqj|apply qqk);simp[h1, h2];done)|((with_reducible first|apply qr|apply qs|apply qt|apply qu|apply qv|apply qw)<;>intro h)
       |((with_reducible first|apply qx|apply qy|apply qz|apply qqa|apply qqb|apply qqc)<;>intro h<;>try simp[h, h1, h2])
       |((with_reducible refine and_go ?_ fun hs=>?_);focus omega
         try simp[h1, h2])
       |((with_reducible first|apply qql|apply qqn|apply qqp);simp[h1, h2])
      refine vcallk_pure (runs153 _ n.style) ?_
      cases h3 : styleOk n.style with
      | false =>
        have hv : nodeOk s.meshes.length s.textures.length n = false := by simp [nodeOk, h3]
        repeat' first
         |(with_reducible first|apply qa|apply qb|apply qc|apply qd|apply qe|apply qf|apply qg|apply qh|apply qi|apply qj|apply qk|apply ql|apply qm|apply qn|apply qo|apply qp|apply qq|refine blockP_ne (by decide) ?_)
         |((with_reducible refine Pwp.reg fun K hK=>?_);simp[h1, h3, errIf])
         |((with_reducible refine Hid.go hK ?_);clear hK K)|((with_reducible apply Pwp.condG);rfl)|((with_reducible first|apply qqj|apply qqk);simp[h1, h3, errIf];done)|((with_reducible first|apply qr|apply qs|apply qt|apply qu|apply qv|apply qw)<;>intro h)
         |((with_reducible first|apply qx|apply qy|apply qz|apply qqa|apply qqb|apply qqc)<;>intro h<;>try simp[h, h1, h3, errIf])
         |((with_reducible refine and_go ?_ fun hs=>?_);focus omega
           try simp[h1, h3, errIf])
         |((with_reducible first|apply qql|apply qqn|apply qqp);simp[h1, h3, errIf])
        all_goals (refine endP_ret0 ?_; simp [errIf, hv])
      | true =>
        by_cases h4 : n.kind = 5 ∧ (n.mesh < 0 ∨ (s.meshes.length : Int) ≤ n.mesh)
        · have hv : nodeOk s.meshes.length s.textures.length n = false := by simp [nodeOk, h4]
          obtain ⟨h5, h6⟩ := h4
          repeat' first
           |(with_reducible first|apply qa|apply qb|apply qc|apply qd|apply qe|apply qf|apply qg|apply qh|apply qi|apply qj|apply qk|apply ql|apply qm|apply qn|apply qo|apply qp|apply qq|refine blockP_ne (by decide) ?_)
           |((with_reducible refine Pwp.reg fun K hK=>?_);simp[h1, h3, h5, errIf])
           |((with_reducible refine Hid.go hK ?_);clear hK K)|((with_reducible apply Pwp.condG);rfl)|((with_reducible first|apply qqj|apply qqk);simp[h1, h3, h5, errIf];done)|((with_reducible first|apply qr|apply qs|apply qt|apply qu|apply qv|apply qw)<;>intro h)
           |((with_reducible first|apply qx|apply qy|apply qz|apply qqa|apply qqb|apply qqc)<;>intro h<;>try simp[h, h1, h3, h5, errIf])
           |((with_reducible refine and_go ?_ fun hs=>?_);focus omega
             try simp[h1, h3, h5, errIf])
           |((with_reducible first|apply qql|apply qqn|apply qqp);simp[h1, h3, h5, errIf])
          all_goals first | (exfalso; omega) | (refine endP_ret0 ?_; simp [errIf, hv])
        · by_cases h5 : n.style.s1 ≠ 0 ∧ (s.textures.length : Int) ≤ n.style.look.texture
          · have hv : nodeOk s.meshes.length s.textures.length n = false := by simp [nodeOk, h5]
            obtain ⟨h6, h7⟩ := h5
            repeat' first
             |(with_reducible first|apply qa|apply qb|apply qc|apply qd|apply qe|apply qf|apply qg|apply qh|apply qi|apply qj|apply qk|apply ql|apply qm|apply qn|apply qo|apply qp|apply qq|refine blockP_ne (by decide) ?_)
             |((with_reducible refine Pwp.reg fun K hK=>?_);simp[h1, h3, h6, h7, errIf])
             |((with_reducible refine Hid.go hK ?_);clear hK K)|((with_reducible apply Pwp.condG);rfl)|((with_reducible first|apply qqj|apply qqk);simp[h1, h3, h6, h7, errIf];done)|((with_reducible first|apply qr|apply qs|apply qt|apply qu|apply qv|apply qw)<;>intro h)
             |((with_reducible first|apply qx|apply qy|apply qz|apply qqa|apply qqb|apply qqc)<;>intro h<;>try simp[h, h1, h3, h6, h7, errIf])
             |((with_reducible refine and_go ?_ fun hs=>?_);focus omega
               try simp[h1, h3, h6, h7, errIf])
             |((with_reducible first|apply qql|apply qqn|apply qqp);simp[h1, h3, h6, h7, errIf])
            all_goals first | (exfalso; omega) | (refine endP_ret0 ?_; simp [errIf, hv])
          · have hv : nodeOk s.meshes.length s.textures.length n = true := by simp only [nodeOk, h1, h2, h3, h4, h5]; simp
            repeat' first
             |(with_reducible first|apply qa|apply qb|apply qc|apply qd|apply qe|apply qf|apply qg|apply qh|apply qi|apply qj|apply qk|apply ql|apply qm|apply qn|apply qo|apply qp|apply qq|refine blockP_ne (by decide) ?_)
             |((with_reducible refine Pwp.reg fun K hK=>?_);simp[h1, h3, errIf])
             |((with_reducible refine Hid.go hK ?_);clear hK K)|((with_reducible apply Pwp.condG);rfl)|((with_reducible first|apply qqj|apply qqk);simp[h1, h3, errIf];done)|((with_reducible first|apply qr|apply qs|apply qt|apply qu|apply qv|apply qw)<;>intro h)
             |((with_reducible first|apply qx|apply qy|apply qz|apply qqa|apply qqb|apply qqc)<;>intro h<;>try simp[h, h1, h3, errIf])
             |((with_reducible refine and_go ?_ fun hs=>?_);focus omega
               try simp[h1, h3, errIf])
             |((with_reducible first|apply qql|apply qqn|apply qqp);simp[h1, h3, errIf])
            all_goals first | (exfalso; omega) | (refine endP_ret0 ?_; simp [errIf, hv])
    · have hv : nodeOk s.meshes.length s.textures.length n = false := by simp [nodeOk, h2]
      repeat' first
       |(with_reducible first|apply qa|apply qb|apply qc|apply qd|apply qe|apply qf|apply qg|apply qh|apply qi|apply qj|apply qk|apply ql|apply qm|apply qn|apply qo|apply qp|apply qq|refine blockP_ne (by decide) ?_)
       |((with_reducible refine Pwp.reg fun K hK=>?_);simp[h1, h2])
       |((with_reducible refine Hid.go hK ?_);clear hK K)|((with_reducible apply Pwp.condG);rfl)|((with_reducible first|apply qqj|apply qqk);simp[h1, h2];done)|((with_reducible first|apply qr|apply qs|apply qt|apply qu|apply qv|apply qw)<;>intro h)
       |((with_reducible first|apply qx|apply qy|apply qz|apply qqa|apply qqb|apply qqc)<;>intro h<;>try simp[h, h1, h2])
       |((with_reducible refine and_go ?_ fun hs=>?_);focus omega
         try simp[h1, h2])
       |((with_reducible first|apply qql|apply qqn|apply qqp);simp[h1, h2])
      all_goals (refine endP_ret0 ?_; simp [errIf, hv])
end Go.Pv

set_option linter.unusedVariables false
set_option linter.unusedSimpArgs false
set_option maxRecDepth 100000
namespace Go.Pv
open Go Go.Proofs

theorem primAt_len (p : Prim) (i : Nat) : (primAt p i).length ≤ 1 := by
  unfold primAt
  split
  · simp
  · split
    · simp
    · split <;> simp
theorem flatMap_len {α β : Type} (f : α → List β) (h : ∀ x, (f x).length ≤ 1) : ∀ l : List α, (l.flatMap f).length ≤ l.length
  | [] => by simp
  | x :: l => by
    have := flatMap_len f h l
    have := h x
    simp only [List.flatMap_cons, List.length_append, List.length_cons]
    omega
theorem primTris_len (p : Prim) : (primTris p).length ≤ p.index.length := by
  have := flatMap_len (primAt p) (primAt_len p) (List.range (p.index.length - 2))
  simp only [List.length_range] at this
  unfold primTris
  omega
theorem primErr_len {p : Prim} (h : primErr p = 0) : p.index.length ≤ 200 := by
  unfold primErr at h
  split at h
  · cases h
  · split at h
    · cases h
    · omega

def trisAll (l : List Prim) : List T3 := l.flatMap primTris
def idxIn (n : Nat) (i : Int) : Bool := decide (0 ≤ i ∧ i < n)
def primGood (n : Nat) (p : Prim) : Bool := decide (primErr p = 0) && p.index.all (idxIn n)
def trisOk (m : Mesh) : Bool := m.prims.all (primGood m.verts.length) && decide ((trisAll m.prims).length ≤ 64)

theorem trisAll_mono (l : List Prim) {i : Nat} : (trisAll (l.take i)).length ≤ (trisAll l).length := by
  have e : trisAll l = trisAll (l.take i) ++ trisAll (l.drop i) := by
    unfold trisAll; rw [← List.flatMap_append, List.take_append_drop]
  rw [e]
  simp
theorem trisAll_succ {l : List Prim} {i : Nat} (h : i < l.length) : trisAll (l.take (i + 1)) = trisAll (l.take i) ++ primTris l[i] := by
  unfold trisAll
  rw [List.take_succ_eq_append_getElem h, List.flatMap_append]
  simp

set_option maxHeartbeats 4000000
theorem ent143 : enters Tryz.prog 143 = true := by kernel_rfl
theorem runs143 (A : Key) (m : Mesh) (hp : m.prims.length < 4611686018427387904) (hv : m.verts.length < 4611686018427387904) (hl : ∀ p ∈ m.prims, p.index.length < 4611686018427387904) (hk : ∀ p ∈ m.prims, 0 ≤ p.kind) : Runs Tryz.prog A 143 [m.pv] [] (.tup [t3sPv (if trisOk m = true then trisAll m.prims else []), .bool (trisOk m)]) [] := by
  refine Runs.body (rs := [.tmp 2, .tmp 3]) ent143 Tryz.func143 rfl Tryz.ntmps143 rfl (fun x h => by cases h) ?_
  repeat' first
   |(with_reducible first|apply qa|apply qb|apply qc|apply qd|apply qe|apply qf|apply qg|apply qh|apply qi|apply qj|apply qk|apply ql|apply qm|apply qn|apply qo|apply qp|apply qq|refine blockP_ne (by decide) ?_)
   |((with_reducible refine Pwp.reg fun K hK=>?_);simp[*])
   |((with_reducible refine Hid.go hK ?_);clear hK K)|((with_reducible apply Pwp.condG);rfl)|((with_reducible first|apply qqj|apply qqk);simp[*];done)|((with_reducible first|apply qr|apply qs|apply qt|apply qu|apply qv|apply qw)<;>intro h)
   |((with_reducible first|apply qx|apply qy|apply qz|apply qqa|apply qqb|apply qqc)<;>intro h<;>try simp[h, *])
   |((with_reducible refine and_go ?_ fun hs=>?_);focus omega
     try simp[*])
   |((with_reducible first|apply qql|apply qqn|apply qqp);simp[*])
  refine Pwp.loopN (ι := Nat × List T3) (S := fun x => ⟨[.any, .ptr (0 :: A) 1 0 0, .any, .any, .slice (8 :: A) x.2.length, .any, .any, .any, .any, .any, .any, .any, primsPv m.prims, .int .i64 m.prims.length, .int .i64 x.1, .any, .any, .any, .any, .any, .any, .any, .any, .any, .any, .any, .any, .any, .any, .any, .any, .any, .any, .any, .any, .any, .any, .any, .any, .any, .any, .any, .any, .any, .any, .any, .any, .any, .any, .any, .any, .any], [(0 :: A, .row 3 [m.pv]), (8 :: A, .row 3 (x.2.map T3.pv))], x.1 :: 9 :: A, 0⟩)
    (C := fun x => x.1 ≤ m.prims.length ∧ Hid (x.2 = trisAll (m.prims.take x.1)) ∧ x.2.length ≤ 64 ∧ ∀ j, (h : j < m.prims.length) → j < x.1 → primGood m.verts.length m.prims[j] = true) (μ := fun x => m.prims.length - x.1) (0, []) ?_ ?_ ?_
  · refine PLe.tellIn [] ?_ ?_ ?_ ?_
    · simp
    · exact Sub.nil _
    · simp [ObLe.refl, *]
    · repeat' first | exact VLeL.nil | refine VLeL.cons ?_ ?_
      all_goals first | exact VLe.any _ | exact VLe.refl _ | exact VLe.ghost _ ⟨_, rfl, by omega, by omega⟩ | (apply VLe.row (h := ELe.refl _); (focus (first | exact St.find_hd _ _ _ | exact St.find_tl (by simp) (St.find_hd _ _ _) | exact St.find_tl (by simp) (St.find_tl (by simp) (St.find_hd _ _ _)))); (simp [*]; done)) | exact VLe.of_eq (by simp [*])
  · exact ⟨by simp, ⟨by simp [trisAll]⟩, by simp, by simp⟩
  · rintro ⟨i, acc⟩ ⟨hi, hacc, h64, hgood⟩
    simp only at hi hacc h64 hgood
    by_cases hlt : i < m.prims.length
    · have hil := hl _ (List.getElem_mem hlt)
      have hik := hk _ (List.getElem_mem hlt)
      by_cases he : primErr m.prims[i] = 0
      · have hlen := primTris_len m.prims[i]
        have h200 := primErr_len he
        repeat' first
         |(with_reducible first|apply qa|apply qb|apply qc|apply qd|apply qe|apply qf|apply qg|apply qh|apply qi|apply qj|apply qk|apply ql|apply qm|apply qn|apply qo|apply qp|apply qq|refine blockP_ne (by decide) ?_)
         |((with_reducible refine Pwp.reg fun K hK=>?_);simp[*, wrap_succ i (by omega)])
         |((with_reducible refine Hid.go hK ?_);clear hK K)|((with_reducible apply Pwp.condG);rfl)|((with_reducible first|apply qqj|apply qqk);simp[*, wrap_succ i (by omega)];done)|((with_reducible first|apply qr|apply qs|apply qt|apply qu|apply qv|apply qw)<;>intro h)
         |((with_reducible first|apply qx|apply qy|apply qz|apply qqa|apply qqb|apply qqc)<;>intro h<;>try simp[h, *, wrap_succ i (by omega)])
         |((with_reducible refine and_go ?_ fun hs=>?_);focus omega
           try simp[*, wrap_succ i (by omega)])
         |((with_reducible first|apply qql|apply qqn|apply qqp);simp[*, wrap_succ i (by omega)])
        refine vcallk_pure (runs239 _ m.prims[i] hil hik) ?_
        by_cases hbig : 64 < acc.length + (primTris m.prims[i]).length
        · have cb : (64 < (acc.length : Int) + ((primTris m.prims[i]).length : Int)) = True := by simp only [eq_iff_iff, iff_true]; omega
          have hv : trisOk m = false := by
            have h1 := trisAll_succ hlt
            have h2 := trisAll_mono m.prims (i := i + 1)
            have h3 := hacc.of
            simp only [trisOk, Bool.and_eq_false_iff, decide_eq_false_iff_not]
            right
            rw [h1, ← h3] at h2
            simp only [List.length_append] at h2
            omega
          repeat' first
           |(with_reducible first|apply qa|apply qb|apply qc|apply qd|apply qe|apply qf|apply qg|apply qh|apply qi|apply qj|apply qk|apply ql|apply qm|apply qn|apply qo|apply qp|apply qq|refine blockP_ne (by decide) ?_)
           |((with_reducible refine Pwp.reg fun K hK=>?_);simp[he, cb])
           |((with_reducible refine Hid.go hK ?_);clear hK K)|((with_reducible apply Pwp.condG);rfl)|((with_reducible first|apply qqj|apply qqk);simp[he, cb];done)|((with_reducible first|apply qr|apply qs|apply qt|apply qu|apply qv|apply qw)<;>intro h)
           |((with_reducible first|apply qx|apply qy|apply qz|apply qqa|apply qqb|apply qqc)<;>intro h<;>try simp[h, he, cb])
           |((with_reducible refine and_go ?_ fun hs=>?_);focus omega
             try simp[he, cb])
           |((with_reducible first|apply qql|apply qqn|apply qqp);simp[he, cb])
          refine endP_tell2 (.inl rfl) [] (Sub.nil _) (by decide) (by simp) (by simp) ?_ ?_
          · simp only [hv]; exact VLe.cap _ _
          · simp only [hv]; exact VLe.refl _
        · have cb : (64 < (acc.length : Int) + ((primTris m.prims[i]).length : Int)) = False := by simp only [eq_iff_iff, iff_false]; omega
          repeat' first
           |(with_reducible first|apply qa|apply qb|apply qc|apply qd|apply qe|apply qf|apply qg|apply qh|apply qi|apply qj|apply qk|apply ql|apply qm|apply qn|apply qo|apply qp|apply qq|refine blockP_ne (by decide) ?_)
           |((with_reducible refine Pwp.reg fun K hK=>?_);simp[he, cb])
           |((with_reducible refine Hid.go hK ?_);clear hK K)|((with_reducible apply Pwp.condG);rfl)|((with_reducible first|apply qqj|apply qqk);simp[he, cb];done)|((with_reducible first|apply qr|apply qs|apply qt|apply qu|apply qv|apply qw)<;>intro h)
           |((with_reducible first|apply qx|apply qy|apply qz|apply qqa|apply qqb|apply qqc)<;>intro h<;>try simp[h, he, cb])
           |((with_reducible refine and_go ?_ fun hs=>?_);focus omega
             try simp[he, cb])
           |((with_reducible first|apply qql|apply qqn|apply qqp);simp[he, cb])
          refine Pwp.loopN (ι := Nat) (S := fun k => ⟨[.any, .ptr (0 :: A) 1 0 0, .any, .any, .slice (8 :: A) (acc.length + (primTris m.prims[i]).length), .any, .any, .any, .any, .any, .any, .any, primsPv m.prims, .int .i64 m.prims.length, .int .i64 i, .any, .any, .any, .any, .any, .any, .any, .any, .any, .any, .any, .any, .any, .any, .any, .any, .any, .any, .any, intsPv m.prims[i].index, .int .i64 m.prims[i].index.length, .int .i64 k, .any, .any, .any, .any, .any, .any, .any, .any, .any, .any, .any, .any, .any, .any, .any], [(0 :: A, .row 3 [m.pv]), (8 :: A, .row 3 ((acc ++ primTris m.prims[i]).map T3.pv))], k :: 27 :: i :: 9 :: A, 0⟩)
            (C := fun k => k ≤ m.prims[i].index.length ∧ ∀ j, (h : j < m.prims[i].index.length) → j < k → idxIn m.verts.length m.prims[i].index[j] = true) (μ := fun k => m.prims[i].index.length - k) 0 ?_ ?_ ?_
          · refine PLe.tellIn [] ?_ ?_ ?_ ?_
            · simp
            · exact Sub.nil _
            · simp [ObLe.refl, *]
            · repeat' first | exact VLeL.nil | refine VLeL.cons ?_ ?_
              all_goals first | exact VLe.any _ | exact VLe.refl _ | exact VLe.ghost _ ⟨_, rfl, by omega, by omega⟩ | (apply VLe.row (h := ELe.refl _); (focus (first | exact St.find_hd _ _ _ | exact St.find_tl (by simp) (St.find_hd _ _ _) | exact St.find_tl (by simp) (St.find_tl (by simp) (St.find_hd _ _ _)))); (simp [*]; done)) | exact VLe.of_eq (by simp [*])
          · simp
          · rintro k ⟨hk1, hk2⟩
            by_cases hkl : k < m.prims[i].index.length
            · cases hin : idxIn m.verts.length m.prims[i].index[k] with
              | true =>
                have hin2 := hin
                simp only [idxIn, decide_eq_true_eq] at hin2
                have c1 : ((m.prims[i].index[k]) < 0) = False := by simp only [eq_iff_iff, iff_false]; omega
                have c2 : ((m.verts.length : Int) ≤ (m.prims[i].index[k])) = False := by simp only [eq_iff_iff, iff_false]; omega
                clear hin2
                repeat' first
                 |(with_reducible first|apply qa|apply qb|apply qc|apply qd|apply qe|apply qf|apply qg|apply qh|apply qi|apply qj|apply qk|apply ql|apply qm|apply qn|apply qo|apply qp|apply qq|refine blockP_ne (by decide) ?_)
                 |((with_reducible refine Pwp.reg fun K hK=>?_);simp[hkl, c1, c2, wrap_succ k (by omega)])
                 |((with_reducible refine Hid.go hK ?_);clear hK K)|((with_reducible apply Pwp.condG);rfl)|((with_reducible first|apply qqj|apply qqk);simp[hkl, c1, c2, wrap_succ k (by omega)];done)|((with_reducible first|apply qr|apply qs|apply qt|apply qu|apply qv|apply qw)<;>intro h)
                 |((with_reducible first|apply qx|apply qy|apply qz|apply qqa|apply qqb|apply qqc)<;>intro h<;>try simp[h, hkl, c1, c2, wrap_succ k (by omega)])
                 |((with_reducible refine and_go ?_ fun hs=>?_);focus omega
                   try simp[hkl, c1, c2, wrap_succ k (by omega)])
                 |((with_reducible first|apply qql|apply qqn|apply qqp);simp[hkl, c1, c2, wrap_succ k (by omega)])
                refine roundN_go (k + 1) ?_ ⟨hkl, upto_succ hk2 hkl hin⟩ (by omega)
                refine PLe.tellNext (pre := []) [] ?_ ?_ ?_ ?_
                · simp
                · exact Sub.nil _
                · simp [ObLe.refl, *]
                · repeat' first | exact VLeL.nil | refine VLeL.cons ?_ ?_
                  all_goals first | exact VLe.any _ | exact VLe.refl _ | exact VLe.ghost _ ⟨_, rfl, by omega, by omega⟩ | (apply VLe.row (h := ELe.refl _); (focus (first | exact St.find_hd _ _ _ | exact St.find_tl (by simp) (St.find_hd _ _ _) | exact St.find_tl (by simp) (St.find_tl (by simp) (St.find_hd _ _ _)))); (simp [*]; done)) | exact VLe.of_eq (by simp [*])
              | false =>
                have hv : trisOk m = false := by
                  simp only [trisOk, Bool.and_eq_false_iff]
                  left
                  exact all_hit hlt (by simp only [primGood, Bool.and_eq_false_iff]; right; exact all_hit hkl hin)
                have hin2 := hin
                simp only [idxIn, decide_eq_false_iff_not] at hin2
                by_cases c1 : (m.prims[i].index[k]) < 0
                · repeat' first
                   |(with_reducible first|apply qa|apply qb|apply qc|apply qd|apply qe|apply qf|apply qg|apply qh|apply qi|apply qj|apply qk|apply ql|apply qm|apply qn|apply qo|apply qp|apply qq|refine blockP_ne (by decide) ?_)
                   |((with_reducible refine Pwp.reg fun K hK=>?_);simp[hkl, c1])
                   |((with_reducible refine Hid.go hK ?_);clear hK K)|((with_reducible apply Pwp.condG);rfl)|((with_reducible first|apply qqj|apply qqk);simp[hkl, c1];done)|((with_reducible first|apply qr|apply qs|apply qt|apply qu|apply qv|apply qw)<;>intro h)
                   |((with_reducible first|apply qx|apply qy|apply qz|apply qqa|apply qqb|apply qqc)<;>intro h<;>try simp[h, hkl, c1])
                   |((with_reducible refine and_go ?_ fun hs=>?_);focus omega
                     try simp[hkl, c1])
                   |((with_reducible first|apply qql|apply qqn|apply qqp);simp[hkl, c1])
                  refine endP_tell2 (.inl rfl) [] (Sub.nil _) (by decide) (by simp) (by simp) ?_ ?_
                  · simp only [hv]; exact VLe.cap _ _
                  · simp only [hv]; exact VLe.refl _
                · have c2 : ((m.verts.length : Int) ≤ (m.prims[i].index[k])) = True := by simp only [eq_iff_iff, iff_true]; omega
                  repeat' first
                   |(with_reducible first|apply qa|apply qb|apply qc|apply qd|apply qe|apply qf|apply qg|apply qh|apply qi|apply qj|apply qk|apply ql|apply qm|apply qn|apply qo|apply qp|apply qq|refine blockP_ne (by decide) ?_)
                   |((with_reducible refine Pwp.reg fun K hK=>?_);simp[hkl, c1, c2])
                   |((with_reducible refine Hid.go hK ?_);clear hK K)|((with_reducible apply Pwp.condG);rfl)|((with_reducible first|apply qqj|apply qqk);simp[hkl, c1, c2];done)|((with_reducible first|apply qr|apply qs|apply qt|apply qu|apply qv|apply qw)<;>intro h)
                   |((with_reducible first|apply qx|apply qy|apply qz|apply qqa|apply qqb|apply qqc)<;>intro h<;>try simp[h, hkl, c1, c2])
                   |((with_reducible refine and_go ?_ fun hs=>?_);focus omega
                     try simp[hkl, c1, c2])
                   |((with_reducible first|apply qql|apply qqn|apply qqp);simp[hkl, c1, c2])
                  refine endP_tell2 (.inl rfl) [] (Sub.nil _) (by decide) (by simp) (by simp) ?_ ?_
                  · simp only [hv]; exact VLe.cap _ _
                  · simp only [hv]; exact VLe.refl _
            · have hg : primGood m.verts.length m.prims[i] = true := by
                simp only [primGood, he, decide_true, Bool.true_and]
                exact all_miss fun j hj => hk2 j hj (by omega)
              repeat' first
               |(with_reducible first|apply qa|apply qb|apply qc|apply qd|apply qe|apply qf|apply qg|apply qh|apply qi|apply qj|apply qk|apply ql|apply qm|apply qn|apply qo|apply qp|apply qq|refine blockP_ne (by decide) ?_)
               |((with_reducible refine Pwp.reg fun K hK=>?_);simp[hkl, wrap_succ i (by omega)])
               |((with_reducible refine Hid.go hK ?_);clear hK K)|((with_reducible apply Pwp.condG);rfl)|((with_reducible first|apply qqj|apply qqk);simp[hkl, wrap_succ i (by omega)];done)|((with_reducible first|apply qr|apply qs|apply qt|apply qu|apply qv|apply qw)<;>intro h)
               |((with_reducible first|apply qx|apply qy|apply qz|apply qqa|apply qqb|apply qqc)<;>intro h<;>try simp[h, hkl, wrap_succ i (by omega)])
               |((with_reducible refine and_go ?_ fun hs=>?_);focus omega
                 try simp[hkl, wrap_succ i (by omega)])
               |((with_reducible first|apply qql|apply qqn|apply qqp);simp[hkl, wrap_succ i (by omega)])
              refine roundN_go (i + 1, acc ++ primTris m.prims[i]) ?_ ⟨hlt, ⟨?_⟩, by simp only [List.length_append]; omega, upto_succ hgood hlt hg⟩ (by simp only; omega)
              · refine PLe.tellNext (pre := [k, 27]) [] ?_ ?_ ?_ ?_
                · simp
                · exact Sub.nil _
                · simp [ObLe.refl, *]
                · repeat' first | exact VLeL.nil | refine VLeL.cons ?_ ?_
                  all_goals first | exact VLe.any _ | exact VLe.refl _ | exact VLe.ghost _ ⟨_, rfl, by omega, by omega⟩ | (apply VLe.row (h := ELe.refl _); (focus (first | exact St.find_hd _ _ _ | exact St.find_tl (by simp) (St.find_hd _ _ _) | exact St.find_tl (by simp) (St.find_tl (by simp) (St.find_hd _ _ _)))); (simp [*]; done)) | exact VLe.of_eq (by simp [*])
              · rw [trisAll_succ hlt, ← hacc.of]
      · have hv : trisOk m = false := by
          simp only [trisOk, Bool.and_eq_false_iff]
          left
          exact all_hit hlt (by simp only [primGood, Bool.and_eq_false_iff]; left; simpa using he)
        repeat' first
         |(with_reducible first|apply qa|apply qb|apply qc|apply qd|apply qe|apply qf|apply qg|apply qh|apply qi|apply qj|apply qk|apply ql|apply qm|apply qn|apply qo|apply qp|apply qq|refine blockP_ne (by decide) ?_)
         |((with_reducible refine Pwp.reg fun K hK=>?_);simp[*, wrap_succ i (by omega)])
         |((with_reducible refine Hid.go hK ?_);clear hK K)|((with_reducible apply Pwp.condG);rfl)|((with_reducible first|apply qqj|apply qqk);simp[*, wrap_succ i (by omega)];done)|((with_reducible first|apply qr|apply qs|apply qt|apply qu|apply qv|apply qw)<;>intro h)
         |((with_reducible first|apply qx|apply qy|apply qz|apply qqa|apply qqb|apply qqc)<;>intro h<;>try simp[h, *, wrap_succ i (by omega)])
         |((with_reducible refine and_go ?_ fun hs=>?_);focus omega
           try simp[*, wrap_succ i (by omega)])
         |((with_reducible first|apply qql|apply qqn|apply qqp);simp[*, wrap_succ i (by omega)])
        refine vcallk_pure (runs239 _ m.prims[i] hil hik) ?_
        repeat' first
         |(with_reducible first|apply qa|apply qb|apply qc|apply qd|apply qe|apply qf|apply qg|apply qh|apply qi|apply qj|apply qk|apply ql|apply qm|apply qn|apply qo|apply qp|apply qq|refine blockP_ne (by decide) ?_)
         |((with_reducible refine Pwp.reg fun K hK=>?_);simp[he])
         |((with_reducible refine Hid.go hK ?_);clear hK K)|((with_reducible apply Pwp.condG);rfl)|((with_reducible first|apply qqj|apply qqk);simp[he];done)|((with_reducible first|apply qr|apply qs|apply qt|apply qu|apply qv|apply qw)<;>intro h)
         |((with_reducible first|apply qx|apply qy|apply qz|apply qqa|apply qqb|apply qqc)<;>intro h<;>try simp[h, he])
         |((with_reducible refine and_go ?_ fun hs=>?_);focus omega
           try simp[he])
         |((with_reducible first|apply qql|apply qqn|apply qqp);simp[he])
        refine endP_tell2 (.inl rfl) [] (Sub.nil _) (by decide) (by simp) (by simp) ?_ ?_
        · simp only [hv]; exact VLe.cap _ _
        · simp only [hv]; exact VLe.refl _
    · have e1 : m.prims.take i = m.prims := List.take_of_length_le (by omega)
      have e2 : acc = trisAll m.prims := by rw [hacc.of, e1]
      have hv : trisOk m = true := by
        simp only [trisOk, Bool.and_eq_true, decide_eq_true_eq]
        exact ⟨all_miss fun j hj => hgood j hj (by omega), by rw [← e2]; exact h64⟩
      repeat' first
       |(with_reducible first|apply qa|apply qb|apply qc|apply qd|apply qe|apply qf|apply qg|apply qh|apply qi|apply qj|apply qk|apply ql|apply qm|apply qn|apply qo|apply qp|apply qq|refine blockP_ne (by decide) ?_)
       |((with_reducible refine Pwp.reg fun K hK=>?_);simp[hlt])
       |((with_reducible refine Hid.go hK ?_);clear hK K)|((with_reducible apply Pwp.condG);rfl)|((with_reducible first|apply qqj|apply qqk);simp[hlt];done)|((with_reducible first|apply qr|apply qs|apply qt|apply qu|apply qv|apply qw)<;>intro h)
       |((with_reducible first|apply qx|apply qy|apply qz|apply qqa|apply qqb|apply qqc)<;>intro h<;>try simp[h, hlt])
       |((with_reducible refine and_go ?_ fun hs=>?_);focus omega
         try simp[hlt])
       |((with_reducible first|apply qql|apply qqn|apply qqp);simp[hlt])
      refine endP_tell2 (.inl rfl) [(8 :: A, .row 3 (acc.map T3.pv))] (Sub.one (by simp [St.find])) (by decide) (by simp) (by simp) ?_ ?_
      · rw [if_pos hv, ← e2]
        exact VLe.row (sz := 3) (by simp [St.find]) (by simp) (ELe.refl _)
      · rw [hv]; exact VLe.refl _
end Go.Pv

set_option linter.unusedVariables false
set_option linter.unusedSimpArgs false
set_option maxRecDepth 100000
namespace Go.Pv
open Go Go.Proofs

def meshErr (m : Mesh) : Int :=
  if 64 < m.verts.length ∨ 64 < m.uv.length ∨ 16 < m.prims.length then 4
  else if m.uv.length ≠ m.verts.length ∨ m.verts.any vertBad = true ∨ m.uv.any uvBad = true then 40
  else if trisOk m = true then 0 else 40

structure Mesh.Lens (m : Mesh) : Prop where
  verts : m.verts.length < 4611686018427387904
  uv : m.uv.length < 4611686018427387904
  prims : m.prims.length < 4611686018427387904
  index : ∀ p ∈ m.prims, p.index.length < 4611686018427387904
  kind : ∀ p ∈ m.prims, 0 ≤ p.kind

theorem ent63 : enters Tryz.prog 63 = true := by kernel_rfl
theorem runs63 (A : Key) (m : Mesh) (hl : m.Lens) : Runs Tryz.prog A 63 [m.pv] [] (.int .i64 (meshErr m)) [] := by
  by_cases h1 : 64 < m.verts.length ∨ 64 < m.uv.length ∨ 16 < m.prims.length
  · have hv : meshErr m = 4 := by simp only [meshErr, if_pos h1]
    have c1 : (64 < (m.verts.length : Int)) = (64 < m.verts.length) := by rw [eq_iff_iff]; omega
    have c2 : (64 < (m.uv.length : Int)) = (64 < m.uv.length) := by rw [eq_iff_iff]; omega
    have c3 : (16 < (m.prims.length : Int)) = (16 < m.prims.length) := by rw [eq_iff_iff]; omega
    refine Runs.body (rs := [.tmp 2]) ent63 Tryz.func63 rfl Tryz.ntmps63 rfl (fun x h => by cases h) ?_
    repeat' first
     |(with_reducible first|apply qa|apply qb|apply qc|apply qd|apply qe|apply qf|apply qg|apply qh|apply qi|apply qj|apply qk|apply ql|apply qm|apply qn|apply qo|apply qp|apply qq|refine blockP_ne (by decide) ?_)
     |((with_reducible refine Pwp.reg fun K hK=>?_);simp[c1, c2, c3])
     |((with_reducible refine Hid.go hK ?_);clear hK K)|((with_reducible apply Pwp.condG);rfl)|((with_reducible first|apply qqj|apply qqk);simp[c1, c2, c3];done)|((with_reducible first|apply qr|apply qs|apply qt|apply qu|apply qv|apply qw)<;>intro h)
     |((with_reducible first|apply qx|apply qy|apply qz|apply qqa|apply qqb|apply qqc)<;>intro h<;>try simp[h, c1, c2, c3])
     |((with_reducible refine and_go ?_ fun hs=>?_);focus omega
       try simp[c1, c2, c3])
     |((with_reducible first|apply qql|apply qqn|apply qqp);simp[c1, c2, c3])
    all_goals first | (exfalso; omega) | (refine endP_ret0 ?_; simp [hv])
  · have c1 : (64 < (m.verts.length : Int)) = False := by simp only [eq_iff_iff, iff_false]; omega
    have c2 : (64 < (m.uv.length : Int)) = False := by simp only [eq_iff_iff, iff_false]; omega
    have c3 : (16 < (m.prims.length : Int)) = False := by simp only [eq_iff_iff, iff_false]; omega
    by_cases h2 : m.uv.length = m.verts.length
    · refine Runs.body (rs := [.tmp 2]) ent63 Tryz.func63 rfl Tryz.ntmps63 rfl (fun x h => by cases h) ?_
      repeat' first
       |(with_reducible first|apply qa|apply qb|apply qc|apply qd|apply qe|apply qf|apply qg|apply qh|apply qi|apply qj|apply qk|apply ql|apply qm|apply qn|apply qo|apply qp|apply qq|refine blockP_ne (by decide) ?_)
       |((with_reducible refine Pwp.reg fun K hK=>?_);simp[c1, c2, c3, h2])
       |((with_reducible refine Hid.go hK ?_);clear hK K)|((with_reducible apply Pwp.condG);rfl)|((with_reducible first|apply qqj|apply qqk);simp[c1, c2, c3, h2];done)|((with_reducible first|apply qr|apply qs|apply qt|apply qu|apply qv|apply qw)<;>intro h)
       |((with_reducible first|apply qx|apply qy|apply qz|apply qqa|apply qqb|apply qqc)<;>intro h<;>try simp[h, c1, c2, c3, h2])
       |((with_reducible refine and_go ?_ fun hs=>?_);focus omega
         try simp[c1, c2, c3, h2])
       |((with_reducible first|apply qql|apply qqn|apply qqp);simp[c1, c2, c3, h2])
      refine vcallk_pure (runs141 _ m.verts vertBad 138 [] [] hl.verts (fun A' x _ => runs138 A' x)) ?_
      cases h3 : m.verts.any vertBad with
      | true =>
        have hv : meshErr m = 40 := by unfold meshErr; rw [if_neg h1]; simp [h2, h3]
        repeat' first
         |(with_reducible first|apply qa|apply qb|apply qc|apply qd|apply qe|apply qf|apply qg|apply qh|apply qi|apply qj|apply qk|apply ql|apply qm|apply qn|apply qo|apply qp|apply qq|refine blockP_ne (by decide) ?_)
         |((with_reducible refine Pwp.reg fun K hK=>?_);simp[c1, c2, c3, h2, h3])
         |((with_reducible refine Hid.go hK ?_);clear hK K)|((with_reducible apply Pwp.condG);rfl)|((with_reducible first|apply qqj|apply qqk);simp[c1, c2, c3, h2, h3];done)|((with_reducible first|apply qr|apply qs|apply qt|apply qu|apply qv|apply qw)<;>intro h)
         |((with_reducible first|apply qx|apply qy|apply qz|apply qqa|apply qqb|apply qqc)<;>intro h<;>try simp[h, c1, c2, c3, h2, h3])
         |((with_reducible refine and_go ?_ fun hs=>?_);focus omega
           try simp[c1, c2, c3, h2, h3])
         |((with_reducible first|apply qql|apply qqn|apply qqp);simp[c1, c2, c3, h2, h3])
        all_goals (refine endP_ret0 ?_; simp [hv])
      | false =>
        repeat' first
         |(with_reducible first|apply qa|apply qb|apply qc|apply qd|apply qe|apply qf|apply qg|apply qh|apply qi|apply qj|apply qk|apply ql|apply qm|apply qn|apply qo|apply qp|apply qq|refine blockP_ne (by decide) ?_)
         |((with_reducible refine Pwp.reg fun K hK=>?_);simp[c1, c2, c3, h2, h3])
         |((with_reducible refine Hid.go hK ?_);clear hK K)|((with_reducible apply Pwp.condG);rfl)|((with_reducible first|apply qqj|apply qqk);simp[c1, c2, c3, h2, h3];done)|((with_reducible first|apply qr|apply qs|apply qt|apply qu|apply qv|apply qw)<;>intro h)
         |((with_reducible first|apply qx|apply qy|apply qz|apply qqa|apply qqb|apply qqc)<;>intro h<;>try simp[h, c1, c2, c3, h2, h3])
         |((with_reducible refine and_go ?_ fun hs=>?_);focus omega
           try simp[c1, c2, c3, h2, h3])
         |((with_reducible first|apply qql|apply qqn|apply qqp);simp[c1, c2, c3, h2, h3])
        refine vcallk_pure (runs142 _ m.uv uvBad 140 [] [] hl.uv (fun A' x _ => runs140 A' x)) ?_
        cases h4 : m.uv.any uvBad with
        | true =>
          have hv : meshErr m = 40 := by unfold meshErr; rw [if_neg h1]; simp [h2, h3, h4]
          repeat' first
           |(with_reducible first|apply qa|apply qb|apply qc|apply qd|apply qe|apply qf|apply qg|apply qh|apply qi|apply qj|apply qk|apply ql|apply qm|apply qn|apply qo|apply qp|apply qq|refine blockP_ne (by decide) ?_)
           |((with_reducible refine Pwp.reg fun K hK=>?_);simp[c1, c2, c3, h2, h3, h4])
           |((with_reducible refine Hid.go hK ?_);clear hK K)|((with_reducible apply Pwp.condG);rfl)|((with_reducible first|apply qqj|apply qqk);simp[c1, c2, c3, h2, h3, h4];done)|((with_reducible first|apply qr|apply qs|apply qt|apply qu|apply qv|apply qw)<;>intro h)
           |((with_reducible first|apply qx|apply qy|apply qz|apply qqa|apply qqb|apply qqc)<;>intro h<;>try simp[h, c1, c2, c3, h2, h3, h4])
           |((with_reducible refine and_go ?_ fun hs=>?_);focus omega
             try simp[c1, c2, c3, h2, h3, h4])
           |((with_reducible first|apply qql|apply qqn|apply qqp);simp[c1, c2, c3, h2, h3, h4])
          all_goals (refine endP_ret0 ?_; simp [hv])
        | false =>
          repeat' first
           |(with_reducible first|apply qa|apply qb|apply qc|apply qd|apply qe|apply qf|apply qg|apply qh|apply qi|apply qj|apply qk|apply ql|apply qm|apply qn|apply qo|apply qp|apply qq|refine blockP_ne (by decide) ?_)
           |((with_reducible refine Pwp.reg fun K hK=>?_);simp[c1, c2, c3, h2, h3, h4])
           |((with_reducible refine Hid.go hK ?_);clear hK K)|((with_reducible apply Pwp.condG);rfl)|((with_reducible first|apply qqj|apply qqk);simp[c1, c2, c3, h2, h3, h4];done)|((with_reducible first|apply qr|apply qs|apply qt|apply qu|apply qv|apply qw)<;>intro h)
           |((with_reducible first|apply qx|apply qy|apply qz|apply qqa|apply qqb|apply qqc)<;>intro h<;>try simp[h, c1, c2, c3, h2, h3, h4])
           |((with_reducible refine and_go ?_ fun hs=>?_);focus omega
             try simp[c1, c2, c3, h2, h3, h4])
           |((with_reducible first|apply qql|apply qqn|apply qqp);simp[c1, c2, c3, h2, h3, h4])
          refine vcallk_pure (runs143 _ m hl.prims hl.verts hl.index hl.kind) ?_
          cases h5 : trisOk m with
          | true =>
            have hv : meshErr m = 0 := by unfold meshErr; rw [if_neg h1]; simp [h2, h3, h4, h5]
            repeat' first
             |(with_reducible first|apply qa|apply qb|apply qc|apply qd|apply qe|apply qf|apply qg|apply qh|apply qi|apply qj|apply qk|apply ql|apply qm|apply qn|apply qo|apply qp|apply qq|refine blockP_ne (by decide) ?_)
             |((with_reducible refine Pwp.reg fun K hK=>?_);simp[h5])
             |((with_reducible refine Hid.go hK ?_);clear hK K)|((with_reducible apply Pwp.condG);rfl)|((with_reducible first|apply qqj|apply qqk);simp[h5];done)|((with_reducible first|apply qr|apply qs|apply qt|apply qu|apply qv|apply qw)<;>intro h)
             |((with_reducible first|apply qx|apply qy|apply qz|apply qqa|apply qqb|apply qqc)<;>intro h<;>try simp[h, h5])
             |((with_reducible refine and_go ?_ fun hs=>?_);focus omega
               try simp[h5])
             |((with_reducible first|apply qql|apply qqn|apply qqp);simp[h5])
            all_goals (refine endP_ret0 ?_; simp [hv])
          | false =>
            have hv : meshErr m = 40 := by unfold meshErr; rw [if_neg h1]; simp [h2, h3, h4, h5]
            repeat' first
             |(with_reducible first|apply qa|apply qb|apply qc|apply qd|apply qe|apply qf|apply qg|apply qh|apply qi|apply qj|apply qk|apply ql|apply qm|apply qn|apply qo|apply qp|apply qq|refine blockP_ne (by decide) ?_)
             |((with_reducible refine Pwp.reg fun K hK=>?_);simp[h5])
             |((with_reducible refine Hid.go hK ?_);clear hK K)|((with_reducible apply Pwp.condG);rfl)|((with_reducible first|apply qqj|apply qqk);simp[h5];done)|((with_reducible first|apply qr|apply qs|apply qt|apply qu|apply qv|apply qw)<;>intro h)
             |((with_reducible first|apply qx|apply qy|apply qz|apply qqa|apply qqb|apply qqc)<;>intro h<;>try simp[h, h5])
             |((with_reducible refine and_go ?_ fun hs=>?_);focus omega
               try simp[h5])
             |((with_reducible first|apply qql|apply qqn|apply qqp);simp[h5])
            all_goals (refine endP_ret0 ?_; simp [hv])
    · have hv : meshErr m = 40 := by unfold meshErr; rw [if_neg h1]; simp [h2]
      refine Runs.body (rs := [.tmp 2]) ent63 Tryz.func63 rfl Tryz.ntmps63 rfl (fun x h => by cases h) ?_
      repeat' first
       |(with_reducible first|apply qa|apply qb|apply qc|apply qd|apply qe|apply qf|apply qg|apply qh|apply qi|apply qj|apply qk|apply ql|apply qm|apply qn|apply qo|apply qp|apply qq|refine blockP_ne (by decide) ?_)
       |((with_reducible refine Pwp.reg fun K hK=>?_);simp[c1, c2, c3, h2])
       |((with_reducible refine Hid.go hK ?_);clear hK K)|((with_reducible apply Pwp.condG);rfl)|((with_reducible first|apply qqj|apply qqk);simp[c1, c2, c3, h2];done)|((with_reducible first|apply qr|apply qs|apply qt|apply qu|apply qv|apply qw)<;>intro h)
       |((with_reducible first|apply qx|apply qy|apply qz|apply qqa|apply qqb|apply qqc)<;>intro h<;>try simp[h, c1, c2, c3, h2])
       |((with_reducible refine and_go ?_ fun hs=>?_);focus omega
         try simp[c1, c2, c3, h2])
       |((with_reducible first|apply qql|apply qqn|apply qqp);simp[c1, c2, c3, h2])
      all_goals (refine endP_ret0 ?_; simp [hv])

theorem ent124 : enters Tryz.prog 124 = true := by kernel_rfl
theorem runs124 (A : Key) (m : Mesh) (h1 : m.verts.length ≤ 1000000) (h2 : m.uv.length ≤ 1000000) (h3 : m.prims.length ≤ 1000000) (h4 : ∀ p ∈ m.prims, p.index.length ≤ 1000000) : Runs Tryz.prog A 124 [m.pv] [] m.pv [] := by
  refine Runs.body (rs := [.cell 2 56]) ent124 Tryz.func124 rfl Tryz.ntmps124 rfl (fun x h => by cases h) ?_
  repeat' first
   |(with_reducible first|apply qa|apply qb|apply qc|apply qd|apply qe|apply qf|apply qg|apply qh|apply qi|apply qj|apply qk|apply ql|apply qm|apply qn|apply qo|apply qp|apply qq|refine blockP_ne (by decide) ?_)
   |((with_reducible refine Pwp.reg fun K hK=>?_);simp[*])
   |((with_reducible refine Pwp.drawn (id := 2) follows_mixed [0, 1, 3, 0, 8, 31, 31, 127, 255, 511, 1023, 2047] [false, false, false, false, false, true, false, true, false, true, false, true] ?_ fun K hK => ?_); focus kernel_rfl
     simp [*])
   |((with_reducible refine Hid.go hK ?_);clear hK K)|((with_reducible apply Pwp.condG);rfl)|((with_reducible first|apply qqj|apply qqk);simp[*];done)|((with_reducible first|apply qr|apply qs|apply qt|apply qu|apply qv|apply qw)<;>intro h)
   |((with_reducible first|apply qx|apply qy|apply qz|apply qqa|apply qqb|apply qqc|apply qqd|apply qqe|apply qqf|apply qqg|apply qqh|apply qqi)<;>intro h<;>try simp[h, *])
   |((with_reducible refine and_go ?_ fun hs=>?_);focus omega
     try simp[*])
   |((with_reducible first|apply qql|apply qqn|apply qqp|apply qqm|apply qqo|apply qqq);simp[*])
  refine dcallk_pure (runs219 _ m.verts h1) ?_
  repeat' first
   |(with_reducible first|apply qa|apply qb|apply qc|apply qd|apply qe|apply qf|apply qg|apply qh|apply qi|apply qj|apply qk|apply ql|apply qm|apply qn|apply qo|apply qp|apply qq|refine blockP_ne (by decide) ?_)
   |((with_reducible refine Pwp.reg fun K hK=>?_);simp[*])
   |((with_reducible refine Pwp.drawn (id := 2) follows_mixed [0, 1, 3, 0, 8, 31, 31, 127, 255, 511, 1023, 2047] [false, false, false, false, false, true, false, true, false, true, false, true] ?_ fun K hK => ?_); focus kernel_rfl
     simp [*])
   |((with_reducible refine Hid.go hK ?_);clear hK K)|((with_reducible apply Pwp.condG);rfl)|((with_reducible first|apply qqj|apply qqk);simp[*];done)|((with_reducible first|apply qr|apply qs|apply qt|apply qu|apply qv|apply qw)<;>intro h)
   |((with_reducible first|apply qx|apply qy|apply qz|apply qqa|apply qqb|apply qqc|apply qqd|apply qqe|apply qqf|apply qqg|apply qqh|apply qqi)<;>intro h<;>try simp[h, *])
   |((with_reducible refine and_go ?_ fun hs=>?_);focus omega
     try simp[*])
   |((with_reducible first|apply qql|apply qqn|apply qqp|apply qqm|apply qqo|apply qqq);simp[*])
  refine dcallk_pure (runs220 _ m.uv h2) ?_
  repeat' first
   |(with_reducible first|apply qa|apply qb|apply qc|apply qd|apply qe|apply qf|apply qg|apply qh|apply qi|apply qj|apply qk|apply ql|apply qm|apply qn|apply qo|apply qp|apply qq|refine blockP_ne (by decide) ?_)
   |((with_reducible refine Pwp.reg fun K hK=>?_);simp[*])
   |((with_reducible refine Pwp.drawn (id := 2) follows_mixed [0, 1, 3, 0, 8, 31, 31, 127, 255, 511, 1023, 2047] [false, false, false, false, false, true, false, true, false, true, false, true] ?_ fun K hK => ?_); focus kernel_rfl
     simp [*])
   |((with_reducible refine Hid.go hK ?_);clear hK K)|((with_reducible apply Pwp.condG);rfl)|((with_reducible first|apply qqj|apply qqk);simp[*];done)|((with_reducible first|apply qr|apply qs|apply qt|apply qu|apply qv|apply qw)<;>intro h)
   |((with_reducible first|apply qx|apply qy|apply qz|apply qqa|apply qqb|apply qqc|apply qqd|apply qqe|apply qqf|apply qqg|apply qqh|apply qqi)<;>intro h<;>try simp[h, *])
   |((with_reducible refine and_go ?_ fun hs=>?_);focus omega
     try simp[*])
   |((with_reducible first|apply qql|apply qqn|apply qqp|apply qqm|apply qqo|apply qqq);simp[*])
  refine Pwp.loopN (ι := Nat × List Prim) (S := fun x => ⟨[.any, .ptr (0 :: A) 1 0 0, .ptr (1 :: A) 1 0 0, .any, .any, .any, .any, .any, .any, .any, .any, .any, .any, .any, .any, .any, .any, primsPv m.prims, .int .i64 m.prims.length, .int .i64 x.1, .any, .any, .any, .any, .any, .any, .any, .any, .any, .any, .any, .any, .any, .any, .any], [(0 :: A, .row 3 [.agg [vecsPv m.verts, uvsPv m.uv, .slice (20 :: A) x.2.length]]), (1 :: A, .row 3 [.agg [.islice (some 0) [], .islice (some 0) [], .islice (some 0) []]]), (20 :: A, .row 2 (x.2.map Prim.pv))], x.1 :: 21 :: A, 0⟩)
    (C := fun x => x.1 ≤ m.prims.length ∧ Hid (x.2 = m.prims.take x.1)) (μ := fun x => m.prims.length - x.1) (0, []) ?_ ?_ ?_
  · refine PLe.tellInG [] (by simp) ?_ ?_ ?_
    · repeat' first | exact Sub.nil _ | refine Sub.cons (by simp [St.find, *]) ?_
    · repeat' first | exact StLeG.nil | (apply StLeG.old; (focus (simp [St.find]; done)); (focus ((repeat' first | exact St.find_hd _ _ _ | (apply St.find_tl; (focus (first | assumption | (simp; done) | (simp [*]; done))))); done))) | (refine StLeG.new ?_ ?_ ?_ ?_; (focus (simp [St.find]; done)); (focus omega); (focus omega))
      all_goals first | exact ObLe.refl _ | (refine ObLe.of_eq ?_; simp [*]; done) | (refine ObLe.row _ _ _ (ELe.one ?_ ?_); (focus (simp; done)))
      all_goals repeat' first | exact VLeL.nil | refine VLeL.cons ?_ ?_
      all_goals first | exact VLe.refl _ | exact VLe.any _ | exact VLe.cap _ _ | (refine VLe.ghost1 ?_ ?_ <;> omega) | (apply VLe.row (h := ELe.refl _); (focus ((repeat' first | exact St.find_hd _ _ _ | (apply St.find_tl; (focus (first | assumption | (simp; done) | (simp [*]; done))))); done)); (simp [*]; done)) | (apply VLe.prow (h := ELe.refl _); (focus ((repeat' first | exact St.find_hd _ _ _ | (apply St.find_tl; (focus (first | assumption | (simp; done) | (simp [*]; done))))); done)); (simp; done)) | (refine VLe.of_eq ?_; simp [*]; done)
    · repeat' first | exact VLeL.nil | refine VLeL.cons ?_ ?_
      all_goals first | exact VLe.refl _ | exact VLe.any _ | exact VLe.cap _ _ | (refine VLe.ghost1 ?_ ?_ <;> omega) | (apply VLe.row (h := ELe.refl _); (focus ((repeat' first | exact St.find_hd _ _ _ | (apply St.find_tl; (focus (first | assumption | (simp; done) | (simp [*]; done))))); done)); (simp [*]; done)) | (apply VLe.prow (h := ELe.refl _); (focus ((repeat' first | exact St.find_hd _ _ _ | (apply St.find_tl; (focus (first | assumption | (simp; done) | (simp [*]; done))))); done)); (simp; done)) | (refine VLe.of_eq ?_; simp [*]; done)
  · exact ⟨by simp, ⟨by simp⟩⟩
  · rintro ⟨i, acc⟩ ⟨hi, ha⟩
    simp only at hi ha
    have hal : acc.length ≤ 1000000 := by rw [ha.of]; simp; omega
    by_cases hlt : i < m.prims.length
    · have hx := h4 _ (List.getElem_mem hlt)
      repeat' first
       |(with_reducible first|apply qa|apply qb|apply qc|apply qd|apply qe|apply qf|apply qg|apply qh|apply qi|apply qj|apply qk|apply ql|apply qm|apply qn|apply qo|apply qp|apply qq|refine blockP_ne (by decide) ?_)
       |((with_reducible refine Pwp.reg fun K hK=>?_);simp[hlt, wrap_succ i (by omega)])
       |((with_reducible refine Pwp.drawn (id := 2) follows_mixed [0, 1, 3, 0, 8, 31, 31, 127, 255, 511, 1023, 2047] [false, false, false, false, false, true, false, true, false, true, false, true] ?_ fun K hK => ?_); focus kernel_rfl
         simp [hlt, wrap_succ i (by omega)])
       |((with_reducible refine Hid.go hK ?_);clear hK K)|((with_reducible apply Pwp.condG);rfl)|((with_reducible first|apply qqj|apply qqk);simp[hlt, wrap_succ i (by omega)];done)|((with_reducible first|apply qr|apply qs|apply qt|apply qu|apply qv|apply qw)<;>intro h)
       |((with_reducible first|apply qx|apply qy|apply qz|apply qqa|apply qqb|apply qqc|apply qqd|apply qqe|apply qqf|apply qqg|apply qqh|apply qqi)<;>intro h<;>try simp[h, hlt, wrap_succ i (by omega)])
       |((with_reducible refine and_go ?_ fun hs=>?_);focus omega
         try simp[hlt, wrap_succ i (by omega)])
       |((with_reducible first|apply qql|apply qqn|apply qqp|apply qqm|apply qqo|apply qqq);simp[hlt, wrap_succ i (by omega)])
      refine vcallk_pure (runs96 _ m.prims[i].index hx) ?_
      repeat' first
       |(with_reducible first|apply qa|apply qb|apply qc|apply qd|apply qe|apply qf|apply qg|apply qh|apply qi|apply qj|apply qk|apply ql|apply qm|apply qn|apply qo|apply qp|apply qq|refine blockP_ne (by decide) ?_)
       |((with_reducible refine Pwp.reg fun K hK=>?_);simp[hlt, wrap_succ i (by omega)])
       |((with_reducible refine Pwp.drawn (id := 2) follows_mixed [0, 1, 3, 0, 8, 31, 31, 127, 255, 511, 1023, 2047] [false, false, false, false, false, true, false, true, false, true, false, true] ?_ fun K hK => ?_); focus kernel_rfl
         simp [hlt, wrap_succ i (by omega)])
       |((with_reducible refine Hid.go hK ?_);clear hK K)|((with_reducible apply Pwp.condG);rfl)|((with_reducible first|apply qqj|apply qqk);simp[hlt, wrap_succ i (by omega)];done)|((with_reducible first|apply qr|apply qs|apply qt|apply qu|apply qv|apply qw)<;>intro h)
       |((with_reducible first|apply qx|apply qy|apply qz|apply qqa|apply qqb|apply qqc|apply qqd|apply qqe|apply qqf|apply qqg|apply qqh|apply qqi)<;>intro h<;>try simp[h, hlt, wrap_succ i (by omega)])
       |((with_reducible refine and_go ?_ fun hs=>?_);focus omega
         try simp[hlt, wrap_succ i (by omega)])
       |((with_reducible first|apply qql|apply qqn|apply qqp|apply qqm|apply qqo|apply qqq);simp[hlt, wrap_succ i (by omega)])
      refine roundN_go (i + 1, acc ++ [m.prims[i]]) ?_ ⟨hlt, ⟨by rw [List.take_succ_eq_append_getElem hlt, ha.of]⟩⟩ (by simp only; omega)
      refine PLe.tellNextG (pre := []) [] (by simp) ?_ ?_ ?_
      · repeat' first | exact Sub.nil _ | refine Sub.cons (by simp [St.find, *]) ?_
      · repeat' first | exact StLe.nil | (apply StLe.cons; (focus (first | (simp [St.find]; done) | (simp [St.find, *]; done))); (focus ((repeat' first | exact St.find_hd _ _ _ | (apply St.find_tl; (focus (first | assumption | (simp; done) | (simp [*]; done))))); done)))
        all_goals first | exact ObLe.refl _ | (refine ObLe.of_eq ?_; simp [*]; done) | (refine ObLe.row _ _ _ (ELe.one ?_ ?_); (focus (simp; done)))
        all_goals repeat' first | exact VLeL.nil | refine VLeL.cons ?_ ?_
        all_goals first | exact VLe.refl _ | exact VLe.any _ | exact VLe.cap _ _ | (refine VLe.ghost1 ?_ ?_ <;> omega) | (apply VLe.row (h := ELe.refl _); (focus ((repeat' first | exact St.find_hd _ _ _ | (apply St.find_tl; (focus (first | assumption | (simp; done) | (simp [*]; done))))); done)); (simp [*]; done)) | (apply VLe.prow (h := ELe.refl _); (focus ((repeat' first | exact St.find_hd _ _ _ | (apply St.find_tl; (focus (first | assumption | (simp; done) | (simp [*]; done))))); done)); (simp; done)) | (refine VLe.of_eq ?_; simp [*]; done)
      · repeat' first | exact VLeL.nil | refine VLeL.cons ?_ ?_
        all_goals first | exact VLe.refl _ | exact VLe.any _ | exact VLe.cap _ _ | (refine VLe.ghost1 ?_ ?_ <;> omega) | (apply VLe.row (h := ELe.refl _); (focus ((repeat' first | exact St.find_hd _ _ _ | (apply St.find_tl; (focus (first | assumption | (simp; done) | (simp [*]; done))))); done)); (simp [*]; done)) | (apply VLe.prow (h := ELe.refl _); (focus ((repeat' first | exact St.find_hd _ _ _ | (apply St.find_tl; (focus (first | assumption | (simp; done) | (simp [*]; done))))); done)); (simp; done)) | (refine VLe.of_eq ?_; simp [*]; done)
    · obtain rfl : acc = m.prims := by rw [ha.of]; exact List.take_of_length_le (by omega)
      clear ha
      repeat' first
       |(with_reducible first|apply qa|apply qb|apply qc|apply qd|apply qe|apply qf|apply qg|apply qh|apply qi|apply qj|apply qk|apply ql|apply qm|apply qn|apply qo|apply qp|apply qq|refine blockP_ne (by decide) ?_)
       |((with_reducible refine Pwp.reg fun K hK=>?_);simp[hlt])
       |((with_reducible refine Pwp.drawn (id := 2) follows_mixed [0, 1, 3, 0, 8, 31, 31, 127, 255, 511, 1023, 2047] [false, false, false, false, false, true, false, true, false, true, false, true] ?_ fun K hK => ?_); focus kernel_rfl
         simp [hlt])
       |((with_reducible refine Hid.go hK ?_);clear hK K)|((with_reducible apply Pwp.condG);rfl)|((with_reducible first|apply qqj|apply qqk);simp[hlt];done)|((with_reducible first|apply qr|apply qs|apply qt|apply qu|apply qv|apply qw)<;>intro h)
       |((with_reducible first|apply qx|apply qy|apply qz|apply qqa|apply qqb|apply qqc|apply qqd|apply qqe|apply qqf|apply qqg|apply qqh|apply qqi)<;>intro h<;>try simp[h, hlt])
       |((with_reducible refine and_go ?_ fun hs=>?_);focus omega
         try simp[hlt])
       |((with_reducible first|apply qql|apply qqn|apply qqp|apply qqm|apply qqo|apply qqq);simp[hlt])
      refine endP_mem (by first | exact .inl rfl | exact .inr rfl) [(20 :: A, .row 2 (m.prims.map Prim.pv))] [(1 :: A, .row 3 [m.pv])] ?_ ?_ ?_ ?_
      · repeat' first | exact Sub.nil _ | refine Sub.cons (by simp [St.find]) ?_
      · repeat' first | exact StLe.nil | (apply StLe.cons; (focus (simp [St.find]; done)))
        all_goals try ((((repeat' first | exact St.find_hd _ _ _ | (apply St.find_tl; (focus (first | assumption | (simp; done) | (simp [*]; done))))); done)); done)
        all_goals first | exact ObLe.refl _ | (refine ObLe.of_eq ?_; simp [*]; done) | (refine ObLe.row _ _ _ (ELe.one ?_ ?_); (focus (simp; done)))
        all_goals repeat' first | exact VLeL.nil | refine VLeL.cons ?_ ?_
        all_goals first | exact VLe.refl _ | exact VLe.cap _ _ | exact VLe.any _ | (apply VLe.row (h := ELe.refl _); (focus (((repeat' first | exact St.find_hd _ _ _ | (apply St.find_tl; (focus (first | assumption | (simp; done) | (simp [*]; done))))); done))); (simp [*]; done)) | (refine VLe.of_eq ?_; simp [*]; done)
      · simp [*]
      · repeat' first | exact Sub.nil _ | refine Sub.cons (by simp [St.find]) ?_

theorem ent125 : enters Tryz.prog 125 = true := by kernel_rfl
theorem runs125 (A : Key) (t : Texture) (h : t.texels.length ≤ 1000000) : Runs Tryz.prog A 125 [t.pv] [] t.pv [] := by
  refine Runs.body (rs := [.cell 2 59]) ent125 Tryz.func125 rfl Tryz.ntmps125 rfl (fun x h => by cases h) ?_
  repeat' first
   |(with_reducible first|apply qa|apply qb|apply qc|apply qd|apply qe|apply qf|apply qg|apply qh|apply qi|apply qj|apply qk|apply ql|apply qm|apply qn|apply qo|apply qp|apply qq|refine blockP_ne (by decide) ?_)
   |((with_reducible refine Pwp.reg fun K hK=>?_);simp[*])
   |((with_reducible refine Hid.go hK ?_);clear hK K)|((with_reducible apply Pwp.condG);rfl)|((with_reducible first|apply qqj|apply qqk);simp[*];done)|((with_reducible first|apply qr|apply qs|apply qt|apply qu|apply qv|apply qw)<;>intro h)
   |((with_reducible first|apply qx|apply qy|apply qz|apply qqa|apply qqb|apply qqc)<;>intro h<;>try simp[h, *])
   |((with_reducible refine and_go ?_ fun hs=>?_);focus omega
     try simp[*])
   |((with_reducible first|apply qql|apply qqn|apply qqp);simp[*])
  refine vcallk_pure (runs221 _ t.texels h) ?_
  repeat' first
   |(with_reducible first|apply qa|apply qb|apply qc|apply qd|apply qe|apply qf|apply qg|apply qh|apply qi|apply qj|apply qk|apply ql|apply qm|apply qn|apply qo|apply qp|apply qq|refine blockP_ne (by decide) ?_)
   |((with_reducible refine Pwp.reg fun K hK=>?_);simp[*])
   |((with_reducible refine Hid.go hK ?_);clear hK K)|((with_reducible apply Pwp.condG);rfl)|((with_reducible first|apply qqj|apply qqk);simp[*];done)|((with_reducible first|apply qr|apply qs|apply qt|apply qu|apply qv|apply qw)<;>intro h)
   |((with_reducible first|apply qx|apply qy|apply qz|apply qqa|apply qqb|apply qqc)<;>intro h<;>try simp[h, *])
   |((with_reducible refine and_go ?_ fun hs=>?_);focus omega
     try simp[*])
   |((with_reducible first|apply qql|apply qqn|apply qqp);simp[*])
  all_goals (refine endP_ret0 ?_; simp)

theorem ent123 : enters Tryz.prog 123 = true := by kernel_rfl
theorem runs123 (A : Key) (n : Node) (h : n.far.length ≤ 1000000) : Runs Tryz.prog A 123 [n.pv] [] n.pv [] := by
  refine Runs.body (rs := [.cell 2 51]) ent123 Tryz.func123 rfl Tryz.ntmps123 rfl (fun x h => by cases h) ?_
  repeat' first
   |(with_reducible first|apply qa|apply qb|apply qc|apply qd|apply qe|apply qf|apply qg|apply qh|apply qi|apply qj|apply qk|apply ql|apply qm|apply qn|apply qo|apply qp|apply qq|refine blockP_ne (by decide) ?_)
   |((with_reducible refine Pwp.reg fun K hK=>?_);simp[*])
   |((with_reducible refine Hid.go hK ?_);clear hK K)|((with_reducible apply Pwp.condG);rfl)|((with_reducible first|apply qqj|apply qqk);simp[*];done)|((with_reducible first|apply qr|apply qs|apply qt|apply qu|apply qv|apply qw)<;>intro h)
   |((with_reducible first|apply qx|apply qy|apply qz|apply qqa|apply qqb|apply qqc)<;>intro h<;>try simp[h, *])
   |((with_reducible refine and_go ?_ fun hs=>?_);focus omega
     try simp[*])
   |((with_reducible first|apply qql|apply qqn|apply qqp);simp[*])
  refine vcallk_pure (runs96 _ n.far h) ?_
  repeat' first
   |(with_reducible first|apply qa|apply qb|apply qc|apply qd|apply qe|apply qf|apply qg|apply qh|apply qi|apply qj|apply qk|apply ql|apply qm|apply qn|apply qo|apply qp|apply qq|refine blockP_ne (by decide) ?_)
   |((with_reducible refine Pwp.reg fun K hK=>?_);simp[*])
   |((with_reducible refine Hid.go hK ?_);clear hK K)|((with_reducible apply Pwp.condG);rfl)|((with_reducible first|apply qqj|apply qqk);simp[*];done)|((with_reducible first|apply qr|apply qs|apply qt|apply qu|apply qv|apply qw)<;>intro h)
   |((with_reducible first|apply qx|apply qy|apply qz|apply qqa|apply qqb|apply qqc)<;>intro h<;>try simp[h, *])
   |((with_reducible refine and_go ?_ fun hs=>?_);focus omega
     try simp[*])
   |((with_reducible first|apply qql|apply qqn|apply qqp);simp[*])
  all_goals (refine endP_ret0 ?_; simp)

theorem ent217 : enters Tryz.prog 217 = true := by kernel_rfl
theorem runs217 (A : Key) (l : List Slot) (h : l.length ≤ 1000000) : Runs Tryz.prog A 217 [arenaPv l] [] (.agg [.slice (5 :: A) l.length]) [(5 :: A, some (.row 2 (l.map Slot.pv)))] := by
  refine Runs.body (rs := [.cell 2 24]) ent217 Tryz.func217 rfl Tryz.ntmps217 rfl (by simp) ?_
  repeat' first
   |(with_reducible first|apply qa|apply qb|apply qc|apply qd|apply qe|apply qf|apply qg|apply qh|apply qi|apply qj|apply qk|apply ql|apply qm|apply qn|apply qo|apply qp|apply qq|refine blockP_ne (by decide) ?_)
   |((with_reducible refine Pwp.reg fun K hK=>?_);simp[*])
   |((with_reducible refine Hid.go hK ?_);clear hK K)|((with_reducible apply Pwp.condG);rfl)|((with_reducible first|apply qqj|apply qqk);simp[*];done)|((with_reducible first|apply qr|apply qs|apply qt|apply qu|apply qv|apply qw)<;>intro h)
   |((with_reducible first|apply qx|apply qy|apply qz|apply qqa|apply qqb|apply qqc)<;>intro h<;>try simp[h, *])
   |((with_reducible refine and_go ?_ fun hs=>?_);focus omega
     try simp[*])
   |((with_reducible first|apply qql|apply qqn|apply qqp);simp[*])
  have htk : List.take l.length (List.map Slot.pv l) = List.map Slot.pv l := List.take_of_length_le (by simp)
  refine endP_ret PLe.refl (by simp) (Sub.cons (by simp [St.find, htk]) (Sub.nil _))
end Go.Pv

set_option linter.unusedVariables false
set_option linter.unusedSimpArgs false
set_option maxRecDepth 100000
namespace Go.Pv
open Go Go.Proofs

/-! ### A search that keeps who was met in a map -/

def ent (M : List Handle) : List (PV × PV) := M.map fun h => (h.pv, .bool true)

/-- IndexFunc over handles, of a function that goes on with a memory. -/
theorem anyS_cons {σ α : Type} (step : σ → α → Bool × σ) (M : σ) (x : α) (xs : List α) : anyS step M (x :: xs) = if (step M x).1 then (true, (step M x).2) else anyS step (step M x).2 xs := rfl
def idxS {σ α : Type} (step : σ → α → Bool × σ) : Nat → σ → List α → Int × σ
  | _, M, [] => (-1, M)
  | i, M, x :: xs => if (step M x).1 then ((i : Int), (step M x).2) else idxS step (i + 1) (step M x).2 xs
theorem idxS_any {σ α : Type} (step : σ → α → Bool × σ) : ∀ (l : List α) (i : Nat) (M : σ), (decide (0 ≤ (idxS step i M l).1)) = (anyS step M l).1 ∧ (idxS step i M l).2 = (anyS step M l).2
  | [], i, M => by simp [idxS, anyS]
  | x :: l, i, M => by
    simp only [idxS, anyS]
    split
    · simp
    · exact idxS_any step l (i + 1) _

set_option maxHeartbeats 4000000
theorem runs242s (A : Key) (l : List Handle) (step : List Handle → Handle → Bool × List Handle) (V : List Handle → Prop) (g : FuncId) (fi ca : List PV) (k0 km : Key) (o0 : Ob) (hkk : k0 ≠ km) (M : List Handle) (hl : l.length < 4611686018427387904) (hV : V M)
    (hg : ∀ A' M', V M' → ∀ x ∈ l, ((step M' x).1 = false → V (step M' x).2) ∧ Runs Tryz.prog A' g (fi ++ ([x.pv] ++ ca)) [(k0, o0), (km, .mp (ent M'))] (.bool (step M' x).1) [(km, some (.mp (ent (step M' x).2)))]) :
    Runs Tryz.prog A 242 [handlesPv l, .func (.func g) fi ca] [(k0, o0), (km, .mp (ent M))] (.int .i64 (idxS step 0 M l).1) [(km, some (.mp (ent (idxS step 0 M l).2)))] := by
  refine Runs.body (rs := [.tmp 4]) ent242 Tryz.func242 rfl Tryz.ntmps242 rfl (fun x hx => by rw [List.mem_singleton.1 hx]; exact .inr ⟨_, St.find_tl hkk (St.find_hd _ _ _)⟩) ?_
  repeat' first
   |(with_reducible first|apply qa|apply qb|apply qc|apply qd|apply qe|apply qf|apply qg|apply qh|apply qi|apply qj|apply qk|apply ql|apply qm|apply qn|apply qo|apply qp|apply qq|refine blockP_ne (by decide) ?_)
   |((with_reducible refine Pwp.reg fun K hK=>?_);simp[*])
   |((with_reducible refine Hid.go hK ?_);clear hK K)|((with_reducible apply Pwp.condG);rfl)|((with_reducible first|apply qqj|apply qqk);simp[*];done)|((with_reducible first|apply qr|apply qs|apply qt|apply qu|apply qv|apply qw)<;>intro h)
   |((with_reducible first|apply qx|apply qy|apply qz|apply qqa|apply qqb|apply qqc)<;>intro h<;>try simp[h, *])
   |((with_reducible refine and_go ?_ fun hs=>?_);focus omega
     try simp[*])
   |((with_reducible first|apply qql|apply qqn|apply qqp);simp[*])
  refine Pwp.loopN (ι := Nat × List Handle) (S := fun i => ⟨[handlesPv l, .func (.func g) fi ca, .any, .any, .any, .any, .any, .int .i64 l.length, .int .i64 i.1, .any, .any, .any, .any, .any, .any, .any, .any, .any, .any], [(k0, o0), (km, .mp (ent i.2))], i.1 :: 4 :: A, 0⟩)
    (C := fun i => i.1 ≤ l.length ∧ V i.2 ∧ Hid (idxS step i.1 i.2 (l.drop i.1) = idxS step 0 M l)) (μ := fun i => l.length - i.1) (0, M) ?_ ?_ ?_
  · refine PLe.tellIn [] ?_ ?_ ?_ ?_
    · simp
    · exact Sub.nil _
    · simp [ObLe.refl, *]
    · repeat' first | exact VLeL.nil | refine VLeL.cons ?_ ?_
      all_goals first | exact VLe.any _ | exact VLe.refl _ | exact VLe.ghost _ ⟨_, rfl, by omega, by omega⟩ | (apply VLe.row (h := ELe.refl _); (focus (first | exact St.find_hd _ _ _ | exact St.find_tl (by simp) (St.find_hd _ _ _) | exact St.find_tl (by simp) (St.find_tl (by simp) (St.find_hd _ _ _)))); (simp [*]; done)) | exact VLe.of_eq (by simp [*])
  · exact ⟨by simp, hV, ⟨by simp⟩⟩
  · rintro ⟨i, M'⟩ ⟨hi, hVM, hp⟩
    simp only at hi hVM hp
    by_cases hlt : i < l.length
    · have hd : l.drop i = l[i] :: l.drop (i + 1) := List.drop_eq_getElem_cons hlt
      have hp2 := hp.of
      rw [hd] at hp2
      simp only [idxS] at hp2
      clear hp hd
      obtain ⟨hV2, hr⟩ := hg (5 :: 4 :: A) M' hVM l[i] (List.getElem_mem hlt)
      clear hr
      cases hb : (step M' l[i]).1 with
      | true =>
        rw [hb] at hp2
        simp only [if_true] at hp2
        have hp3 : Hid (idxS step 0 M l = ((i : Int), (step M' l[i]).2)) := ⟨hp2.symm⟩
        clear hp2
        repeat' first
         |(with_reducible first|apply qa|apply qb|apply qc|apply qd|apply qe|apply qf|apply qg|apply qh|apply qi|apply qj|apply qk|apply ql|apply qm|apply qn|apply qo|apply qp|apply qq|refine blockP_ne (by decide) ?_)
         |((with_reducible refine Pwp.reg fun K hK=>?_);simp[hlt])
         |((with_reducible refine Hid.go hK ?_);clear hK K)|((with_reducible apply Pwp.condG);rfl)|((with_reducible first|apply qqj|apply qqk);simp[hlt];done)|((with_reducible first|apply qr|apply qs|apply qt|apply qu|apply qv|apply qw)<;>intro h)
         |((with_reducible first|apply qx|apply qy|apply qz|apply qqa|apply qqb|apply qqc)<;>intro h<;>try simp[h, hlt])
         |((with_reducible refine and_go ?_ fun hs=>?_);focus omega
           try simp[hlt])
         |((with_reducible first|apply qql|apply qqn|apply qqp);simp[hlt])
        refine vcallk_new (hg _ M' hVM l[i] (List.getElem_mem hlt)).2 (Sub.refl _) ?_
        repeat' first
         |(with_reducible first|apply qa|apply qb|apply qc|apply qd|apply qe|apply qf|apply qg|apply qh|apply qi|apply qj|apply qk|apply ql|apply qm|apply qn|apply qo|apply qp|apply qq|refine blockP_ne (by decide) ?_)
         |((with_reducible refine Pwp.reg fun K hK=>?_);simp[hb, hkk, hkk.symm, wrap_succ i (by omega)])
         |((with_reducible refine Hid.go hK ?_);clear hK K)|((with_reducible apply Pwp.condG);rfl)|((with_reducible first|apply qqj|apply qqk);simp[hb, hkk, hkk.symm, wrap_succ i (by omega)];done)|((with_reducible first|apply qr|apply qs|apply qt|apply qu|apply qv|apply qw)<;>intro h)
         |((with_reducible first|apply qx|apply qy|apply qz|apply qqa|apply qqb|apply qqc)<;>intro h<;>try simp[h, hb, hkk, hkk.symm, wrap_succ i (by omega)])
         |((with_reducible refine and_go ?_ fun hs=>?_);focus omega
           try simp[hb, hkk, hkk.symm, wrap_succ i (by omega)])
         |((with_reducible first|apply qql|apply qqn|apply qqp);simp[hb, hkk, hkk.symm, wrap_succ i (by omega)])
        refine endP_ret PLe.refl ?_ ?_
        · simp [hp3.of]
        · rw [hp3.of]
          simp [hkk]
          exact Sub.refl _
      | false =>
        rw [hb] at hp2
        simp only [Bool.false_eq_true, if_false] at hp2
        have hp3 : Hid (idxS step (i + 1) (step M' l[i]).2 (l.drop (i + 1)) = idxS step 0 M l) := ⟨hp2⟩
        clear hp2
        repeat' first
         |(with_reducible first|apply qa|apply qb|apply qc|apply qd|apply qe|apply qf|apply qg|apply qh|apply qi|apply qj|apply qk|apply ql|apply qm|apply qn|apply qo|apply qp|apply qq|refine blockP_ne (by decide) ?_)
         |((with_reducible refine Pwp.reg fun K hK=>?_);simp[hlt])
         |((with_reducible refine Hid.go hK ?_);clear hK K)|((with_reducible apply Pwp.condG);rfl)|((with_reducible first|apply qqj|apply qqk);simp[hlt];done)|((with_reducible first|apply qr|apply qs|apply qt|apply qu|apply qv|apply qw)<;>intro h)
         |((with_reducible first|apply qx|apply qy|apply qz|apply qqa|apply qqb|apply qqc)<;>intro h<;>try simp[h, hlt])
         |((with_reducible refine and_go ?_ fun hs=>?_);focus omega
           try simp[hlt])
         |((with_reducible first|apply qql|apply qqn|apply qqp);simp[hlt])
        refine vcallk_new (hg _ M' hVM l[i] (List.getElem_mem hlt)).2 (Sub.refl _) ?_
        repeat' first
         |(with_reducible first|apply qa|apply qb|apply qc|apply qd|apply qe|apply qf|apply qg|apply qh|apply qi|apply qj|apply qk|apply ql|apply qm|apply qn|apply qo|apply qp|apply qq|refine blockP_ne (by decide) ?_)
         |((with_reducible refine Pwp.reg fun K hK=>?_);simp[hb, hkk, hkk.symm, wrap_succ i (by omega)])
         |((with_reducible refine Hid.go hK ?_);clear hK K)|((with_reducible apply Pwp.condG);rfl)|((with_reducible first|apply qqj|apply qqk);simp[hb, hkk, hkk.symm, wrap_succ i (by omega)];done)|((with_reducible first|apply qr|apply qs|apply qt|apply qu|apply qv|apply qw)<;>intro h)
         |((with_reducible first|apply qx|apply qy|apply qz|apply qqa|apply qqb|apply qqc)<;>intro h<;>try simp[h, hb, hkk, hkk.symm, wrap_succ i (by omega)])
         |((with_reducible refine and_go ?_ fun hs=>?_);focus omega
           try simp[hb, hkk, hkk.symm, wrap_succ i (by omega)])
         |((with_reducible first|apply qql|apply qqn|apply qqp);simp[hb, hkk, hkk.symm, wrap_succ i (by omega)])
        refine roundN_go (i + 1, (step M' l[i]).2) ?_ ⟨hlt, hV2 hb, hp3⟩ (by simp only; omega)
        refine PLe.tellNextG (pre := []) [] (by simp) ?_ ?_ ?_
        · repeat' first | exact Sub.nil _ | refine Sub.cons (by simp [St.find, *]) ?_
        · repeat' first | exact StLe.nil | (apply StLe.cons; (focus (first | (simp [St.find]; done) | (simp [St.find, *]; done))); (focus ((repeat' first | exact St.find_hd _ _ _ | (apply St.find_tl; (focus (first | assumption | (simp; done) | (simp [*]; done))))); done)))
          all_goals first | exact ObLe.refl _ | (refine ObLe.of_eq ?_; simp [*]; done) | (refine ObLe.row _ _ _ (ELe.one ?_ ?_); (focus (simp; done)))
          all_goals repeat' first | exact VLeL.nil | refine VLeL.cons ?_ ?_
          all_goals first | exact VLe.refl _ | exact VLe.any _ | exact VLe.cap _ _ | (refine VLe.ghost1 ?_ ?_ <;> omega) | (apply VLe.row (h := ELe.refl _); (focus ((repeat' first | exact St.find_hd _ _ _ | (apply St.find_tl; (focus (first | assumption | (simp; done) | (simp [*]; done))))); done)); (simp [*]; done)) | (apply VLe.prow (h := ELe.refl _); (focus ((repeat' first | exact St.find_hd _ _ _ | (apply St.find_tl; (focus (first | assumption | (simp; done) | (simp [*]; done))))); done)); (simp; done)) | (refine VLe.of_eq ?_; simp [*]; done)
        · repeat' first | exact VLeL.nil | refine VLeL.cons ?_ ?_
          all_goals first | exact VLe.refl _ | exact VLe.any _ | exact VLe.cap _ _ | (refine VLe.ghost1 ?_ ?_ <;> omega) | (apply VLe.row (h := ELe.refl _); (focus ((repeat' first | exact St.find_hd _ _ _ | (apply St.find_tl; (focus (first | assumption | (simp; done) | (simp [*]; done))))); done)); (simp [*]; done)) | (apply VLe.prow (h := ELe.refl _); (focus ((repeat' first | exact St.find_hd _ _ _ | (apply St.find_tl; (focus (first | assumption | (simp; done) | (simp [*]; done))))); done)); (simp; done)) | (refine VLe.of_eq ?_; simp [*]; done)
    · have hd : l.drop i = [] := List.drop_eq_nil_of_le (by omega)
      have hp2 := hp.of
      rw [hd] at hp2
      simp only [idxS] at hp2
      have hp3 : Hid (idxS step 0 M l = (-1, M')) := ⟨hp2.symm⟩
      clear hp2 hp hd
      repeat' first
       |(with_reducible first|apply qa|apply qb|apply qc|apply qd|apply qe|apply qf|apply qg|apply qh|apply qi|apply qj|apply qk|apply ql|apply qm|apply qn|apply qo|apply qp|apply qq|refine blockP_ne (by decide) ?_)
       |((with_reducible refine Pwp.reg fun K hK=>?_);simp[hlt])
       |((with_reducible refine Hid.go hK ?_);clear hK K)|((with_reducible apply Pwp.condG);rfl)|((with_reducible first|apply qqj|apply qqk);simp[hlt];done)|((with_reducible first|apply qr|apply qs|apply qt|apply qu|apply qv|apply qw)<;>intro h)
       |((with_reducible first|apply qx|apply qy|apply qz|apply qqa|apply qqb|apply qqc)<;>intro h<;>try simp[h, hlt])
       |((with_reducible refine and_go ?_ fun hs=>?_);focus omega
         try simp[hlt])
       |((with_reducible first|apply qql|apply qqn|apply qqp);simp[hlt])
      refine endP_ret PLe.refl ?_ ?_
      · simp [hp3.of]
      · rw [hp3.of]
        simp [hkk]
        exact Sub.refl _

theorem runs147s (A : Key) (l : List Handle) (step : List Handle → Handle → Bool × List Handle) (V : List Handle → Prop) (g : FuncId) (fi ca : List PV) (k0 km : Key) (o0 : Ob) (hkk : k0 ≠ km) (M : List Handle) (hl : l.length < 4611686018427387904) (hV : V M)
    (hg : ∀ A' M', V M' → ∀ x ∈ l, ((step M' x).1 = false → V (step M' x).2) ∧ Runs Tryz.prog A' g (fi ++ ([x.pv] ++ ca)) [(k0, o0), (km, .mp (ent M'))] (.bool (step M' x).1) [(km, some (.mp (ent (step M' x).2)))]) :
    Runs Tryz.prog A 147 [handlesPv l, .func (.func g) fi ca] [(k0, o0), (km, .mp (ent M))] (.bool (anyS step M l).1) [(km, some (.mp (ent (anyS step M l).2)))] := by
  refine Runs.body (rs := [.tmp 4]) ent147 Tryz.func147 rfl Tryz.ntmps147 rfl (fun x hx => by rw [List.mem_singleton.1 hx]; exact .inr ⟨_, St.find_tl hkk (St.find_hd _ _ _)⟩) ?_
  obtain ⟨e1, e2⟩ := idxS_any step l 0 M
  repeat' first
   |(with_reducible first|apply qa|apply qb|apply qc|apply qd|apply qe|apply qf|apply qg|apply qh|apply qi|apply qj|apply qk|apply ql|apply qm|apply qn|apply qo|apply qp|apply qq|refine blockP_ne (by decide) ?_)
   |((with_reducible refine Pwp.reg fun K hK=>?_);simp[*])
   |((with_reducible refine Hid.go hK ?_);clear hK K)|((with_reducible apply Pwp.condG);rfl)|((with_reducible first|apply qqj|apply qqk);simp[*];done)|((with_reducible first|apply qr|apply qs|apply qt|apply qu|apply qv|apply qw)<;>intro h)
   |((with_reducible first|apply qx|apply qy|apply qz|apply qqa|apply qqb|apply qqc)<;>intro h<;>try simp[h, *])
   |((with_reducible refine and_go ?_ fun hs=>?_);focus omega
     try simp[*])
   |((with_reducible first|apply qql|apply qqn|apply qqp);simp[*])
  refine vcallk_new (runs242s _ l step V g fi ca k0 km o0 hkk M hl hV hg) (Sub.refl _) ?_
  repeat' first
   |(with_reducible first|apply qa|apply qb|apply qc|apply qd|apply qe|apply qf|apply qg|apply qh|apply qi|apply qj|apply qk|apply ql|apply qm|apply qn|apply qo|apply qp|apply qq|refine blockP_ne (by decide) ?_)
   |((with_reducible refine Pwp.reg fun K hK=>?_);simp[hkk, hkk.symm])
   |((with_reducible refine Hid.go hK ?_);clear hK K)|((with_reducible apply Pwp.condG);rfl)|((with_reducible first|apply qqj|apply qqk);simp[hkk, hkk.symm];done)|((with_reducible first|apply qr|apply qs|apply qt|apply qu|apply qv|apply qw)<;>intro h)
   |((with_reducible first|apply qx|apply qy|apply qz|apply qqa|apply qqb|apply qqc)<;>intro h<;>try simp[h, hkk, hkk.symm])
   |((with_reducible refine and_go ?_ fun hs=>?_);focus omega
     try simp[hkk, hkk.symm])
   |((with_reducible first|apply qql|apply qqn|apply qqp);simp[hkk, hkk.symm])
  refine endP_ret PLe.refl ?_ ?_
  · simp [e1]
  · rw [← e2]
    simp [hkk]
    exact Sub.refl _
set_option maxHeartbeats 4000000
theorem runs242t (A : Key) (l : List Handle) (step : List Handle → Handle → Bool × List Handle) (V : List Handle → Prop) (g : FuncId) (fi ca : List PV) (km : Key) (M : List Handle) (hl : l.length < 4611686018427387904) (hV : V M)
    (hg : ∀ A' M', V M' → ∀ x ∈ l, ((step M' x).1 = false → V (step M' x).2) ∧ Runs Tryz.prog A' g (fi ++ ([x.pv] ++ ca)) [(km, .mp (ent M'))] (.bool (step M' x).1) [(km, some (.mp (ent (step M' x).2)))]) :
    Runs Tryz.prog A 242 [handlesPv l, .func (.func g) fi ca] [(km, .mp (ent M))] (.int .i64 (idxS step 0 M l).1) [(km, some (.mp (ent (idxS step 0 M l).2)))] := by
  refine Runs.body (rs := [.tmp 4]) ent242 Tryz.func242 rfl Tryz.ntmps242 rfl (fun x hx => by rw [List.mem_singleton.1 hx]; exact .inr ⟨_, St.find_hd _ _ _⟩) ?_
  repeat' first
   |(with_reducible first|apply qa|apply qb|apply qc|apply qd|apply qe|apply qf|apply qg|apply qh|apply qi|apply qj|apply qk|apply ql|apply qm|apply qn|apply qo|apply qp|apply qq|refine blockP_ne (by decide) ?_)
   |((with_reducible refine Pwp.reg fun K hK=>?_);simp[*])
   |((with_reducible refine Hid.go hK ?_);clear hK K)|((with_reducible apply Pwp.condG);rfl)|((with_reducible first|apply qqj|apply qqk);simp[*];done)|((with_reducible first|apply qr|apply qs|apply qt|apply qu|apply qv|apply qw)<;>intro h)
   |((with_reducible first|apply qx|apply qy|apply qz|apply qqa|apply qqb|apply qqc)<;>intro h<;>try simp[h, *])
   |((with_reducible refine and_go ?_ fun hs=>?_);focus omega
     try simp[*])
   |((with_reducible first|apply qql|apply qqn|apply qqp);simp[*])
  refine Pwp.loopN (ι := Nat × List Handle) (S := fun i => ⟨[handlesPv l, .func (.func g) fi ca, .any, .any, .any, .any, .any, .int .i64 l.length, .int .i64 i.1, .any, .any, .any, .any, .any, .any, .any, .any, .any, .any], [(km, .mp (ent i.2))], i.1 :: 4 :: A, 0⟩)
    (C := fun i => i.1 ≤ l.length ∧ V i.2 ∧ Hid (idxS step i.1 i.2 (l.drop i.1) = idxS step 0 M l)) (μ := fun i => l.length - i.1) (0, M) ?_ ?_ ?_
  · refine PLe.tellIn [] ?_ ?_ ?_ ?_
    · simp
    · exact Sub.nil _
    · simp [ObLe.refl, *]
    · repeat' first | exact VLeL.nil | refine VLeL.cons ?_ ?_
      all_goals first | exact VLe.any _ | exact VLe.refl _ | exact VLe.ghost _ ⟨_, rfl, by omega, by omega⟩ | (apply VLe.row (h := ELe.refl _); (focus (first | exact St.find_hd _ _ _ | exact St.find_tl (by simp) (St.find_hd _ _ _) | exact St.find_tl (by simp) (St.find_tl (by simp) (St.find_hd _ _ _)))); (simp [*]; done)) | exact VLe.of_eq (by simp [*])
  · exact ⟨by simp, hV, ⟨by simp⟩⟩
  · rintro ⟨i, M'⟩ ⟨hi, hVM, hp⟩
    simp only at hi hVM hp
    by_cases hlt : i < l.length
    · have hd : l.drop i = l[i] :: l.drop (i + 1) := List.drop_eq_getElem_cons hlt
      have hp2 := hp.of
      rw [hd] at hp2
      simp only [idxS] at hp2
      clear hp hd
      obtain ⟨hV2, hr⟩ := hg (5 :: 4 :: A) M' hVM l[i] (List.getElem_mem hlt)
      clear hr
      cases hb : (step M' l[i]).1 with
      | true =>
        rw [hb] at hp2
        simp only [if_true] at hp2
        have hp3 : Hid (idxS step 0 M l = ((i : Int), (step M' l[i]).2)) := ⟨hp2.symm⟩
        clear hp2
        repeat' first
         |(with_reducible first|apply qa|apply qb|apply qc|apply qd|apply qe|apply qf|apply qg|apply qh|apply qi|apply qj|apply qk|apply ql|apply qm|apply qn|apply qo|apply qp|apply qq|refine blockP_ne (by decide) ?_)
         |((with_reducible refine Pwp.reg fun K hK=>?_);simp[hlt])
         |((with_reducible refine Hid.go hK ?_);clear hK K)|((with_reducible apply Pwp.condG);rfl)|((with_reducible first|apply qqj|apply qqk);simp[hlt];done)|((with_reducible first|apply qr|apply qs|apply qt|apply qu|apply qv|apply qw)<;>intro h)
         |((with_reducible first|apply qx|apply qy|apply qz|apply qqa|apply qqb|apply qqc)<;>intro h<;>try simp[h, hlt])
         |((with_reducible refine and_go ?_ fun hs=>?_);focus omega
           try simp[hlt])
         |((with_reducible first|apply qql|apply qqn|apply qqp);simp[hlt])
        refine vcallk_new (hg _ M' hVM l[i] (List.getElem_mem hlt)).2 (Sub.refl _) ?_
        repeat' first
         |(with_reducible first|apply qa|apply qb|apply qc|apply qd|apply qe|apply qf|apply qg|apply qh|apply qi|apply qj|apply qk|apply ql|apply qm|apply qn|apply qo|apply qp|apply qq|refine blockP_ne (by decide) ?_)
         |((with_reducible refine Pwp.reg fun K hK=>?_);simp[hb, wrap_succ i (by omega)])
         |((with_reducible refine Hid.go hK ?_);clear hK K)|((with_reducible apply Pwp.condG);rfl)|((with_reducible first|apply qqj|apply qqk);simp[hb, wrap_succ i (by omega)];done)|((with_reducible first|apply qr|apply qs|apply qt|apply qu|apply qv|apply qw)<;>intro h)
         |((with_reducible first|apply qx|apply qy|apply qz|apply qqa|apply qqb|apply qqc)<;>intro h<;>try simp[h, hb, wrap_succ i (by omega)])
         |((with_reducible refine and_go ?_ fun hs=>?_);focus omega
           try simp[hb, wrap_succ i (by omega)])
         |((with_reducible first|apply qql|apply qqn|apply qqp);simp[hb, wrap_succ i (by omega)])
        refine endP_ret PLe.refl ?_ ?_
        · simp [hp3.of]
        · rw [hp3.of]
          simp
          exact Sub.refl _
      | false =>
        rw [hb] at hp2
        simp only [Bool.false_eq_true, if_false] at hp2
        have hp3 : Hid (idxS step (i + 1) (step M' l[i]).2 (l.drop (i + 1)) = idxS step 0 M l) := ⟨hp2⟩
        clear hp2
        repeat' first
         |(with_reducible first|apply qa|apply qb|apply qc|apply qd|apply qe|apply qf|apply qg|apply qh|apply qi|apply qj|apply qk|apply ql|apply qm|apply qn|apply qo|apply qp|apply qq|refine blockP_ne (by decide) ?_)
         |((with_reducible refine Pwp.reg fun K hK=>?_);simp[hlt])
         |((with_reducible refine Hid.go hK ?_);clear hK K)|((with_reducible apply Pwp.condG);rfl)|((with_reducible first|apply qqj|apply qqk);simp[hlt];done)|((with_reducible first|apply qr|apply qs|apply qt|apply qu|apply qv|apply qw)<;>intro h)
         |((with_reducible first|apply qx|apply qy|apply qz|apply qqa|apply qqb|apply qqc)<;>intro h<;>try simp[h, hlt])
         |((with_reducible refine and_go ?_ fun hs=>?_);focus omega
           try simp[hlt])
         |((with_reducible first|apply qql|apply qqn|apply qqp);simp[hlt])
        refine vcallk_new (hg _ M' hVM l[i] (List.getElem_mem hlt)).2 (Sub.refl _) ?_
        repeat' first
         |(with_reducible first|apply qa|apply qb|apply qc|apply qd|apply qe|apply qf|apply qg|apply qh|apply qi|apply qj|apply qk|apply ql|apply qm|apply qn|apply qo|apply qp|apply qq|refine blockP_ne (by decide) ?_)
         |((with_reducible refine Pwp.reg fun K hK=>?_);simp[hb, wrap_succ i (by omega)])
         |((with_reducible refine Hid.go hK ?_);clear hK K)|((with_reducible apply Pwp.condG);rfl)|((with_reducible first|apply qqj|apply qqk);simp[hb, wrap_succ i (by omega)];done)|((with_reducible first|apply qr|apply qs|apply qt|apply qu|apply qv|apply qw)<;>intro h)
         |((with_reducible first|apply qx|apply qy|apply qz|apply qqa|apply qqb|apply qqc)<;>intro h<;>try simp[h, hb, wrap_succ i (by omega)])
         |((with_reducible refine and_go ?_ fun hs=>?_);focus omega
           try simp[hb, wrap_succ i (by omega)])
         |((with_reducible first|apply qql|apply qqn|apply qqp);simp[hb, wrap_succ i (by omega)])
        refine roundN_go (i + 1, (step M' l[i]).2) ?_ ⟨hlt, hV2 hb, hp3⟩ (by simp only; omega)
        refine PLe.tellNextG (pre := []) [] (by simp) ?_ ?_ ?_
        · repeat' first | exact Sub.nil _ | refine Sub.cons (by simp [St.find, *]) ?_
        · repeat' first | exact StLe.nil | (apply StLe.cons; (focus (first | (simp [St.find]; done) | (simp [St.find, *]; done))); (focus ((repeat' first | exact St.find_hd _ _ _ | (apply St.find_tl; (focus (first | assumption | (simp; done) | (simp [*]; done))))); done)))
          all_goals first | exact ObLe.refl _ | (refine ObLe.of_eq ?_; simp [*]; done) | (refine ObLe.row _ _ _ (ELe.one ?_ ?_); (focus (simp; done)))
          all_goals repeat' first | exact VLeL.nil | refine VLeL.cons ?_ ?_
          all_goals first | exact VLe.refl _ | exact VLe.any _ | exact VLe.cap _ _ | (refine VLe.ghost1 ?_ ?_ <;> omega) | (apply VLe.row (h := ELe.refl _); (focus ((repeat' first | exact St.find_hd _ _ _ | (apply St.find_tl; (focus (first | assumption | (simp; done) | (simp [*]; done))))); done)); (simp [*]; done)) | (apply VLe.prow (h := ELe.refl _); (focus ((repeat' first | exact St.find_hd _ _ _ | (apply St.find_tl; (focus (first | assumption | (simp; done) | (simp [*]; done))))); done)); (simp; done)) | (refine VLe.of_eq ?_; simp [*]; done)
        · repeat' first | exact VLeL.nil | refine VLeL.cons ?_ ?_
          all_goals first | exact VLe.refl _ | exact VLe.any _ | exact VLe.cap _ _ | (refine VLe.ghost1 ?_ ?_ <;> omega) | (apply VLe.row (h := ELe.refl _); (focus ((repeat' first | exact St.find_hd _ _ _ | (apply St.find_tl; (focus (first | assumption | (simp; done) | (simp [*]; done))))); done)); (simp [*]; done)) | (apply VLe.prow (h := ELe.refl _); (focus ((repeat' first | exact St.find_hd _ _ _ | (apply St.find_tl; (focus (first | assumption | (simp; done) | (simp [*]; done))))); done)); (simp; done)) | (refine VLe.of_eq ?_; simp [*]; done)
    · have hd : l.drop i = [] := List.drop_eq_nil_of_le (by omega)
      have hp2 := hp.of
      rw [hd] at hp2
      simp only [idxS] at hp2
      have hp3 : Hid (idxS step 0 M l = (-1, M')) := ⟨hp2.symm⟩
      clear hp2 hp hd
      repeat' first
       |(with_reducible first|apply qa|apply qb|apply qc|apply qd|apply qe|apply qf|apply qg|apply qh|apply qi|apply qj|apply qk|apply ql|apply qm|apply qn|apply qo|apply qp|apply qq|refine blockP_ne (by decide) ?_)
       |((with_reducible refine Pwp.reg fun K hK=>?_);simp[hlt])
       |((with_reducible refine Hid.go hK ?_);clear hK K)|((with_reducible apply Pwp.condG);rfl)|((with_reducible first|apply qqj|apply qqk);simp[hlt];done)|((with_reducible first|apply qr|apply qs|apply qt|apply qu|apply qv|apply qw)<;>intro h)
       |((with_reducible first|apply qx|apply qy|apply qz|apply qqa|apply qqb|apply qqc)<;>intro h<;>try simp[h, hlt])
       |((with_reducible refine and_go ?_ fun hs=>?_);focus omega
         try simp[hlt])
       |((with_reducible first|apply qql|apply qqn|apply qqp);simp[hlt])
      refine endP_ret PLe.refl ?_ ?_
      · simp [hp3.of]
      · rw [hp3.of]
        simp
        exact Sub.refl _

theorem runs147t (A : Key) (l : List Handle) (step : List Handle → Handle → Bool × List Handle) (V : List Handle → Prop) (g : FuncId) (fi ca : List PV) (km : Key) (M : List Handle) (hl : l.length < 4611686018427387904) (hV : V M)
    (hg : ∀ A' M', V M' → ∀ x ∈ l, ((step M' x).1 = false → V (step M' x).2) ∧ Runs Tryz.prog A' g (fi ++ ([x.pv] ++ ca)) [(km, .mp (ent M'))] (.bool (step M' x).1) [(km, some (.mp (ent (step M' x).2)))]) :
    Runs Tryz.prog A 147 [handlesPv l, .func (.func g) fi ca] [(km, .mp (ent M))] (.bool (anyS step M l).1) [(km, some (.mp (ent (anyS step M l).2)))] := by
  refine Runs.body (rs := [.tmp 4]) ent147 Tryz.func147 rfl Tryz.ntmps147 rfl (fun x hx => by rw [List.mem_singleton.1 hx]; exact .inr ⟨_, St.find_hd _ _ _⟩) ?_
  obtain ⟨e1, e2⟩ := idxS_any step l 0 M
  repeat' first
   |(with_reducible first|apply qa|apply qb|apply qc|apply qd|apply qe|apply qf|apply qg|apply qh|apply qi|apply qj|apply qk|apply ql|apply qm|apply qn|apply qo|apply qp|apply qq|refine blockP_ne (by decide) ?_)
   |((with_reducible refine Pwp.reg fun K hK=>?_);simp[*])
   |((with_reducible refine Hid.go hK ?_);clear hK K)|((with_reducible apply Pwp.condG);rfl)|((with_reducible first|apply qqj|apply qqk);simp[*];done)|((with_reducible first|apply qr|apply qs|apply qt|apply qu|apply qv|apply qw)<;>intro h)
   |((with_reducible first|apply qx|apply qy|apply qz|apply qqa|apply qqb|apply qqc)<;>intro h<;>try simp[h, *])
   |((with_reducible refine and_go ?_ fun hs=>?_);focus omega
     try simp[*])
   |((with_reducible first|apply qql|apply qqn|apply qqp);simp[*])
  refine vcallk_new (runs242t _ l step V g fi ca km M hl hV hg) (Sub.refl _) ?_
  repeat' first
   |(with_reducible first|apply qa|apply qb|apply qc|apply qd|apply qe|apply qf|apply qg|apply qh|apply qi|apply qj|apply qk|apply ql|apply qm|apply qn|apply qo|apply qp|apply qq|refine blockP_ne (by decide) ?_)
   |((with_reducible refine Pwp.reg fun K hK=>?_);simp[*])
   |((with_reducible refine Hid.go hK ?_);clear hK K)|((with_reducible apply Pwp.condG);rfl)|((with_reducible first|apply qqj|apply qqk);simp[*];done)|((with_reducible first|apply qr|apply qs|apply qt|apply qu|apply qv|apply qw)<;>intro h)
   |((with_reducible first|apply qx|apply qy|apply qz|apply qqa|apply qqb|apply qqc)<;>intro h<;>try simp[h, *])
   |((with_reducible refine and_go ?_ fun hs=>?_);focus omega
     try simp[*])
   |((with_reducible first|apply qql|apply qqn|apply qqp);simp[*])
  refine endP_ret PLe.refl ?_ ?_
  · simp [e1]
  · rw [← e2]
    simp
    exact Sub.refl _
end Go.Pv

set_option linter.unusedVariables false
set_option linter.unusedSimpArgs false
set_option maxRecDepth 100000
namespace Go.Pv
open Go Go.Proofs

@[simp] theorem keyFs32 : keyFs Tryz.prog 32 = true := by kernel_rfl

theorem pfind_ent (h : Handle) (M : List Handle) : pfind Tryz.prog 32 h.pv (ent M) = some (if h ∈ M then some (.bool true) else none) := by
  induction M with
  | nil => rfl
  | cons x M ih =>
    have e : pEqT Tryz.prog 32 h.pv x.pv = some (decide (h = x)) := by
      simp [pEqT]
    simp only [ent, List.map_cons, pfind] at ih ⊢
    rw [e]
    by_cases hx : h = x
    · simp [hx]
    · simp only [hx, decide_false]
      rw [ih]
      simp [hx]
theorem ent_snoc (M : List Handle) (h : Handle) : ent M ++ [(h.pv, .bool true)] = ent (M ++ [h]) := by simp [ent]

def lookFn (g : Graph) (to : Handle) (km kl : Key) : PV := .func (.func 243) [] [.iptr [to.pv] 0 0, .iptr [.map km] 0 0, .iptr [g.pv] 0 0, .ptr kl 1 0 0]

/-- What is asked of who was met. -/
structure MetOk (V : List Handle) (f : Nat) (M : List Handle) : Prop where
  inV : ∀ x ∈ M, x ∈ V
  nodup : M.Nodup
  fuel : V.length < f + M.length

structure Closed (g : Graph) (V : List Handle) : Prop where
  kids : ∀ x ∈ V, ∀ c ∈ kidsAt g.kids x, c ∈ V
  range : ∀ x ∈ V, 0 ≤ x.slot ∧ x.slot < g.kids.length
  len : ∀ l ∈ g.kids, l.length < 4611686018427387904

set_option maxHeartbeats 4000000
theorem ent243 : enters Tryz.prog 243 = true := by kernel_rfl
theorem runs243 (g : Graph) (to : Handle) (V : List Handle) (hV : Closed g V) : ∀ (f : Nat) (M : List Handle) (h : Handle), MetOk V f M → h ∈ V → ∀ (A kl km : Key), kl ≠ km →
    Runs Tryz.prog A 243 [h.pv, .iptr [to.pv] 0 0, .iptr [.map km] 0 0, .iptr [g.pv] 0 0, .ptr kl 1 0 0] [(kl, .row 1 [lookFn g to km kl]), (km, .mp (ent M))] (.bool (dfs g.kids to f M h).1) [(km, some (.mp (ent (dfs g.kids to f M h).2)))]
  | 0, M, h, hM, hh, A, kl, km, hkk => by
    have := nodup_len hM.inV hM.nodup
    have := hM.fuel
    omega
  | f + 1, M, h, hM, hh, A, kl, km, hkk => by
    have hups : ∀ x ∈ [(km, some (Ob.mp (ent (dfs g.kids to (f + 1) M h).2)))], A <:+ x.1 ∨ ∃ ob, St.find [(kl, Ob.row 1 [lookFn g to km kl]), (km, .mp (ent M))] x.1 = some ob := fun x hx => by rw [List.mem_singleton.1 hx]; exact .inr ⟨_, St.find_tl hkk (St.find_hd _ _ _)⟩
    refine Runs.fresh ent243 hups fun hfr => ?_
    have nl := hfr kl _ (St.find_hd _ _ _)
    have nm := hfr km _ (St.find_tl hkk (St.find_hd _ _ _))
    have l1 := fresh1 nl
    have l2 := fresh1' nl
    have m1 := fresh1 nm
    have m2 := fresh1' nm
    clear hfr nl nm
    refine Runs.body (rs := [.tmp 6]) ent243 Tryz.func243 rfl Tryz.ntmps243 rfl hups ?_
    clear hups
    unfold lookFn
    have hpf := pfind_ent h M
    by_cases h1 : h = to
    · have hd : dfs g.kids to (f + 1) M h = (true, M) := by simp [dfs, h1]
      rw [hd]
      subst h1
      repeat' first
       |(with_reducible first|apply qa|apply qb|apply qc|apply qd|apply qe|apply qf|apply qg|apply qh|apply qi|apply qj|apply qk|apply ql|apply qm|apply qn|apply qo|apply qp|apply qq|refine blockP_ne (by decide) ?_)
       |((with_reducible refine Pwp.reg fun K hK=>?_);simp[hkk, hkk.symm, l1, l2, m1, m2])
       |((with_reducible refine Pwp.drawn (id := 6) follows_mixed [0, 1, 0, 4, 15, 31, 0, 127, 255] [false, false, false, false, false, false, false, true, false] ?_ fun K hK => ?_); focus kernel_rfl
         simp [hkk, hkk.symm, l1, l2, m1, m2])
       |((with_reducible refine Hid.go hK ?_);clear hK K)|((with_reducible apply Pwp.condG);rfl)|((with_reducible first|apply qqj|apply qqk);simp[hkk, hkk.symm, l1, l2, m1, m2];done)|((with_reducible first|apply qr|apply qs|apply qt|apply qu|apply qv|apply qw)<;>intro h)
       |((with_reducible first|apply qx|apply qy|apply qz|apply qqa|apply qqb|apply qqc|apply qqd|apply qqe|apply qqf|apply qqg|apply qqh|apply qqi)<;>intro h<;>try simp[h, hkk, hkk.symm, l1, l2, m1, m2])
       |((with_reducible refine and_go ?_ fun hs=>?_);focus omega
         try simp[hkk, hkk.symm, l1, l2, m1, m2])
       |((with_reducible first|apply qql|apply qqn|apply qqp|apply qqm|apply qqo|apply qqq);simp[hkk, hkk.symm, l1, l2, m1, m2])
      refine endP_ret PLe.refl (by simp) ?_
      refine Sub.upd2 hkk ?_ ?_ <;> simp [St.find, lookFn, hkk, hkk.symm, l1, l2, m1, m2]
    · by_cases h2 : h ∈ M
      · have hd : dfs g.kids to (f + 1) M h = (false, M) := by simp [dfs, h1, h2]
        rw [hd]
        simp only [h2, if_true, Handle.pv, Handle.cs] at hpf
        repeat' first
         |(with_reducible first|apply qa|apply qb|apply qc|apply qd|apply qe|apply qf|apply qg|apply qh|apply qi|apply qj|apply qk|apply ql|apply qm|apply qn|apply qo|apply qp|apply qq|refine blockP_ne (by decide) ?_)
         |((with_reducible refine Pwp.reg fun K hK=>?_);simp[h1, hkk, hkk.symm, l1, l2, m1, m2, hpf])
         |((with_reducible refine Pwp.drawn (id := 6) follows_mixed [0, 1, 0, 4, 15, 31, 0, 127, 255] [false, false, false, false, false, false, false, true, false] ?_ fun K hK => ?_); focus kernel_rfl
           simp [h1, hkk, hkk.symm, l1, l2, m1, m2, hpf])
         |((with_reducible refine Hid.go hK ?_);clear hK K)|((with_reducible apply Pwp.condG);rfl)|((with_reducible first|apply qqj|apply qqk);simp[h1, hkk, hkk.symm, l1, l2, m1, m2, hpf];done)|((with_reducible first|apply qr|apply qs|apply qt|apply qu|apply qv|apply qw)<;>intro h)
         |((with_reducible first|apply qx|apply qy|apply qz|apply qqa|apply qqb|apply qqc|apply qqd|apply qqe|apply qqf|apply qqg|apply qqh|apply qqi)<;>intro h<;>try simp[h, h1, hkk, hkk.symm, l1, l2, m1, m2, hpf])
         |((with_reducible refine and_go ?_ fun hs=>?_);focus omega
           try simp[h1, hkk, hkk.symm, l1, l2, m1, m2, hpf])
         |((with_reducible first|apply qql|apply qqn|apply qqp|apply qqm|apply qqo|apply qqq);simp[h1, hkk, hkk.symm, l1, l2, m1, m2, hpf])
        refine endP_ret PLe.refl (by simp) ?_
        refine Sub.upd2 hkk ?_ ?_ <;> simp [St.find, lookFn, hkk, hkk.symm, l1, l2, m1, m2]
      · obtain ⟨r1, r2⟩ := hV.range h hh
        have r3 : h.slot.toNat < g.kids.length := by omega
        have hka : kidsAt g.kids h = g.kids[h.slot.toNat] := by simp [kidsAt, List.getD_eq_getElem?_getD, r3]
        have hd : dfs g.kids to (f + 1) M h = anyS (dfs g.kids to f) (M ++ [h]) g.kids[h.slot.toNat] := by simp [dfs, h1, h2, hka]
        rw [hd]
        simp only [h2, if_false, Handle.pv, Handle.cs] at hpf
        have hsn := ent_snoc M h
        simp only [Handle.pv, Handle.cs] at hsn
        have hM2 : MetOk V f (M ++ [h]) := by
          refine ⟨fun x hx => ?_, ?_, by have := hM.fuel; simp; omega⟩
          · rcases List.mem_append.1 hx with hx | hx
            · exact hM.inV x hx
            · rw [List.mem_singleton.1 hx]; exact hh
          · rw [List.nodup_append]
            refine ⟨hM.nodup, by simp, fun x hx y hy e => ?_⟩
            rw [List.mem_singleton.1 hy] at e
            exact h2 (e ▸ hx)
        repeat' first
         |(with_reducible first|apply qa|apply qb|apply qc|apply qd|apply qe|apply qf|apply qg|apply qh|apply qi|apply qj|apply qk|apply ql|apply qm|apply qn|apply qo|apply qp|apply qq|refine blockP_ne (by decide) ?_)
         |((with_reducible refine Pwp.reg fun K hK=>?_);simp[h1, hkk, hkk.symm, l1, l2, m1, m2, hpf, hsn, r1, r2, r3])
         |((with_reducible refine Pwp.drawn (id := 6) follows_mixed [0, 1, 0, 4, 15, 31, 0, 127, 255] [false, false, false, false, false, false, false, true, false] ?_ fun K hK => ?_); focus kernel_rfl
           simp [h1, hkk, hkk.symm, l1, l2, m1, m2, hpf, hsn, r1, r2, r3])
         |((with_reducible refine Hid.go hK ?_);clear hK K)|((with_reducible apply Pwp.condG);rfl)|((with_reducible first|apply qqj|apply qqk);simp[h1, hkk, hkk.symm, l1, l2, m1, m2, hpf, hsn, r1, r2, r3];done)|((with_reducible first|apply qr|apply qs|apply qt|apply qu|apply qv|apply qw)<;>intro h)
         |((with_reducible first|apply qx|apply qy|apply qz|apply qqa|apply qqb|apply qqc|apply qqd|apply qqe|apply qqf|apply qqg|apply qqh|apply qqi)<;>intro h<;>try simp[h, h1, hkk, hkk.symm, l1, l2, m1, m2, hpf, hsn, r1, r2, r3])
         |((with_reducible refine and_go ?_ fun hs=>?_);focus omega
           try simp[h1, hkk, hkk.symm, l1, l2, m1, m2, hpf, hsn, r1, r2, r3])
         |((with_reducible first|apply qql|apply qqn|apply qqp|apply qqm|apply qqo|apply qqq);simp[h1, hkk, hkk.symm, l1, l2, m1, m2, hpf, hsn, r1, r2, r3])
        refine dcallk_new (runs147s _ g.kids[h.slot.toNat] (dfs g.kids to f) (MetOk V f) 243 [] [.iptr [to.pv] 0 0, .iptr [.map km] 0 0, .iptr [g.pv] 0 0, .ptr kl 1 0 0] kl km (.row 1 [lookFn g to km kl]) hkk (M ++ [h]) (hV.len _ (List.getElem_mem _)) hM2 (fun A' M' hM' x hx => ?_)) ?_ (.inl rfl) ?_
        rotate_left
        · refine Sub.cons ?_ (Sub.cons ?_ (Sub.nil _)) <;> simp [St.find, lookFn, hkk, hkk.symm, l1, l2, m1, m2]
        rotate_left
        · have hxV : x ∈ V := hV.kids h hh x (by rw [hka]; exact hx)
          refine ⟨fun hf => ?_, runs243 g to V hV f M' x hM' hxV A' kl km hkk⟩
          obtain ⟨m1, m2⟩ := dfs_false (to := to) hV.kids f M' x hM'.inV hM'.nodup hxV hM'.fuel hf
          exact ⟨m1.inV, m1.nodup, by have := nodup_len m1.sub hM'.nodup; have := hM'.fuel; omega⟩
        · repeat' first
           |(with_reducible first|apply qa|apply qb|apply qc|apply qd|apply qe|apply qf|apply qg|apply qh|apply qi|apply qj|apply qk|apply ql|apply qm|apply qn|apply qo|apply qp|apply qq|refine blockP_ne (by decide) ?_)
           |((with_reducible refine Pwp.reg fun K hK=>?_);simp[hkk, hkk.symm, l1, l2, m1, m2])
           |((with_reducible refine Pwp.drawn (id := 6) follows_mixed [0, 1, 0, 4, 15, 31, 0, 127, 255] [false, false, false, false, false, false, false, true, false] ?_ fun K hK => ?_); focus kernel_rfl
             simp [hkk, hkk.symm, l1, l2, m1, m2])
           |((with_reducible refine Hid.go hK ?_);clear hK K)|((with_reducible apply Pwp.condG);rfl)|((with_reducible first|apply qqj|apply qqk);simp[hkk, hkk.symm, l1, l2, m1, m2];done)|((with_reducible first|apply qr|apply qs|apply qt|apply qu|apply qv|apply qw)<;>intro h)
           |((with_reducible first|apply qx|apply qy|apply qz|apply qqa|apply qqb|apply qqc|apply qqd|apply qqe|apply qqf|apply qqg|apply qqh|apply qqi)<;>intro h<;>try simp[h, hkk, hkk.symm, l1, l2, m1, m2])
           |((with_reducible refine and_go ?_ fun hs=>?_);focus omega
             try simp[hkk, hkk.symm, l1, l2, m1, m2])
           |((with_reducible first|apply qql|apply qqn|apply qqp|apply qqm|apply qqo|apply qqq);simp[hkk, hkk.symm, l1, l2, m1, m2])
          refine endP_ret PLe.refl (by simp) ?_
          refine Sub.upd2 hkk ?_ ?_ <;> simp [St.find, lookFn, hkk, hkk.symm, l1, l2, m1, m2]

theorem ent149 : enters Tryz.prog 149 = true := by kernel_rfl
theorem runs149 (g : Graph) (to : Handle) (V : List Handle) (hV : Closed g V) (f : Nat) (M : List Handle) (h : Handle) (hM : MetOk V f M) (hh : h ∈ V) (A km : Key) :
    Runs Tryz.prog A 149 [g.pv, .map km, h.pv, to.pv] [(km, .mp (ent M))] (.bool (dfs g.kids to f M h).1) [(km, some (.mp (ent (dfs g.kids to f M h).2)))] := by
  have hups : ∀ x ∈ [(km, some (Ob.mp (ent (dfs g.kids to f M h).2)))], A <:+ x.1 ∨ ∃ ob, St.find [(km, Ob.mp (ent M))] x.1 = some ob := fun x hx => by rw [List.mem_singleton.1 hx]; exact .inr ⟨_, St.find_hd _ _ _⟩
  refine Runs.fresh ent149 hups fun hfr => ?_
  have m1 := fresh1 (hfr km _ (St.find_hd _ _ _))
  have m2 := fresh1' (hfr km _ (St.find_hd _ _ _))
  clear hfr
  refine Runs.body (rs := [.tmp 8]) ent149 Tryz.func149 rfl Tryz.ntmps149 rfl hups ?_
  clear hups
  repeat' first
   |(with_reducible first|apply qa|apply qb|apply qc|apply qd|apply qe|apply qf|apply qg|apply qh|apply qi|apply qj|apply qk|apply ql|apply qm|apply qn|apply qo|apply qp|apply qq|refine blockP_ne (by decide) ?_)
   |((with_reducible refine Hid.go hK ?_);clear hK K)|((with_reducible apply Pwp.condG);rfl)|((with_reducible first|apply qqj|apply qqk);simp[m1, m2];done)|((with_reducible first|apply qr|apply qs|apply qt|apply qu|apply qv|apply qw)<;>intro h)
   |((with_reducible first|apply qx|apply qy|apply qz|apply qqa|apply qqb|apply qqc)<;>intro h<;>try simp[h, m1, m2])
   |((with_reducible refine and_go ?_ fun hs=>?_);focus omega
     try simp[m1, m2])
   |((with_reducible first|apply qql|apply qqn|apply qqp);simp[m1, m2])
  refine Pwp.reg fun K hK => ?_
  simp [m1, m2]
  refine Hid.go hK ?_
  clear hK K
  repeat' first
   |(with_reducible first|apply qa|apply qb|apply qc|apply qd|apply qe|apply qf|apply qg|apply qh|apply qi|apply qj|apply qk|apply ql|apply qm|apply qn|apply qo|apply qp|apply qq|refine blockP_ne (by decide) ?_)
   |((with_reducible refine Hid.go hK ?_);clear hK K)|((with_reducible apply Pwp.condG);rfl)|((with_reducible first|apply qqj|apply qqk);simp[m1, m2];done)|((with_reducible first|apply qr|apply qs|apply qt|apply qu|apply qv|apply qw)<;>intro h)
   |((with_reducible first|apply qx|apply qy|apply qz|apply qqa|apply qqb|apply qqc)<;>intro h<;>try simp[h, m1, m2])
   |((with_reducible refine and_go ?_ fun hs=>?_);focus omega
     try simp[m1, m2])
   |((with_reducible first|apply qql|apply qqn|apply qqp);simp[m1, m2])
  refine Pwp.reg fun K hK => ?_
  simp [m1, m2]
  refine Hid.go hK ?_
  clear hK K
  repeat' first
   |(with_reducible first|apply qa|apply qb|apply qc|apply qd|apply qe|apply qf|apply qg|apply qh|apply qi|apply qj|apply qk|apply ql|apply qm|apply qn|apply qo|apply qp|apply qq|refine blockP_ne (by decide) ?_)
   |((with_reducible refine Hid.go hK ?_);clear hK K)|((with_reducible apply Pwp.condG);rfl)|((with_reducible first|apply qqj|apply qqk);simp[m1, m2];done)|((with_reducible first|apply qr|apply qs|apply qt|apply qu|apply qv|apply qw)<;>intro h)
   |((with_reducible first|apply qx|apply qy|apply qz|apply qqa|apply qqb|apply qqc)<;>intro h<;>try simp[h, m1, m2])
   |((with_reducible refine and_go ?_ fun hs=>?_);focus omega
     try simp[m1, m2])
   |((with_reducible first|apply qql|apply qqn|apply qqp);simp[m1, m2])
  refine Pwp.weaken (PLe.tellRet (env' := [.any, .any, .any, .any, .iptr [g.pv] 0 0, .iptr [.map km] 0 0, .iptr [h.pv] 0 0, .iptr [to.pv] 0 0, .any, .ptr (5 :: A) 1 0 0, .any, .any, .any, .any]) (st' := [(5 :: A, .row 1 [.nilFunc]), (km, .mp (ent M))]) [(0 :: A, .row 2 [g.pv]), (1 :: A, .row 1 [.map km]), (2 :: A, .row 2 [h.pv]), (3 :: A, .row 2 [to.pv])] ?_ ?_ ?_) ?_
  · refine Sub.cons ?_ (Sub.cons ?_ (Sub.cons ?_ (Sub.cons ?_ (Sub.nil _)))) <;> simp [St.find, m1, m2]
  · simp [St.find, ObLe.refl, m1, m2]
  · repeat' first | exact VLeL.nil | refine VLeL.cons ?_ ?_
    all_goals first | exact VLe.any _ | exact VLe.refl _ | (refine VLe.prow (sz := 2) ?_ rfl (ELe.refl _); simp [St.find]; done) | (refine VLe.prow (sz := 1) ?_ rfl (ELe.refl _); simp [St.find]; done)
  repeat' first
   |(with_reducible first|apply qa|apply qb|apply qc|apply qd|apply qe|apply qf|apply qg|apply qh|apply qi|apply qj|apply qk|apply ql|apply qm|apply qn|apply qo|apply qp|apply qq|refine blockP_ne (by decide) ?_)
   |((with_reducible refine Pwp.reg fun K hK=>?_);simp[m1, m2])
   |((with_reducible refine Hid.go hK ?_);clear hK K)|((with_reducible apply Pwp.condG);rfl)|((with_reducible first|apply qqj|apply qqk);simp[m1, m2];done)|((with_reducible first|apply qr|apply qs|apply qt|apply qu|apply qv|apply qw)<;>intro h)
   |((with_reducible first|apply qx|apply qy|apply qz|apply qqa|apply qqb|apply qqc)<;>intro h<;>try simp[h, m1, m2])
   |((with_reducible refine and_go ?_ fun hs=>?_);focus omega
     try simp[m1, m2])
   |((with_reducible first|apply qql|apply qqn|apply qqp);simp[m1, m2])
  refine vcallk_new (runs243 g to V hV f M h hM hh _ (5 :: A) km (m2 5)) ?_ ?_
  · refine Sub.cons ?_ (Sub.cons ?_ (Sub.nil _)) <;> simp [St.find, lookFn, m1, m2]
  · repeat' first
     |(with_reducible first|apply qa|apply qb|apply qc|apply qd|apply qe|apply qf|apply qg|apply qh|apply qi|apply qj|apply qk|apply ql|apply qm|apply qn|apply qo|apply qp|apply qq|refine blockP_ne (by decide) ?_)
     |((with_reducible refine Pwp.reg fun K hK=>?_);simp[m1, m2])
     |((with_reducible refine Hid.go hK ?_);clear hK K)|((with_reducible apply Pwp.condG);rfl)|((with_reducible first|apply qqj|apply qqk);simp[m1, m2];done)|((with_reducible first|apply qr|apply qs|apply qt|apply qu|apply qv|apply qw)<;>intro h)
     |((with_reducible first|apply qx|apply qy|apply qz|apply qqa|apply qqb|apply qqc)<;>intro h<;>try simp[h, m1, m2])
     |((with_reducible refine and_go ?_ fun hs=>?_);focus omega
       try simp[m1, m2])
     |((with_reducible first|apply qql|apply qqn|apply qqp);simp[m1, m2])
    refine endP_ret PLe.refl (by simp) ?_
    refine Sub.upd1 ?_
    simp [St.find, m1, m2]
end Go.Pv

set_option linter.unusedVariables false
set_option linter.unusedSimpArgs false
set_option maxRecDepth 100000
namespace Go.Pv
open Go Go.Proofs

def slotAt (l : List Slot) (i : Nat) : Slot := l.getD i ⟨0, false⟩
def selfAt (l : List Slot) (i : Nat) : Handle := ⟨i, (slotAt l i).gen⟩
def rowBad (slots : List Slot) (i : Nat) (l : List Handle) : Bool := decide (16 < l.length) || (decide (0 < l.length) && !(slotAt slots i).live) || l.any (fun h => !HoldsB slots h)
def rowsOk (g : Graph) : Prop := ∀ i, (h : i < g.kids.length) → rowBad g.slots i g.kids[i] = false
def loopAt (g : Graph) (i : Nat) (l : List Handle) : Bool := (anyS (dfs g.kids (selfAt g.slots i) 200) [] l).1
def loopsOk (g : Graph) : Prop := ∀ i, (h : i < g.kids.length) → loopAt g i g.kids[i] = false
instance (g : Graph) : Decidable (rowsOk g) := inferInstanceAs (Decidable (∀ i, (h : i < g.kids.length) → _))
instance (g : Graph) : Decidable (loopsOk g) := inferInstanceAs (Decidable (∀ i, (h : i < g.kids.length) → _))
def graphOk (g : Graph) : Bool := !arenaBad g.slots && (decide (g.kids.length = g.slots.length) && (decide (rowsOk g) && decide (loopsOk g)))

def liveHandles (l : List Slot) : List Handle := (List.range l.length).filterMap fun i => if (slotAt l i).live then some (selfAt l i) else none

theorem mem_live {l : List Slot} {h : Handle} : h ∈ liveHandles l ↔ Held l h := by
  unfold liveHandles Held
  simp only [List.mem_filterMap, List.mem_range]
  constructor
  · rintro ⟨i, hi, he⟩
    split at he
    · rename_i hl
      cases he
      refine ⟨by simp [selfAt], ?_⟩
      simp only [selfAt, slotAt, List.getD_eq_getElem?_getD] at hl ⊢
      rw [List.getElem?_eq_getElem hi] at hl
      simp only [Int.toNat_natCast, List.getElem?_eq_getElem hi, Option.getD_some] at hl ⊢
      generalize l[i] = x at hl ⊢
      cases x
      simp_all
    · cases he
  · rintro ⟨h0, hs⟩
    obtain ⟨hlt, he⟩ := List.getElem?_eq_some_iff.1 hs
    refine ⟨h.slot.toNat, hlt, ?_⟩
    have e : slotAt l h.slot.toNat = ⟨h.gen, true⟩ := by
      unfold slotAt
      rw [List.getD_eq_getElem?_getD, hs]
      rfl
    rw [if_pos (by rw [e])]
    unfold selfAt
    rw [e]
    obtain ⟨s, g⟩ := h
    simp only [Option.some.injEq, Handle.mk.injEq, and_true]
    simp only at h0
    omega
theorem live_len (l : List Slot) : (liveHandles l).length ≤ l.length := by
  have := List.length_filterMap_le (fun i => if (slotAt l i).live then some (selfAt l i) else none) (List.range l.length)
  unfold liveHandles
  simpa using this

theorem arena_len {l : List Slot} (h : arenaBad l = false) : l.length ≤ 128 := by
  simp only [arenaBad, Bool.or_eq_false_iff, decide_eq_false_iff_not] at h
  omega
theorem holdsB_iff {l : List Slot} (h : arenaBad l = false) (x : Handle) : HoldsB l x = decide (Held l x) := by simp [HoldsB, h]

theorem rows_held {g : Graph} (ha : arenaBad g.slots = false) (hr : rowsOk g) {i : Nat} (hi : i < g.kids.length) {x : Handle} (hx : x ∈ g.kids[i]) : x ∈ liveHandles g.slots := by
  have := hr i hi
  simp only [rowBad, Bool.or_eq_false_iff, List.any_eq_false] at this
  have := this.2 x hx
  rw [holdsB_iff ha] at this
  rw [mem_live]
  simpa using this
theorem held_range {l : List Slot} {x : Handle} (h : Held l x) : 0 ≤ x.slot ∧ x.slot.toNat < l.length := ⟨h.1, (List.getElem?_eq_some_iff.1 h.2).1⟩
theorem closed_of {g : Graph} (ha : arenaBad g.slots = false) (hn : g.kids.length = g.slots.length) (hr : rowsOk g) (hl : ∀ l ∈ g.kids, l.length < 4611686018427387904) : Closed g (liveHandles g.slots) := by
  refine ⟨fun x hx c hc => ?_, fun x hx => ?_, hl⟩
  · obtain ⟨h0, h1⟩ := held_range (mem_live.1 hx)
    have h2 : x.slot.toNat < g.kids.length := by omega
    have e : kidsAt g.kids x = g.kids[x.slot.toNat] := by simp [kidsAt, List.getD_eq_getElem?_getD, h2]
    rw [e] at hc
    exact rows_held ha hr h2 hc
  · obtain ⟨h0, h1⟩ := held_range (mem_live.1 hx)
    omega

theorem ent146 : enters Tryz.prog 146 = true := by kernel_rfl
theorem runs146 (A : Key) (g : Graph) (h : Handle) (hl : g.slots.length < 4611686018427387904) : Runs Tryz.prog A 146 [h.pv, .iptr [g.pv] 0 0] [] (.bool (!HoldsB g.slots h)) [] := by
  refine Runs.body (rs := [.tmp 3]) ent146 Tryz.func146 rfl Tryz.ntmps146 rfl (fun x h => by cases h) ?_
  repeat' first
   |(with_reducible first|apply qa|apply qb|apply qc|apply qd|apply qe|apply qf|apply qg|apply qh|apply qi|apply qj|apply qk|apply ql|apply qm|apply qn|apply qo|apply qp|apply qq|refine blockP_ne (by decide) ?_)
   |((with_reducible refine Pwp.reg fun K hK=>?_);simp[*])
   |((with_reducible refine Hid.go hK ?_);clear hK K)|((with_reducible apply Pwp.condG);rfl)|((with_reducible first|apply qqj|apply qqk);simp[*];done)|((with_reducible first|apply qr|apply qs|apply qt|apply qu|apply qv|apply qw)<;>intro h)
   |((with_reducible first|apply qx|apply qy|apply qz|apply qqa|apply qqb|apply qqc)<;>intro h<;>try simp[h, *])
   |((with_reducible refine and_go ?_ fun hs=>?_);focus omega
     try simp[*])
   |((with_reducible first|apply qql|apply qqn|apply qqp);simp[*])
  refine vcallk_pure (runs71 _ g.slots h hl) ?_
  repeat' first
   |(with_reducible first|apply qa|apply qb|apply qc|apply qd|apply qe|apply qf|apply qg|apply qh|apply qi|apply qj|apply qk|apply ql|apply qm|apply qn|apply qo|apply qp|apply qq|refine blockP_ne (by decide) ?_)
   |((with_reducible refine Pwp.reg fun K hK=>?_);simp[*])
   |((with_reducible refine Hid.go hK ?_);clear hK K)|((with_reducible apply Pwp.condG);rfl)|((with_reducible first|apply qqj|apply qqk);simp[*];done)|((with_reducible first|apply qr|apply qs|apply qt|apply qu|apply qv|apply qw)<;>intro h)
   |((with_reducible first|apply qx|apply qy|apply qz|apply qqa|apply qqb|apply qqc)<;>intro h<;>try simp[h, *])
   |((with_reducible refine and_go ?_ fun hs=>?_);focus omega
     try simp[*])
   |((with_reducible first|apply qql|apply qqn|apply qqp);simp[*])
  all_goals (refine endP_ret0 ?_; simp)

set_option maxHeartbeats 4000000
theorem ent148 : enters Tryz.prog 148 = true := by kernel_rfl
theorem runs148 (g : Graph) (to : Handle) (V : List Handle) (hV : Closed g V) (f : Nat) (M : List Handle) (h : Handle) (hM : MetOk V f M) (hh : h ∈ V) (A km : Key) :
    Runs Tryz.prog A 148 [h.pv, .iptr [g.pv] 0 0, .iptr [.map km] 0 0, .iptr [to.pv] 0 0] [(km, .mp (ent M))] (.bool (dfs g.kids to f M h).1) [(km, some (.mp (ent (dfs g.kids to f M h).2)))] := by
  have hups : ∀ x ∈ [(km, some (Ob.mp (ent (dfs g.kids to f M h).2)))], A <:+ x.1 ∨ ∃ ob, St.find [(km, Ob.mp (ent M))] x.1 = some ob := fun x hx => by rw [List.mem_singleton.1 hx]; exact .inr ⟨_, St.find_hd _ _ _⟩
  refine Runs.fresh ent148 hups fun hfr => ?_
  have m1 := fresh1 (hfr km _ (St.find_hd _ _ _))
  have m2 := fresh1' (hfr km _ (St.find_hd _ _ _))
  clear hfr
  refine Runs.body (rs := [.tmp 5]) ent148 Tryz.func148 rfl Tryz.ntmps148 rfl hups ?_
  clear hups
  repeat' first
   |(with_reducible first|apply qa|apply qb|apply qc|apply qd|apply qe|apply qf|apply qg|apply qh|apply qi|apply qj|apply qk|apply ql|apply qm|apply qn|apply qo|apply qp|apply qq|refine blockP_ne (by decide) ?_)
   |((with_reducible refine Pwp.reg fun K hK=>?_);simp[m1, m2])
   |((with_reducible refine Hid.go hK ?_);clear hK K)|((with_reducible apply Pwp.condG);rfl)|((with_reducible first|apply qqj|apply qqk);simp[m1, m2];done)|((with_reducible first|apply qr|apply qs|apply qt|apply qu|apply qv|apply qw)<;>intro h)
   |((with_reducible first|apply qx|apply qy|apply qz|apply qqa|apply qqb|apply qqc)<;>intro h<;>try simp[h, m1, m2])
   |((with_reducible refine and_go ?_ fun hs=>?_);focus omega
     try simp[m1, m2])
   |((with_reducible first|apply qql|apply qqn|apply qqp);simp[m1, m2])
  refine vcallk_new (runs149 g to V hV f M h hM hh _ km) (Sub.one (by simp [St.find, m1, m2])) ?_
  repeat' first
   |(with_reducible first|apply qa|apply qb|apply qc|apply qd|apply qe|apply qf|apply qg|apply qh|apply qi|apply qj|apply qk|apply ql|apply qm|apply qn|apply qo|apply qp|apply qq|refine blockP_ne (by decide) ?_)
   |((with_reducible refine Pwp.reg fun K hK=>?_);simp[m1, m2])
   |((with_reducible refine Hid.go hK ?_);clear hK K)|((with_reducible apply Pwp.condG);rfl)|((with_reducible first|apply qqj|apply qqk);simp[m1, m2];done)|((with_reducible first|apply qr|apply qs|apply qt|apply qu|apply qv|apply qw)<;>intro h)
   |((with_reducible first|apply qx|apply qy|apply qz|apply qqa|apply qqb|apply qqc)<;>intro h<;>try simp[h, m1, m2])
   |((with_reducible refine and_go ?_ fun hs=>?_);focus omega
     try simp[m1, m2])
   |((with_reducible first|apply qql|apply qqn|apply qqp);simp[m1, m2])
  refine endP_ret PLe.refl (by simp) ?_
  refine Sub.upd1 ?_
  simp [St.find, m1, m2]

theorem ent66 : enters Tryz.prog 66 = true := by kernel_rfl
theorem runs66 (A : Key) (g : Graph) (hs : g.slots.length < 4611686018427387904) (hk : g.kids.length < 4611686018427387904) (hl : ∀ l ∈ g.kids, l.length < 4611686018427387904) : Runs Tryz.prog A 66 [g.pv] [] (.int .i64 (errIf (!graphOk g))) [] := by
  refine Runs.body (rs := [.tmp 2]) ent66 Tryz.func66 rfl Tryz.ntmps66 rfl (fun x h => by cases h) ?_
  repeat' first
   |(with_reducible first|apply qa|apply qb|apply qc|apply qd|apply qe|apply qf|apply qg|apply qh|apply qi|apply qj|apply qk|apply ql|apply qm|apply qn|apply qo|apply qp|apply qq|refine blockP_ne (by decide) ?_)
   |((with_reducible refine Pwp.reg fun K hK=>?_);simp[*])
   |((with_reducible refine Hid.go hK ?_);clear hK K)|((with_reducible apply Pwp.condG);rfl)|((with_reducible first|apply qqj|apply qqk);simp[*];done)|((with_reducible first|apply qr|apply qs|apply qt|apply qu|apply qv|apply qw)<;>intro h)
   |((with_reducible first|apply qx|apply qy|apply qz|apply qqa|apply qqb|apply qqc)<;>intro h<;>try simp[h, *])
   |((with_reducible refine and_go ?_ fun hs=>?_);focus omega
     try simp[*])
   |((with_reducible first|apply qql|apply qqn|apply qqp);simp[*])
  refine vcallk_pure (runs145 _ g.slots hs) ?_
  cases ha : arenaBad g.slots with
  | true =>
    have hv : graphOk g = false := by simp [graphOk, ha]
    repeat' first
     |(with_reducible first|apply qa|apply qb|apply qc|apply qd|apply qe|apply qf|apply qg|apply qh|apply qi|apply qj|apply qk|apply ql|apply qm|apply qn|apply qo|apply qp|apply qq|refine blockP_ne (by decide) ?_)
     |((with_reducible refine Pwp.reg fun K hK=>?_);simp[ha, errIf])
     |((with_reducible refine Hid.go hK ?_);clear hK K)|((with_reducible apply Pwp.condG);rfl)|((with_reducible first|apply qqj|apply qqk);simp[ha, errIf];done)|((with_reducible first|apply qr|apply qs|apply qt|apply qu|apply qv|apply qw)<;>intro h)
     |((with_reducible first|apply qx|apply qy|apply qz|apply qqa|apply qqb|apply qqc)<;>intro h<;>try simp[h, ha, errIf])
     |((with_reducible refine and_go ?_ fun hs=>?_);focus omega
       try simp[ha, errIf])
     |((with_reducible first|apply qql|apply qqn|apply qqp);simp[ha, errIf])
    all_goals (refine endP_ret0 ?_; simp [hv, errIf])
  | false =>
    have h128 := arena_len ha
    by_cases hn : g.kids.length = g.slots.length
    rotate_left
    · have hv : graphOk g = false := by simp [graphOk, hn]
      repeat' first
       |(with_reducible first|apply qa|apply qb|apply qc|apply qd|apply qe|apply qf|apply qg|apply qh|apply qi|apply qj|apply qk|apply ql|apply qm|apply qn|apply qo|apply qp|apply qq|refine blockP_ne (by decide) ?_)
       |((with_reducible refine Pwp.reg fun K hK=>?_);simp[ha, errIf, hn])
       |((with_reducible refine Hid.go hK ?_);clear hK K)|((with_reducible apply Pwp.condG);rfl)|((with_reducible first|apply qqj|apply qqk);simp[ha, errIf, hn];done)|((with_reducible first|apply qr|apply qs|apply qt|apply qu|apply qv|apply qw)<;>intro h)
       |((with_reducible first|apply qx|apply qy|apply qz|apply qqa|apply qqb|apply qqc)<;>intro h<;>try simp[h, ha, errIf, hn])
       |((with_reducible refine and_go ?_ fun hs=>?_);focus omega
         try simp[ha, errIf, hn])
       |((with_reducible first|apply qql|apply qqn|apply qqp);simp[ha, errIf, hn])
      all_goals (refine endP_ret0 ?_; simp [hv, errIf])
    · repeat' first
       |(with_reducible first|apply qa|apply qb|apply qc|apply qd|apply qe|apply qf|apply qg|apply qh|apply qi|apply qj|apply qk|apply ql|apply qm|apply qn|apply qo|apply qp|apply qq|refine blockP_ne (by decide) ?_)
       |((with_reducible refine Pwp.reg fun K hK=>?_);simp[ha, errIf, hn])
       |((with_reducible refine Hid.go hK ?_);clear hK K)|((with_reducible apply Pwp.condG);rfl)|((with_reducible first|apply qqj|apply qqk);simp[ha, errIf, hn];done)|((with_reducible first|apply qr|apply qs|apply qt|apply qu|apply qv|apply qw)<;>intro h)
       |((with_reducible first|apply qx|apply qy|apply qz|apply qqa|apply qqb|apply qqc)<;>intro h<;>try simp[h, ha, errIf, hn])
       |((with_reducible refine and_go ?_ fun hs=>?_);focus omega
         try simp[ha, errIf, hn])
       |((with_reducible first|apply qql|apply qqn|apply qqp);simp[ha, errIf, hn])
      refine Pwp.loopN (ι := Nat) (S := fun i => ⟨[.any, .iptr [g.pv] 0 0, .any, .any, .any, .any, .any, .any, .any, .any, .any, .any, .any, .any, .any, .any, .any, .any, .any, .any, .any, .any, .any, .any, .any, kidsPv g.kids, .int .i64 g.kids.length, .int .i64 i, .any, .any, .any, .any, .any, .any, .any, .any, .any, .any, .any, .any, .any, .any, .any, .any, .any, .any, .any, .any, .any, .any, .any, .any, .any, .any, .any, .any, .any, .any, .any, .any, .any, .any, .any, .any, .any, .any, .any, .any, .any, .any, .any, .any, .any, .any, .any, .any, .any, .any, .any, .any], [], i :: 20 :: A, 0⟩)
        (C := fun i => i ≤ g.kids.length ∧ ∀ j, (h : j < g.kids.length) → j < i → rowBad g.slots j g.kids[j] = false) (μ := fun i => g.kids.length - i) 0 ?_ ?_ ?_
      · refine PLe.tellInG [(0 :: A, .row 2 [g.pv])] (by simp) ?_ ?_ ?_
        · repeat' first | exact Sub.nil _ | refine Sub.cons (by simp [St.find, *]) ?_
        · repeat' first | exact StLeG.nil | (apply StLeG.old; (focus (simp [St.find]; done)); (focus ((repeat' first | exact St.find_hd _ _ _ | (apply St.find_tl; (focus (first | assumption | (simp; done) | (simp [*]; done))))); done))) | (refine StLeG.new ?_ ?_ ?_ ?_; (focus (simp [St.find]; done)); (focus omega); (focus omega))
          all_goals first | exact ObLe.refl _ | (refine ObLe.of_eq ?_; simp [*]; done) | (refine ObLe.row _ _ _ (ELe.one ?_ ?_); (focus (simp; done)))
          all_goals repeat' first | exact VLeL.nil | refine VLeL.cons ?_ ?_
          all_goals first | exact VLe.refl _ | exact VLe.any _ | exact VLe.cap _ _ | (refine VLe.ghost1 ?_ ?_ <;> omega) | (apply VLe.row (h := ELe.refl _); (focus ((repeat' first | exact St.find_hd _ _ _ | (apply St.find_tl; (focus (first | assumption | (simp; done) | (simp [*]; done))))); done)); (simp [*]; done)) | (apply VLe.prow (h := ELe.refl _); (focus ((repeat' first | exact St.find_hd _ _ _ | (apply St.find_tl; (focus (first | assumption | (simp; done) | (simp [*]; done))))); done)); (simp; done)) | (refine VLe.of_eq ?_; simp [*]; done)
        · repeat' first | exact VLeL.nil | refine VLeL.cons ?_ ?_
          all_goals first | exact VLe.refl _ | exact VLe.any _ | exact VLe.cap _ _ | (refine VLe.ghost1 ?_ ?_ <;> omega) | (apply VLe.row (h := ELe.refl _); (focus ((repeat' first | exact St.find_hd _ _ _ | (apply St.find_tl; (focus (first | assumption | (simp; done) | (simp [*]; done))))); done)); (simp [*]; done)) | (apply VLe.prow (h := ELe.refl _); (focus ((repeat' first | exact St.find_hd _ _ _ | (apply St.find_tl; (focus (first | assumption | (simp; done) | (simp [*]; done))))); done)); (simp; done)) | (refine VLe.of_eq ?_; simp [*]; done)
      · simp
      · rintro i ⟨hi, hp⟩
        by_cases hlt : i < g.kids.length
        · have hlt2 : i < g.slots.length := by omega
          have hll := hl _ (List.getElem_mem hlt)
          have hsl : slotAt g.slots i = g.slots[i] := by simp [slotAt, List.getD_eq_getElem?_getD, hlt2]
          by_cases h1 : 16 < g.kids[i].length
          · have hb : rowBad g.slots i g.kids[i] = true := by simp [rowBad, h1]
            have hv : graphOk g = false := by
              have : ¬ rowsOk g := fun hr => by rw [hr i hlt] at hb; cases hb
              simp [graphOk, this]
            have c1 : (16 < (g.kids[i].length : Int)) = True := by simp only [eq_iff_iff, iff_true]; omega
            repeat' first
             |(with_reducible first|apply qa|apply qb|apply qc|apply qd|apply qe|apply qf|apply qg|apply qh|apply qi|apply qj|apply qk|apply ql|apply qm|apply qn|apply qo|apply qp|apply qq|refine blockP_ne (by decide) ?_)
             |((with_reducible refine Pwp.reg fun K hK=>?_);simp[hlt, hlt2, c1])
             |((with_reducible refine Hid.go hK ?_);clear hK K)|((with_reducible apply Pwp.condG);rfl)|((with_reducible first|apply qqj|apply qqk);simp[hlt, hlt2, c1];done)|((with_reducible first|apply qr|apply qs|apply qt|apply qu|apply qv|apply qw)<;>intro h)
             |((with_reducible first|apply qx|apply qy|apply qz|apply qqa|apply qqb|apply qqc)<;>intro h<;>try simp[h, hlt, hlt2, c1])
             |((with_reducible refine and_go ?_ fun hs=>?_);focus omega
               try simp[hlt, hlt2, c1])
             |((with_reducible first|apply qql|apply qqn|apply qqp);simp[hlt, hlt2, c1])
            all_goals (refine endP_ret0 ?_; simp [hv, errIf])
          · have c1 : (16 < (g.kids[i].length : Int)) = False := by simp only [eq_iff_iff, iff_false]; omega
            by_cases h2 : 0 < g.kids[i].length ∧ g.slots[i].live = false
            · obtain ⟨h3, h4⟩ := h2
              have hb : rowBad g.slots i g.kids[i] = true := by simp [rowBad, hsl, h3, h4]
              have hv : graphOk g = false := by
                have : ¬ rowsOk g := fun hr => by rw [hr i hlt] at hb; cases hb
                simp [graphOk, this]
              have c2 : (0 < (g.kids[i].length : Int)) = True := by simp only [eq_iff_iff, iff_true]; omega
              repeat' first
               |(with_reducible first|apply qa|apply qb|apply qc|apply qd|apply qe|apply qf|apply qg|apply qh|apply qi|apply qj|apply qk|apply ql|apply qm|apply qn|apply qo|apply qp|apply qq|refine blockP_ne (by decide) ?_)
               |((with_reducible refine Pwp.reg fun K hK=>?_);simp[hlt, hlt2, c1, c2, h3, h4])
               |((with_reducible refine Hid.go hK ?_);clear hK K)|((with_reducible apply Pwp.condG);rfl)|((with_reducible first|apply qqj|apply qqk);simp[hlt, hlt2, c1, c2, h3, h4];done)|((with_reducible first|apply qr|apply qs|apply qt|apply qu|apply qv|apply qw)<;>intro h)
               |((with_reducible first|apply qx|apply qy|apply qz|apply qqa|apply qqb|apply qqc)<;>intro h<;>try simp[h, hlt, hlt2, c1, c2, h3, h4])
               |((with_reducible refine and_go ?_ fun hs=>?_);focus omega
                 try simp[hlt, hlt2, c1, c2, h3, h4])
               |((with_reducible first|apply qql|apply qqn|apply qqp);simp[hlt, hlt2, c1, c2, h3, h4])
              all_goals (refine endP_ret0 ?_; simp [hv, errIf])
            · have hb : rowBad g.slots i g.kids[i] = g.kids[i].any (fun h => !HoldsB g.slots h) := by
                have e1 : decide (16 < g.kids[i].length) = false := by simpa using h1
                have e2 : (decide (0 < g.kids[i].length) && !(slotAt g.slots i).live) = false := by
                  rw [hsl]
                  cases hq : g.slots[i].live with
                  | true => simp
                  | false =>
                    have : ¬ 0 < g.kids[i].length := fun h => h2 ⟨h, hq⟩
                    simp [this]
                simp only [rowBad, e1, e2, Bool.false_or]
              have go : ∀ {X : Bool}, X = g.kids[i].any (fun h => !HoldsB g.slots h) → X = true → graphOk g = false := by
                intro X e1 e2
                rw [e2] at e1
                have hb2 : rowBad g.slots i g.kids[i] = true := by rw [hb, ← e1]
                have : ¬ rowsOk g := fun hr => by rw [hr i hlt] at hb2; cases hb2
                simp [graphOk, this]
              have hlive : 0 < g.kids[i].length → g.slots[i].live = true := by
                intro h
                cases hq : g.slots[i].live with
                | true => rfl
                | false => exact absurd ⟨h, hq⟩ h2
              by_cases h5 : 0 < g.kids[i].length
              · have h6 := hlive h5
                have c2 : (0 < (g.kids[i].length : Int)) = True := by simp only [eq_iff_iff, iff_true]; omega
                clear go hlive h2
                repeat' first
                 |(with_reducible first|apply qa|apply qb|apply qc|apply qd|apply qe|apply qf|apply qg|apply qh|apply qi|apply qj|apply qk|apply ql|apply qm|apply qn|apply qo|apply qp|apply qq|refine blockP_ne (by decide) ?_)
                 |((with_reducible refine Pwp.reg fun K hK=>?_);simp[hlt, hlt2, c1, c2, h5, h6])
                 |((with_reducible refine Hid.go hK ?_);clear hK K)|((with_reducible apply Pwp.condG);rfl)|((with_reducible first|apply qqj|apply qqk);simp[hlt, hlt2, c1, c2, h5, h6];done)|((with_reducible first|apply qr|apply qs|apply qt|apply qu|apply qv|apply qw)<;>intro h)
                 |((with_reducible first|apply qx|apply qy|apply qz|apply qqa|apply qqb|apply qqc)<;>intro h<;>try simp[h, hlt, hlt2, c1, c2, h5, h6])
                 |((with_reducible refine and_go ?_ fun hs=>?_);focus omega
                   try simp[hlt, hlt2, c1, c2, h5, h6])
                 |((with_reducible first|apply qql|apply qqn|apply qqp);simp[hlt, hlt2, c1, c2, h5, h6])
                refine vcallk_pure (runs147 _ g.kids[i] (fun h => !HoldsB g.slots h) 146 [] [.iptr [g.pv] 0 0] hll (fun A' x _ => runs146 A' g x hs)) ?_
                cases hX : g.kids[i].any (fun h => !HoldsB g.slots h) with
                | true =>
                  have hv : graphOk g = false := by
                    have hb2 : rowBad g.slots i g.kids[i] = true := by rw [hb, hX]
                    have : ¬ rowsOk g := fun hr => by rw [hr i hlt] at hb2; cases hb2
                    simp [graphOk, this]
                  repeat' first
                   |(with_reducible first|apply qa|apply qb|apply qc|apply qd|apply qe|apply qf|apply qg|apply qh|apply qi|apply qj|apply qk|apply ql|apply qm|apply qn|apply qo|apply qp|apply qq|refine blockP_ne (by decide) ?_)
                   |((with_reducible refine Pwp.reg fun K hK=>?_);simp[hX])
                   |((with_reducible refine Hid.go hK ?_);clear hK K)|((with_reducible apply Pwp.condG);rfl)|((with_reducible first|apply qqj|apply qqk);simp[hX];done)|((with_reducible first|apply qr|apply qs|apply qt|apply qu|apply qv|apply qw)<;>intro h)
                   |((with_reducible first|apply qx|apply qy|apply qz|apply qqa|apply qqb|apply qqc)<;>intro h<;>try simp[h, hX])
                   |((with_reducible refine and_go ?_ fun hs=>?_);focus omega
                     try simp[hX])
                   |((with_reducible first|apply qql|apply qqn|apply qqp);simp[hX])
                  all_goals (refine endP_ret0 ?_; simp [hv, errIf])
                | false =>
                  rw [hX] at hb
                  repeat' first
                   |(with_reducible first|apply qa|apply qb|apply qc|apply qd|apply qe|apply qf|apply qg|apply qh|apply qi|apply qj|apply qk|apply ql|apply qm|apply qn|apply qo|apply qp|apply qq|refine blockP_ne (by decide) ?_)
                   |((with_reducible refine Pwp.reg fun K hK=>?_);simp[hX, wrap_succ i (by omega)])
                   |((with_reducible refine Hid.go hK ?_);clear hK K)|((with_reducible apply Pwp.condG);rfl)|((with_reducible first|apply qqj|apply qqk);simp[hX, wrap_succ i (by omega)];done)|((with_reducible first|apply qr|apply qs|apply qt|apply qu|apply qv|apply qw)<;>intro h)
                   |((with_reducible first|apply qx|apply qy|apply qz|apply qqa|apply qqb|apply qqc)<;>intro h<;>try simp[h, hX, wrap_succ i (by omega)])
                   |((with_reducible refine and_go ?_ fun hs=>?_);focus omega
                     try simp[hX, wrap_succ i (by omega)])
                   |((with_reducible first|apply qql|apply qqn|apply qqp);simp[hX, wrap_succ i (by omega)])
                  refine roundN_go (i + 1) ?_ ⟨hlt, upto_succ hp hlt hb⟩ (by omega)
                  refine PLe.tellNextG (pre := []) [] (by simp) ?_ ?_ ?_
                  · repeat' first | exact Sub.nil _ | refine Sub.cons (by simp [St.find, *]) ?_
                  · repeat' first | exact StLe.nil | (apply StLe.cons; (focus (first | (simp [St.find]; done) | (simp [St.find, *]; done))); (focus ((repeat' first | exact St.find_hd _ _ _ | (apply St.find_tl; (focus (first | assumption | (simp; done) | (simp [*]; done))))); done)))
                    all_goals first | exact ObLe.refl _ | (refine ObLe.of_eq ?_; simp [*]; done) | (refine ObLe.row _ _ _ (ELe.one ?_ ?_); (focus (simp; done)))
                    all_goals repeat' first | exact VLeL.nil | refine VLeL.cons ?_ ?_
                    all_goals first | exact VLe.refl _ | exact VLe.any _ | exact VLe.cap _ _ | (refine VLe.ghost1 ?_ ?_ <;> omega) | (apply VLe.row (h := ELe.refl _); (focus ((repeat' first | exact St.find_hd _ _ _ | (apply St.find_tl; (focus (first | assumption | (simp; done) | (simp [*]; done))))); done)); (simp [*]; done)) | (apply VLe.prow (h := ELe.refl _); (focus ((repeat' first | exact St.find_hd _ _ _ | (apply St.find_tl; (focus (first | assumption | (simp; done) | (simp [*]; done))))); done)); (simp; done)) | (refine VLe.of_eq ?_; simp [*]; done)
                  · repeat' first | exact VLeL.nil | refine VLeL.cons ?_ ?_
                    all_goals first | exact VLe.refl _ | exact VLe.any _ | exact VLe.cap _ _ | (refine VLe.ghost1 ?_ ?_ <;> omega) | (apply VLe.row (h := ELe.refl _); (focus ((repeat' first | exact St.find_hd _ _ _ | (apply St.find_tl; (focus (first | assumption | (simp; done) | (simp [*]; done))))); done)); (simp [*]; done)) | (apply VLe.prow (h := ELe.refl _); (focus ((repeat' first | exact St.find_hd _ _ _ | (apply St.find_tl; (focus (first | assumption | (simp; done) | (simp [*]; done))))); done)); (simp; done)) | (refine VLe.of_eq ?_; simp [*]; done)
              · have c2 : (0 < (g.kids[i].length : Int)) = False := by simp only [eq_iff_iff, iff_false]; omega
                have h6 : True := trivial
                clear go hlive h2
                repeat' first
                 |(with_reducible first|apply qa|apply qb|apply qc|apply qd|apply qe|apply qf|apply qg|apply qh|apply qi|apply qj|apply qk|apply ql|apply qm|apply qn|apply qo|apply qp|apply qq|refine blockP_ne (by decide) ?_)
                 |((with_reducible refine Pwp.reg fun K hK=>?_);simp[hlt, hlt2, c1, c2, h5, h6])
                 |((with_reducible refine Hid.go hK ?_);clear hK K)|((with_reducible apply Pwp.condG);rfl)|((with_reducible first|apply qqj|apply qqk);simp[hlt, hlt2, c1, c2, h5, h6];done)|((with_reducible first|apply qr|apply qs|apply qt|apply qu|apply qv|apply qw)<;>intro h)
                 |((with_reducible first|apply qx|apply qy|apply qz|apply qqa|apply qqb|apply qqc)<;>intro h<;>try simp[h, hlt, hlt2, c1, c2, h5, h6])
                 |((with_reducible refine and_go ?_ fun hs=>?_);focus omega
                   try simp[hlt, hlt2, c1, c2, h5, h6])
                 |((with_reducible first|apply qql|apply qqn|apply qqp);simp[hlt, hlt2, c1, c2, h5, h6])
                refine vcallk_pure (runs147 _ g.kids[i] (fun h => !HoldsB g.slots h) 146 [] [.iptr [g.pv] 0 0] hll (fun A' x _ => runs146 A' g x hs)) ?_
                cases hX : g.kids[i].any (fun h => !HoldsB g.slots h) with
                | true =>
                  have hv : graphOk g = false := by
                    have hb2 : rowBad g.slots i g.kids[i] = true := by rw [hb, hX]
                    have : ¬ rowsOk g := fun hr => by rw [hr i hlt] at hb2; cases hb2
                    simp [graphOk, this]
                  repeat' first
                   |(with_reducible first|apply qa|apply qb|apply qc|apply qd|apply qe|apply qf|apply qg|apply qh|apply qi|apply qj|apply qk|apply ql|apply qm|apply qn|apply qo|apply qp|apply qq|refine blockP_ne (by decide) ?_)
                   |((with_reducible refine Pwp.reg fun K hK=>?_);simp[hX])
                   |((with_reducible refine Hid.go hK ?_);clear hK K)|((with_reducible apply Pwp.condG);rfl)|((with_reducible first|apply qqj|apply qqk);simp[hX];done)|((with_reducible first|apply qr|apply qs|apply qt|apply qu|apply qv|apply qw)<;>intro h)
                   |((with_reducible first|apply qx|apply qy|apply qz|apply qqa|apply qqb|apply qqc)<;>intro h<;>try simp[h, hX])
                   |((with_reducible refine and_go ?_ fun hs=>?_);focus omega
                     try simp[hX])
                   |((with_reducible first|apply qql|apply qqn|apply qqp);simp[hX])
                  all_goals (refine endP_ret0 ?_; simp [hv, errIf])
                | false =>
                  rw [hX] at hb
                  repeat' first
                   |(with_reducible first|apply qa|apply qb|apply qc|apply qd|apply qe|apply qf|apply qg|apply qh|apply qi|apply qj|apply qk|apply ql|apply qm|apply qn|apply qo|apply qp|apply qq|refine blockP_ne (by decide) ?_)
                   |((with_reducible refine Pwp.reg fun K hK=>?_);simp[hX, wrap_succ i (by omega)])
                   |((with_reducible refine Hid.go hK ?_);clear hK K)|((with_reducible apply Pwp.condG);rfl)|((with_reducible first|apply qqj|apply qqk);simp[hX, wrap_succ i (by omega)];done)|((with_reducible first|apply qr|apply qs|apply qt|apply qu|apply qv|apply qw)<;>intro h)
                   |((with_reducible first|apply qx|apply qy|apply qz|apply qqa|apply qqb|apply qqc)<;>intro h<;>try simp[h, hX, wrap_succ i (by omega)])
                   |((with_reducible refine and_go ?_ fun hs=>?_);focus omega
                     try simp[hX, wrap_succ i (by omega)])
                   |((with_reducible first|apply qql|apply qqn|apply qqp);simp[hX, wrap_succ i (by omega)])
                  refine roundN_go (i + 1) ?_ ⟨hlt, upto_succ hp hlt hb⟩ (by omega)
                  refine PLe.tellNextG (pre := []) [] (by simp) ?_ ?_ ?_
                  · repeat' first | exact Sub.nil _ | refine Sub.cons (by simp [St.find, *]) ?_
                  · repeat' first | exact StLe.nil | (apply StLe.cons; (focus (first | (simp [St.find]; done) | (simp [St.find, *]; done))); (focus ((repeat' first | exact St.find_hd _ _ _ | (apply St.find_tl; (focus (first | assumption | (simp; done) | (simp [*]; done))))); done)))
                    all_goals first | exact ObLe.refl _ | (refine ObLe.of_eq ?_; simp [*]; done) | (refine ObLe.row _ _ _ (ELe.one ?_ ?_); (focus (simp; done)))
                    all_goals repeat' first | exact VLeL.nil | refine VLeL.cons ?_ ?_
                    all_goals first | exact VLe.refl _ | exact VLe.any _ | exact VLe.cap _ _ | (refine VLe.ghost1 ?_ ?_ <;> omega) | (apply VLe.row (h := ELe.refl _); (focus ((repeat' first | exact St.find_hd _ _ _ | (apply St.find_tl; (focus (first | assumption | (simp; done) | (simp [*]; done))))); done)); (simp [*]; done)) | (apply VLe.prow (h := ELe.refl _); (focus ((repeat' first | exact St.find_hd _ _ _ | (apply St.find_tl; (focus (first | assumption | (simp; done) | (simp [*]; done))))); done)); (simp; done)) | (refine VLe.of_eq ?_; simp [*]; done)
                  · repeat' first | exact VLeL.nil | refine VLeL.cons ?_ ?_
                    all_goals first | exact VLe.refl _ | exact VLe.any _ | exact VLe.cap _ _ | (refine VLe.ghost1 ?_ ?_ <;> omega) | (apply VLe.row (h := ELe.refl _); (focus ((repeat' first | exact St.find_hd _ _ _ | (apply St.find_tl; (focus (first | assumption | (simp; done) | (simp [*]; done))))); done)); (simp [*]; done)) | (apply VLe.prow (h := ELe.refl _); (focus ((repeat' first | exact St.find_hd _ _ _ | (apply St.find_tl; (focus (first | assumption | (simp; done) | (simp [*]; done))))); done)); (simp; done)) | (refine VLe.of_eq ?_; simp [*]; done)
        · have hrows : rowsOk g := fun j hj => hp j hj (by omega)
          have e : i = g.kids.length := by omega
          subst e
          clear hp
          have hcl := closed_of ha hn hrows hl
          have hlen := live_len g.slots
          repeat' first
           |(with_reducible first|apply qa|apply qb|apply qc|apply qd|apply qe|apply qf|apply qg|apply qh|apply qi|apply qj|apply qk|apply ql|apply qm|apply qn|apply qo|apply qp|apply qq|refine blockP_ne (by decide) ?_)
           |((with_reducible refine Pwp.reg fun K hK=>?_);simp[hlt])
           |((with_reducible refine Hid.go hK ?_);clear hK K)|((with_reducible apply Pwp.condG);rfl)|((with_reducible first|apply qqj|apply qqk);simp[hlt];done)|((with_reducible first|apply qr|apply qs|apply qt|apply qu|apply qv|apply qw)<;>intro h)
           |((with_reducible first|apply qx|apply qy|apply qz|apply qqa|apply qqb|apply qqc)<;>intro h<;>try simp[h, hlt])
           |((with_reducible refine and_go ?_ fun hs=>?_);focus omega
             try simp[hlt])
           |((with_reducible first|apply qql|apply qqn|apply qqp);simp[hlt])
          refine Pwp.loopN (ι := Nat × List Handle) (S := fun x => ⟨[.any, .iptr [g.pv] 0 0, .any, .any, .any, .any, .iptr [.map (1 :: g.kids.length :: 20 :: A)] 0 0, .any, .any, .any, .any, .any, .any, .any, .any, .any, .any, .any, .any, .any, .any, .any, .any, .any, .any, .any, .any, .any, .any, .any, .any, .any, .any, .any, .any, .any, .any, .any, .any, .any, .any, .any, .any, .any, .any, .any, .any, .any, .any, .any, .any, .any, .any, .any, .any, .any, .any, .any, .any, kidsPv g.kids, .int .i64 g.kids.length, .int .i64 x.1, .any, .any, .any, .any, .any, .any, .any, .any, .any, .any, .any, .any, .any, .any, .any, .any, .any, .any], [(1 :: g.kids.length :: 20 :: A, .mp (ent x.2))], x.1 :: 8 :: g.kids.length :: 20 :: A, 0⟩)
            (C := fun x => x.1 ≤ g.kids.length ∧ ∀ j, (h : j < g.kids.length) → j < x.1 → loopAt g j g.kids[j] = false) (μ := fun x => g.kids.length - x.1) (0, []) ?_ ?_ ?_
          · refine PLe.tellInG [(2 :: g.kids.length :: 20 :: A, .row 1 [.map (1 :: g.kids.length :: 20 :: A)])] (by simp) ?_ ?_ ?_
            · repeat' first | exact Sub.nil _ | refine Sub.cons (by simp [St.find, *]) ?_
            · repeat' first | exact StLeG.nil | (apply StLeG.old; (focus (simp [St.find]; done)); (focus ((repeat' first | exact St.find_hd _ _ _ | (apply St.find_tl; (focus (first | assumption | (simp; done) | (simp [*]; done))))); done))) | (refine StLeG.new ?_ ?_ ?_ ?_; (focus (simp [St.find]; done)); (focus omega); (focus omega))
              all_goals first | exact ObLe.refl _ | (refine ObLe.of_eq ?_; simp [*]; done) | (refine ObLe.row _ _ _ (ELe.one ?_ ?_); (focus (simp; done)))
              all_goals repeat' first | exact VLeL.nil | refine VLeL.cons ?_ ?_
              all_goals first | exact VLe.refl _ | exact VLe.any _ | exact VLe.cap _ _ | (refine VLe.ghost1 ?_ ?_ <;> omega) | (apply VLe.row (h := ELe.refl _); (focus ((repeat' first | exact St.find_hd _ _ _ | (apply St.find_tl; (focus (first | assumption | (simp; done) | (simp [*]; done))))); done)); (simp [*]; done)) | (apply VLe.prow (h := ELe.refl _); (focus ((repeat' first | exact St.find_hd _ _ _ | (apply St.find_tl; (focus (first | assumption | (simp; done) | (simp [*]; done))))); done)); (simp; done)) | (refine VLe.of_eq ?_; simp [*]; done)
            · repeat' first | exact VLeL.nil | refine VLeL.cons ?_ ?_
              all_goals first | exact VLe.refl _ | exact VLe.any _ | exact VLe.cap _ _ | (refine VLe.ghost1 ?_ ?_ <;> omega) | (apply VLe.row (h := ELe.refl _); (focus ((repeat' first | exact St.find_hd _ _ _ | (apply St.find_tl; (focus (first | assumption | (simp; done) | (simp [*]; done))))); done)); (simp [*]; done)) | (apply VLe.prow (h := ELe.refl _); (focus ((repeat' first | exact St.find_hd _ _ _ | (apply St.find_tl; (focus (first | assumption | (simp; done) | (simp [*]; done))))); done)); (simp; done)) | (refine VLe.of_eq ?_; simp [*]; done)
          · simp
          · rintro ⟨i, M⟩ ⟨hi2, hp⟩
            simp only at hi2 hp
            by_cases hlt2 : i < g.kids.length
            · have hlt3 : i < g.slots.length := by omega
              have hsl : slotAt g.slots i = g.slots[i] := by simp [slotAt, List.getD_eq_getElem?_getD, hlt3]
              have hll := hl _ (List.getElem_mem hlt2)
              repeat' first
               |(with_reducible first|apply qa|apply qb|apply qc|apply qd|apply qe|apply qf|apply qg|apply qh|apply qi|apply qj|apply qk|apply ql|apply qm|apply qn|apply qo|apply qp|apply qq|refine blockP_ne (by decide) ?_)
               |((with_reducible refine Hid.go hK ?_);clear hK K)|((with_reducible apply Pwp.condG);rfl)|((with_reducible first|apply qqj|apply qqk);simp[hlt2, hlt3];done)|((with_reducible first|apply qr|apply qs|apply qt|apply qu|apply qv|apply qw)<;>intro h)
               |((with_reducible first|apply qx|apply qy|apply qz|apply qqa|apply qqb|apply qqc)<;>intro h<;>try simp[h, hlt2, hlt3])
               |((with_reducible refine and_go ?_ fun hs=>?_);focus omega
                 try simp[hlt2, hlt3])
               |((with_reducible first|apply qql|apply qqn|apply qqp);simp[hlt2, hlt3])
              refine Pwp.reg fun K hK => ?_
              simp [hlt2, hlt3]
              refine Hid.go hK ?_
              clear hK K
              repeat' first
               |(with_reducible first|apply qa|apply qb|apply qc|apply qd|apply qe|apply qf|apply qg|apply qh|apply qi|apply qj|apply qk|apply ql|apply qm|apply qn|apply qo|apply qp|apply qq|refine blockP_ne (by decide) ?_)
               |((with_reducible refine Hid.go hK ?_);clear hK K)|((with_reducible apply Pwp.condG);rfl)|((with_reducible first|apply qqj|apply qqk);simp[hlt2, hlt3];done)|((with_reducible first|apply qr|apply qs|apply qt|apply qu|apply qv|apply qw)<;>intro h)
               |((with_reducible first|apply qx|apply qy|apply qz|apply qqa|apply qqb|apply qqc)<;>intro h<;>try simp[h, hlt2, hlt3])
               |((with_reducible refine and_go ?_ fun hs=>?_);focus omega
                 try simp[hlt2, hlt3])
               |((with_reducible first|apply qql|apply qqn|apply qqp);simp[hlt2, hlt3])
              refine Pwp.reg fun K hK => ?_
              simp [hlt2, hlt3]
              refine Hid.go hK ?_
              clear hK K
              repeat' first
               |(with_reducible first|apply qa|apply qb|apply qc|apply qd|apply qe|apply qf|apply qg|apply qh|apply qi|apply qj|apply qk|apply ql|apply qm|apply qn|apply qo|apply qp|apply qq|refine blockP_ne (by decide) ?_)
               |((with_reducible refine Hid.go hK ?_);clear hK K)|((with_reducible apply Pwp.condG);rfl)|((with_reducible first|apply qqj|apply qqk);simp[hlt2, hlt3];done)|((with_reducible first|apply qr|apply qs|apply qt|apply qu|apply qv|apply qw)<;>intro h)
               |((with_reducible first|apply qx|apply qy|apply qz|apply qqa|apply qqb|apply qqc)<;>intro h<;>try simp[h, hlt2, hlt3])
               |((with_reducible refine and_go ?_ fun hs=>?_);focus omega
                 try simp[hlt2, hlt3])
               |((with_reducible first|apply qql|apply qqn|apply qqp);simp[hlt2, hlt3])
              refine Pwp.reg fun K hK => ?_
              simp [hlt2, hlt3]
              refine Hid.go hK ?_
              clear hK K
              repeat' first
               |(with_reducible first|apply qa|apply qb|apply qc|apply qd|apply qe|apply qf|apply qg|apply qh|apply qi|apply qj|apply qk|apply ql|apply qm|apply qn|apply qo|apply qp|apply qq|refine blockP_ne (by decide) ?_)
               |((with_reducible refine Hid.go hK ?_);clear hK K)|((with_reducible apply Pwp.condG);rfl)|((with_reducible first|apply qqj|apply qqk);simp[hlt2, hlt3];done)|((with_reducible first|apply qr|apply qs|apply qt|apply qu|apply qv|apply qw)<;>intro h)
               |((with_reducible first|apply qx|apply qy|apply qz|apply qqa|apply qqb|apply qqc)<;>intro h<;>try simp[h, hlt2, hlt3])
               |((with_reducible refine and_go ?_ fun hs=>?_);focus omega
                 try simp[hlt2, hlt3])
               |((with_reducible first|apply qql|apply qqn|apply qqp);simp[hlt2, hlt3])
              refine Pwp.reg fun K hK => ?_
              simp [hlt2, hlt3]
              refine Hid.go hK ?_
              clear hK K
              repeat' first
               |(with_reducible first|apply qa|apply qb|apply qc|apply qd|apply qe|apply qf|apply qg|apply qh|apply qi|apply qj|apply qk|apply ql|apply qm|apply qn|apply qo|apply qp|apply qq|refine blockP_ne (by decide) ?_)
               |((with_reducible refine Hid.go hK ?_);clear hK K)|((with_reducible apply Pwp.condG);rfl)|((with_reducible first|apply qqj|apply qqk);simp[hlt2, hlt3];done)|((with_reducible first|apply qr|apply qs|apply qt|apply qu|apply qv|apply qw)<;>intro h)
               |((with_reducible first|apply qx|apply qy|apply qz|apply qqa|apply qqb|apply qqc)<;>intro h<;>try simp[h, hlt2, hlt3])
               |((with_reducible refine and_go ?_ fun hs=>?_);focus omega
                 try simp[hlt2, hlt3])
               |((with_reducible first|apply qql|apply qqn|apply qqp);simp[hlt2, hlt3])
              refine Pwp.weaken (PLe.tellRetG (env' := [.any, .iptr [g.pv] 0 0, .any, .any, .any, .any, .iptr [.map (1 :: g.kids.length :: 20 :: A)] 0 0, .int .i64 i, handlesPv g.kids[i], .iptr [(selfAt g.slots i).pv] 0 0, .any, .any, .any, .any, .any, .any, .any, .any, .any, .any, .any, .any, .any, .any, .any, .any, .any, .any, .any, .any, .any, .any, .any, .any, .any, .any, .any, .any, .any, .any, .any, .any, .any, .any, .any, .any, .any, .any, .any, .any, .any, .any, .any, .any, .any, .any, .any, .any, .any, kidsPv g.kids, .int .i64 g.kids.length, .int .i64 i, .any, .any, .any, .any, .any, .any, .any, .any, .any, .any, .any, .any, .any, .any, .any, .any, .any, .any]) (st' := [(1 :: g.kids.length :: 20 :: A, .mp (ent []))]) [(15 :: i :: 8 :: g.kids.length :: 20 :: A, .row 2 [(selfAt g.slots i).pv])] ?_ ?_ ?_) ?_
              · refine Sub.cons ?_ (Sub.nil _)
                simp [St.find, selfAt, hsl]
              · refine ⟨⟨by simp [St.find], .mp [], by simp [St.find], ObLe.refl _⟩, trivial⟩
              · repeat' first | exact VLeL.nil | refine VLeL.cons ?_ ?_
                all_goals first | exact VLe.any _ | exact VLe.refl _ | (refine VLe.prow (sz := 2) ?_ rfl (ELe.refl _); simp [St.find]; done)
              repeat' first
               |(with_reducible first|apply qa|apply qb|apply qc|apply qd|apply qe|apply qf|apply qg|apply qh|apply qi|apply qj|apply qk|apply ql|apply qm|apply qn|apply qo|apply qp|apply qq|refine blockP_ne (by decide) ?_)
               |((with_reducible refine Pwp.reg fun K hK=>?_);simp[hlt2])
               |((with_reducible refine Hid.go hK ?_);clear hK K)|((with_reducible apply Pwp.condG);rfl)|((with_reducible first|apply qqj|apply qqk);simp[hlt2];done)|((with_reducible first|apply qr|apply qs|apply qt|apply qu|apply qv|apply qw)<;>intro h)
               |((with_reducible first|apply qx|apply qy|apply qz|apply qqa|apply qqb|apply qqc)<;>intro h<;>try simp[h, hlt2])
               |((with_reducible refine and_go ?_ fun hs=>?_);focus omega
                 try simp[hlt2])
               |((with_reducible first|apply qql|apply qqn|apply qqp);simp[hlt2])
              refine vcallk_new (runs147t _ g.kids[i] (dfs g.kids (selfAt g.slots i) 200) (MetOk (liveHandles g.slots) 200) 148 [] [.iptr [g.pv] 0 0, .iptr [.map (1 :: g.kids.length :: 20 :: A)] 0 0, .iptr [(selfAt g.slots i).pv] 0 0] (1 :: g.kids.length :: 20 :: A) [] hll ⟨fun x hx => (by cases hx), List.nodup_nil, by simp; omega⟩ (fun A' M' hM' x hx => ?_)) (Sub.one (by simp [St.find])) ?_
              · have hxV := rows_held ha hrows hlt2 hx
                refine ⟨fun hf => ?_, runs148 g (selfAt g.slots i) _ hcl 200 M' x hM' hxV A' _⟩
                obtain ⟨m1, m2⟩ := dfs_false (to := selfAt g.slots i) hcl.kids 200 M' x hM'.inV hM'.nodup hxV hM'.fuel hf
                exact ⟨m1.inV, m1.nodup, by have := nodup_len m1.sub hM'.nodup; have := hM'.fuel; omega⟩
              · cases hb : (anyS (dfs g.kids (selfAt g.slots i) 200) [] g.kids[i]).1 with
                | true =>
                  have hv : graphOk g = false := by
                    have : ¬ loopsOk g := fun hr => by have := hr i hlt2; unfold loopAt at this; rw [hb] at this; cases this
                    simp [graphOk, this]
                  repeat' first
                   |(with_reducible first|apply qa|apply qb|apply qc|apply qd|apply qe|apply qf|apply qg|apply qh|apply qi|apply qj|apply qk|apply ql|apply qm|apply qn|apply qo|apply qp|apply qq|refine blockP_ne (by decide) ?_)
                   |((with_reducible refine Pwp.reg fun K hK=>?_);simp[hb])
                   |((with_reducible refine Hid.go hK ?_);clear hK K)|((with_reducible apply Pwp.condG);rfl)|((with_reducible first|apply qqj|apply qqk);simp[hb];done)|((with_reducible first|apply qr|apply qs|apply qt|apply qu|apply qv|apply qw)<;>intro h)
                   |((with_reducible first|apply qx|apply qy|apply qz|apply qqa|apply qqb|apply qqc)<;>intro h<;>try simp[h, hb])
                   |((with_reducible refine and_go ?_ fun hs=>?_);focus omega
                     try simp[hb])
                   |((with_reducible first|apply qql|apply qqn|apply qqp);simp[hb])
                  all_goals (refine endP_ret0 ?_; simp [hv, errIf])
                | false =>
                  repeat' first
                   |(with_reducible first|apply qa|apply qb|apply qc|apply qd|apply qe|apply qf|apply qg|apply qh|apply qi|apply qj|apply qk|apply ql|apply qm|apply qn|apply qo|apply qp|apply qq|refine blockP_ne (by decide) ?_)
                   |((with_reducible refine Pwp.reg fun K hK=>?_);simp[hb, wrap_succ i (by omega)])
                   |((with_reducible refine Hid.go hK ?_);clear hK K)|((with_reducible apply Pwp.condG);rfl)|((with_reducible first|apply qqj|apply qqk);simp[hb, wrap_succ i (by omega)];done)|((with_reducible first|apply qr|apply qs|apply qt|apply qu|apply qv|apply qw)<;>intro h)
                   |((with_reducible first|apply qx|apply qy|apply qz|apply qqa|apply qqb|apply qqc)<;>intro h<;>try simp[h, hb, wrap_succ i (by omega)])
                   |((with_reducible refine and_go ?_ fun hs=>?_);focus omega
                     try simp[hb, wrap_succ i (by omega)])
                   |((with_reducible first|apply qql|apply qqn|apply qqp);simp[hb, wrap_succ i (by omega)])
                  refine roundN_go (i + 1, (anyS (dfs g.kids (selfAt g.slots i) 200) [] g.kids[i]).2) ?_ ⟨hlt2, upto_succ hp hlt2 hb⟩ (by simp only; omega)
                  refine PLe.tellNextG (pre := []) [] (by simp) ?_ ?_ ?_
                  · repeat' first | exact Sub.nil _ | refine Sub.cons (by simp [St.find, *]) ?_
                  · repeat' first | exact StLe.nil | (apply StLe.cons; (focus (first | (simp [St.find]; done) | (simp [St.find, *]; done))); (focus ((repeat' first | exact St.find_hd _ _ _ | (apply St.find_tl; (focus (first | assumption | (simp; done) | (simp [*]; done))))); done)))
                    all_goals first | exact ObLe.refl _ | (refine ObLe.of_eq ?_; simp [*]; done) | (refine ObLe.row _ _ _ (ELe.one ?_ ?_); (focus (simp; done)))
                    all_goals repeat' first | exact VLeL.nil | refine VLeL.cons ?_ ?_
                    all_goals first | exact VLe.refl _ | exact VLe.any _ | exact VLe.cap _ _ | (refine VLe.ghost1 ?_ ?_ <;> omega) | (apply VLe.row (h := ELe.refl _); (focus ((repeat' first | exact St.find_hd _ _ _ | (apply St.find_tl; (focus (first | assumption | (simp; done) | (simp [*]; done))))); done)); (simp [*]; done)) | (apply VLe.prow (h := ELe.refl _); (focus ((repeat' first | exact St.find_hd _ _ _ | (apply St.find_tl; (focus (first | assumption | (simp; done) | (simp [*]; done))))); done)); (simp; done)) | (refine VLe.of_eq ?_; simp [*]; done)
                  · repeat' first | exact VLeL.nil | refine VLeL.cons ?_ ?_
                    all_goals first | exact VLe.refl _ | exact VLe.any _ | exact VLe.cap _ _ | (refine VLe.ghost1 ?_ ?_ <;> omega) | (apply VLe.row (h := ELe.refl _); (focus ((repeat' first | exact St.find_hd _ _ _ | (apply St.find_tl; (focus (first | assumption | (simp; done) | (simp [*]; done))))); done)); (simp [*]; done)) | (apply VLe.prow (h := ELe.refl _); (focus ((repeat' first | exact St.find_hd _ _ _ | (apply St.find_tl; (focus (first | assumption | (simp; done) | (simp [*]; done))))); done)); (simp; done)) | (refine VLe.of_eq ?_; simp [*]; done)
            · have hloops : loopsOk g := fun j hj => hp j hj (by omega)
              have hv : graphOk g = true := by simp [graphOk, ha, hn, hrows, hloops]
              repeat' first
               |(with_reducible first|apply qa|apply qb|apply qc|apply qd|apply qe|apply qf|apply qg|apply qh|apply qi|apply qj|apply qk|apply ql|apply qm|apply qn|apply qo|apply qp|apply qq|refine blockP_ne (by decide) ?_)
               |((with_reducible refine Pwp.reg fun K hK=>?_);simp[hlt2])
               |((with_reducible refine Hid.go hK ?_);clear hK K)|((with_reducible apply Pwp.condG);rfl)|((with_reducible first|apply qqj|apply qqk);simp[hlt2];done)|((with_reducible first|apply qr|apply qs|apply qt|apply qu|apply qv|apply qw)<;>intro h)
               |((with_reducible first|apply qx|apply qy|apply qz|apply qqa|apply qqb|apply qqc)<;>intro h<;>try simp[h, hlt2])
               |((with_reducible refine and_go ?_ fun hs=>?_);focus omega
                 try simp[hlt2])
               |((with_reducible first|apply qql|apply qqn|apply qqp);simp[hlt2])
              all_goals (refine endP_ret0 ?_; simp [hv, errIf])
end Go.Pv

