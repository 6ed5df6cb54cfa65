/- EditBack: for every scene and node, the law EditBack returns true, and what it was given reads as before. Part 5 of 6. -/
import Derived.Test.YtocechkkeadgkaaGreatT03
set_option linter.unusedVariables false
set_option linter.unusedSimpArgs false
set_option maxRecDepth 100000
namespace Go.Pv
open Go Go.Proofs

def askErr (g : Graph) (l : List Handle) : Int := if graphOk g = true then (if l.any (fun h => !HoldsB g.slots h) then 50 else 0) else 8

structure Graph.Lens (g : Graph) : Prop where
  slots : g.slots.length < 4611686018427387904
  kids : g.kids.length < 4611686018427387904
  row : ∀ l ∈ g.kids, l.length < 4611686018427387904

set_option maxHeartbeats 4000000
theorem ent278 : enters Tryz.prog 278 = true := by kernel_rfl
theorem runs278 (A : Key) (g : Graph) (l : List Handle) (hg : g.Lens) (hl : l.length < 4611686018427387904) : Runs Tryz.prog A 278 [g.pv, handlesPv l] [] (.int .i64 (askErr g l)) [] := by
  refine Runs.body (rs := [.tmp 4]) ent278 Tryz.func278 rfl Tryz.ntmps278 rfl (fun x h => by cases h) ?_
  repeat' first
   |(with_reducible first|apply qa|apply qb|apply qc|apply qd|apply qe|apply qf|apply qg|apply qh|apply qi|apply qj|apply qk|apply ql|apply qm|apply qn|apply qo|apply qp|apply qq|refine blockP_ne (by decide) ?_)
   |((with_reducible refine Pwp.reg fun K hK=>?_);simp[*])
   |((with_reducible refine Hid.go hK ?_);clear hK K)|((with_reducible apply Pwp.condG);rfl)|((with_reducible first|apply qqj|apply qqk);simp[*];done)|((with_reducible first|apply qr|apply qs|apply qt|apply qu|apply qv|apply qw)<;>intro h)
   |((with_reducible first|apply qx|apply qy|apply qz|apply qqa|apply qqb|apply qqc)<;>intro h<;>try simp[h, *])
   |((with_reducible refine and_go ?_ fun hs=>?_);focus omega
     try simp[*])
   |((with_reducible first|apply qql|apply qqn|apply qqp);simp[*])
  refine vcallk_pure (runs66 _ g hg.slots hg.kids hg.row) ?_
  cases hok : graphOk g with
  | false =>
    repeat' first
     |(with_reducible first|apply qa|apply qb|apply qc|apply qd|apply qe|apply qf|apply qg|apply qh|apply qi|apply qj|apply qk|apply ql|apply qm|apply qn|apply qo|apply qp|apply qq|refine blockP_ne (by decide) ?_)
     |((with_reducible refine Pwp.reg fun K hK=>?_);simp[hok, errIf])
     |((with_reducible refine Hid.go hK ?_);clear hK K)|((with_reducible apply Pwp.condG);rfl)|((with_reducible first|apply qqj|apply qqk);simp[hok, errIf];done)|((with_reducible first|apply qr|apply qs|apply qt|apply qu|apply qv|apply qw)<;>intro h)
     |((with_reducible first|apply qx|apply qy|apply qz|apply qqa|apply qqb|apply qqc)<;>intro h<;>try simp[h, hok, errIf])
     |((with_reducible refine and_go ?_ fun hs=>?_);focus omega
       try simp[hok, errIf])
     |((with_reducible first|apply qql|apply qqn|apply qqp);simp[hok, errIf])
    all_goals (refine endP_ret0 ?_; simp [askErr, hok, errIf])
  | true =>
    repeat' first
     |(with_reducible first|apply qa|apply qb|apply qc|apply qd|apply qe|apply qf|apply qg|apply qh|apply qi|apply qj|apply qk|apply ql|apply qm|apply qn|apply qo|apply qp|apply qq|refine blockP_ne (by decide) ?_)
     |((with_reducible refine Pwp.reg fun K hK=>?_);simp[hok, errIf])
     |((with_reducible refine Hid.go hK ?_);clear hK K)|((with_reducible apply Pwp.condG);rfl)|((with_reducible first|apply qqj|apply qqk);simp[hok, errIf];done)|((with_reducible first|apply qr|apply qs|apply qt|apply qu|apply qv|apply qw)<;>intro h)
     |((with_reducible first|apply qx|apply qy|apply qz|apply qqa|apply qqb|apply qqc)<;>intro h<;>try simp[h, hok, errIf])
     |((with_reducible refine and_go ?_ fun hs=>?_);focus omega
       try simp[hok, errIf])
     |((with_reducible first|apply qql|apply qqn|apply qqp);simp[hok, errIf])
    refine Pwp.loopN (ι := Nat) (S := fun i => ⟨[.any, .any, .ptr (0 :: A) 1 0 0, .any, .any, .any, .any, .any, .any, .any, .any, .any, .any, handlesPv l, .int .i64 l.length, .int .i64 i, .any, .any, .any, .any, .any, .any, .any, .any, .any], [(0 :: A, .row 2 [g.pv])], i :: 10 :: A, 0⟩)
      (C := fun i => i ≤ l.length ∧ ∀ j, (h : j < l.length) → j < i → (!HoldsB g.slots l[j]) = false) (μ := fun i => l.length - i) 0 ?_ ?_ ?_
    · refine PLe.tellInG [] (by simp) ?_ ?_ ?_
      · repeat' first | exact Sub.nil _ | refine Sub.cons (by simp [St.find, *]) ?_
      · repeat' first | exact StLeG.nil | (apply StLeG.old; (focus (simp [St.find]; done)); (focus ((repeat' first | exact St.find_hd _ _ _ | (apply St.find_tl; (focus (first | assumption | (simp; done) | (simp [*]; done))))); done))) | (refine StLeG.new ?_ ?_ ?_ ?_; (focus (simp [St.find]; done)); (focus omega); (focus omega))
        all_goals first | exact ObLe.refl _ | (refine ObLe.of_eq ?_; simp [*]; done) | (refine ObLe.row _ _ _ (ELe.one ?_ ?_); (focus (simp; done)))
        all_goals repeat' first | exact VLeL.nil | refine VLeL.cons ?_ ?_
        all_goals first | exact VLe.refl _ | exact VLe.any _ | exact VLe.cap _ _ | (refine VLe.ghost1 ?_ ?_ <;> omega) | (apply VLe.row (h := ELe.refl _); (focus ((repeat' first | exact St.find_hd _ _ _ | (apply St.find_tl; (focus (first | assumption | (simp; done) | (simp [*]; done))))); done)); (simp [*]; done)) | (apply VLe.prow (h := ELe.refl _); (focus ((repeat' first | exact St.find_hd _ _ _ | (apply St.find_tl; (focus (first | assumption | (simp; done) | (simp [*]; done))))); done)); (simp; done)) | (refine VLe.of_eq ?_; simp [*]; done)
      · repeat' first | exact VLeL.nil | refine VLeL.cons ?_ ?_
        all_goals first | exact VLe.refl _ | exact VLe.any _ | exact VLe.cap _ _ | (refine VLe.ghost1 ?_ ?_ <;> omega) | (apply VLe.row (h := ELe.refl _); (focus ((repeat' first | exact St.find_hd _ _ _ | (apply St.find_tl; (focus (first | assumption | (simp; done) | (simp [*]; done))))); done)); (simp [*]; done)) | (apply VLe.prow (h := ELe.refl _); (focus ((repeat' first | exact St.find_hd _ _ _ | (apply St.find_tl; (focus (first | assumption | (simp; done) | (simp [*]; done))))); done)); (simp; done)) | (refine VLe.of_eq ?_; simp [*]; done)
    · simp
    · rintro i ⟨hi, hp⟩
      by_cases hlt : i < l.length
      · repeat' first
         |(with_reducible first|apply qa|apply qb|apply qc|apply qd|apply qe|apply qf|apply qg|apply qh|apply qi|apply qj|apply qk|apply ql|apply qm|apply qn|apply qo|apply qp|apply qq|refine blockP_ne (by decide) ?_)
         |((with_reducible refine Pwp.reg fun K hK=>?_);simp[hlt])
         |((with_reducible refine Hid.go hK ?_);clear hK K)|((with_reducible apply Pwp.condG);rfl)|((with_reducible first|apply qqj|apply qqk);simp[hlt];done)|((with_reducible first|apply qr|apply qs|apply qt|apply qu|apply qv|apply qw)<;>intro h)
         |((with_reducible first|apply qx|apply qy|apply qz|apply qqa|apply qqb|apply qqc)<;>intro h<;>try simp[h, hlt])
         |((with_reducible refine and_go ?_ fun hs=>?_);focus omega
           try simp[hlt])
         |((with_reducible first|apply qql|apply qqn|apply qqp);simp[hlt])
        refine vcallk_pure (runs71 _ g.slots l[i] hg.slots) ?_
        cases hb : HoldsB g.slots l[i] with
        | true =>
          repeat' first
           |(with_reducible first|apply qa|apply qb|apply qc|apply qd|apply qe|apply qf|apply qg|apply qh|apply qi|apply qj|apply qk|apply ql|apply qm|apply qn|apply qo|apply qp|apply qq|refine blockP_ne (by decide) ?_)
           |((with_reducible refine Pwp.reg fun K hK=>?_);simp[hb, wrap_succ i (by omega)])
           |((with_reducible refine Hid.go hK ?_);clear hK K)|((with_reducible apply Pwp.condG);rfl)|((with_reducible first|apply qqj|apply qqk);simp[hb, wrap_succ i (by omega)];done)|((with_reducible first|apply qr|apply qs|apply qt|apply qu|apply qv|apply qw)<;>intro h)
           |((with_reducible first|apply qx|apply qy|apply qz|apply qqa|apply qqb|apply qqc)<;>intro h<;>try simp[h, hb, wrap_succ i (by omega)])
           |((with_reducible refine and_go ?_ fun hs=>?_);focus omega
             try simp[hb, wrap_succ i (by omega)])
           |((with_reducible first|apply qql|apply qqn|apply qqp);simp[hb, wrap_succ i (by omega)])
          refine roundN_go (i + 1) ?_ ⟨hlt, upto_succ hp hlt (by simp [hb])⟩ (by omega)
          refine PLe.tellNextG (pre := []) [] (by simp) ?_ ?_ ?_
          · repeat' first | exact Sub.nil _ | refine Sub.cons (by simp [St.find, *]) ?_
          · repeat' first | exact StLe.nil | (apply StLe.cons; (focus (first | (simp [St.find]; done) | (simp [St.find, *]; done))); (focus ((repeat' first | exact St.find_hd _ _ _ | (apply St.find_tl; (focus (first | assumption | (simp; done) | (simp [*]; done))))); done)))
            all_goals first | exact ObLe.refl _ | (refine ObLe.of_eq ?_; simp [*]; done) | (refine ObLe.row _ _ _ (ELe.one ?_ ?_); (focus (simp; done)))
            all_goals repeat' first | exact VLeL.nil | refine VLeL.cons ?_ ?_
            all_goals first | exact VLe.refl _ | exact VLe.any _ | exact VLe.cap _ _ | (refine VLe.ghost1 ?_ ?_ <;> omega) | (apply VLe.row (h := ELe.refl _); (focus ((repeat' first | exact St.find_hd _ _ _ | (apply St.find_tl; (focus (first | assumption | (simp; done) | (simp [*]; done))))); done)); (simp [*]; done)) | (apply VLe.prow (h := ELe.refl _); (focus ((repeat' first | exact St.find_hd _ _ _ | (apply St.find_tl; (focus (first | assumption | (simp; done) | (simp [*]; done))))); done)); (simp; done)) | (refine VLe.of_eq ?_; simp [*]; done)
          · repeat' first | exact VLeL.nil | refine VLeL.cons ?_ ?_
            all_goals first | exact VLe.refl _ | exact VLe.any _ | exact VLe.cap _ _ | (refine VLe.ghost1 ?_ ?_ <;> omega) | (apply VLe.row (h := ELe.refl _); (focus ((repeat' first | exact St.find_hd _ _ _ | (apply St.find_tl; (focus (first | assumption | (simp; done) | (simp [*]; done))))); done)); (simp [*]; done)) | (apply VLe.prow (h := ELe.refl _); (focus ((repeat' first | exact St.find_hd _ _ _ | (apply St.find_tl; (focus (first | assumption | (simp; done) | (simp [*]; done))))); done)); (simp; done)) | (refine VLe.of_eq ?_; simp [*]; done)
        | false =>
          have hv : l.any (fun h => !HoldsB g.slots h) = true := List.any_eq_true.2 ⟨_, List.getElem_mem hlt, by simp [hb]⟩
          repeat' first
           |(with_reducible first|apply qa|apply qb|apply qc|apply qd|apply qe|apply qf|apply qg|apply qh|apply qi|apply qj|apply qk|apply ql|apply qm|apply qn|apply qo|apply qp|apply qq|refine blockP_ne (by decide) ?_)
           |((with_reducible refine Pwp.reg fun K hK=>?_);simp[hb])
           |((with_reducible refine Hid.go hK ?_);clear hK K)|((with_reducible apply Pwp.condG);rfl)|((with_reducible first|apply qqj|apply qqk);simp[hb];done)|((with_reducible first|apply qr|apply qs|apply qt|apply qu|apply qv|apply qw)<;>intro h)
           |((with_reducible first|apply qx|apply qy|apply qz|apply qqa|apply qqb|apply qqc)<;>intro h<;>try simp[h, hb])
           |((with_reducible refine and_go ?_ fun hs=>?_);focus omega
             try simp[hb])
           |((with_reducible first|apply qql|apply qqn|apply qqp);simp[hb])
          all_goals (refine endP_ret0 ?_; simp only [askErr, hok, hv]; simp)
      · have hv : l.any (fun h => !HoldsB g.slots h) = false := by
          rw [List.any_eq_false]
          intro x hx
          obtain ⟨j, hj, rfl⟩ := List.getElem_of_mem hx
          have := hp j hj (by omega)
          simpa using this
        repeat' first
         |(with_reducible first|apply qa|apply qb|apply qc|apply qd|apply qe|apply qf|apply qg|apply qh|apply qi|apply qj|apply qk|apply ql|apply qm|apply qn|apply qo|apply qp|apply qq|refine blockP_ne (by decide) ?_)
         |((with_reducible refine Pwp.reg fun K hK=>?_);simp[hlt])
         |((with_reducible refine Hid.go hK ?_);clear hK K)|((with_reducible apply Pwp.condG);rfl)|((with_reducible first|apply qqj|apply qqk);simp[hlt];done)|((with_reducible first|apply qr|apply qs|apply qt|apply qu|apply qv|apply qw)<;>intro h)
         |((with_reducible first|apply qx|apply qy|apply qz|apply qqa|apply qqb|apply qqc)<;>intro h<;>try simp[h, hlt])
         |((with_reducible refine and_go ?_ fun hs=>?_);focus omega
           try simp[hlt])
         |((with_reducible first|apply qql|apply qqn|apply qqp);simp[hlt])
        all_goals (refine endP_ret0 ?_; simp only [askErr, hok, hv]; simp)

def freeSlot (x : Slot) : Bool := !x.live && decide (x.gen < 1073741824)
theorem ent309 : enters Tryz.prog 309 = true := by kernel_rfl
theorem runs309 (A : Key) (x : Slot) : Runs Tryz.prog A 309 [.int .i64 1073741824, x.pv] [] (.bool (freeSlot x)) [] := by
  refine Runs.body (rs := [.tmp 4]) ent309 Tryz.func309 rfl Tryz.ntmps309 rfl (fun x h => by cases h) ?_
  cases hx : x.live with
  | true =>
    repeat' first
     |(with_reducible first|apply qa|apply qb|apply qc|apply qd|apply qe|apply qf|apply qg|apply qh|apply qi|apply qj|apply qk|apply ql|apply qm|apply qn|apply qo|apply qp|apply qq|refine blockP_ne (by decide) ?_)
     |((with_reducible refine Pwp.reg fun K hK=>?_);simp[hx])
     |((with_reducible refine Hid.go hK ?_);clear hK K)|((with_reducible apply Pwp.condG);rfl)|((with_reducible first|apply qqj|apply qqk);simp[hx];done)|((with_reducible first|apply qr|apply qs|apply qt|apply qu|apply qv|apply qw)<;>intro h)
     |((with_reducible first|apply qx|apply qy|apply qz|apply qqa|apply qqb|apply qqc)<;>intro h<;>try simp[h, hx])
     |((with_reducible refine and_go ?_ fun hs=>?_);focus omega
       try simp[hx])
     |((with_reducible first|apply qql|apply qqn|apply qqp);simp[hx])
    all_goals (refine endP_ret0 ?_; simp [freeSlot, hx])
  | false =>
    repeat' first
     |(with_reducible first|apply qa|apply qb|apply qc|apply qd|apply qe|apply qf|apply qg|apply qh|apply qi|apply qj|apply qk|apply ql|apply qm|apply qn|apply qo|apply qp|apply qq|refine blockP_ne (by decide) ?_)
     |((with_reducible refine Pwp.reg fun K hK=>?_);simp[hx])
     |((with_reducible refine Hid.go hK ?_);clear hK K)|((with_reducible apply Pwp.condG);rfl)|((with_reducible first|apply qqj|apply qqk);simp[hx];done)|((with_reducible first|apply qr|apply qs|apply qt|apply qu|apply qv|apply qw)<;>intro h)
     |((with_reducible first|apply qx|apply qy|apply qz|apply qqa|apply qqb|apply qqc)<;>intro h<;>try simp[h, hx])
     |((with_reducible refine and_go ?_ fun hs=>?_);focus omega
       try simp[hx])
     |((with_reducible first|apply qql|apply qqn|apply qqp);simp[hx])
    all_goals (refine endP_ret0 ?_; simp [freeSlot, hx])

def arenaMake (l : List Slot) : List Slot × Handle × Int :=
  if arenaBad l = true then ([], ⟨0, 0⟩, 8)
  else match l.findIdx? freeSlot with
    | some i => (l.set i ⟨(slotAt l i).gen + 1, true⟩, ⟨i, (slotAt l i).gen + 1⟩, 0)
    | none => if l.length = 128 then ([], ⟨0, 0⟩, 9) else (l ++ [(⟨1, true⟩ : Slot)], ⟨l.length, 1⟩, 0)

theorem ent279 : enters Tryz.prog 279 = true := by kernel_rfl
theorem runs279 (A : Key) (l : List Slot) (hl : l.length < 4611686018427387904) : Runs Tryz.prog A 279 [arenaPv l] [] (.tup [arenaPv (arenaMake l).1, (arenaMake l).2.1.pv, .int .i64 (arenaMake l).2.2]) [] := by
  cases ha : arenaBad l with
  | true =>
    have hm : arenaMake l = ([], ⟨0, 0⟩, 8) := by simp [arenaMake, ha]
    rw [hm]
    refine Runs.body (rs := [.cell 2 24, .cell 3 32, .tmp 4]) ent279 Tryz.func279 rfl Tryz.ntmps279 rfl (fun x h => by cases h) ?_
    repeat' first
     |(with_reducible first|apply qa|apply qb|apply qc|apply qd|apply qe|apply qf|apply qg|apply qh|apply qi|apply qj|apply qk|apply ql|apply qm|apply qn|apply qo|apply qp|apply qq|refine blockP_ne (by decide) ?_)
     |((with_reducible refine Pwp.reg fun K hK=>?_);simp[*])
     |((with_reducible refine Pwp.drawn (id := 10) follows_mixed [0, 1, 0, 0, 8, 0, 56, 120, 248, 504, 1016, 2047, 4095] [false, false, false, false, false, false, false, false, false, false, false, true, true] ?_ fun K hK => ?_); focus kernel_rfl
       simp [*])
     |((with_reducible refine Pwp.drawnOw (id := 13) follows_mixed [0, 0, 0, 4, 0, 28, 60, 124, 254, 1, 1023, 2047] [false, false, false, false, false, false, false, false, false, false, true, false] (1 :: A) 9 (by simp [St.find]) ?_ fun K hK => ?_); focus kernel_rfl
       simp [*])
     |((with_reducible refine Hid.go hK ?_);clear hK K)|((with_reducible apply Pwp.condG);rfl)|((with_reducible first|apply qqj|apply qqk);simp[*];done)|((with_reducible first|apply qr|apply qs|apply qt|apply qu|apply qv|apply qw)<;>intro h)
     |((with_reducible first|apply qx|apply qy|apply qz|apply qqa|apply qqb|apply qqc|apply qqd|apply qqe|apply qqf|apply qqg|apply qqh|apply qqi)<;>intro h<;>try simp[h, *])
     |((with_reducible refine and_go ?_ fun hs=>?_);focus omega
       try simp[*])
     |((with_reducible first|apply qql|apply qqn|apply qqp|apply qqm|apply qqo|apply qqq);simp[*])
    refine vcallk_pure (runs145 _ l hl) ?_
    repeat' first
     |(with_reducible first|apply qa|apply qb|apply qc|apply qd|apply qe|apply qf|apply qg|apply qh|apply qi|apply qj|apply qk|apply ql|apply qm|apply qn|apply qo|apply qp|apply qq|refine blockP_ne (by decide) ?_)
     |((with_reducible refine Pwp.reg fun K hK=>?_);simp[ha, errIf])
     |((with_reducible refine Pwp.drawn (id := 10) follows_mixed [0, 1, 0, 0, 8, 0, 56, 120, 248, 504, 1016, 2047, 4095] [false, false, false, false, false, false, false, false, false, false, false, true, true] ?_ fun K hK => ?_); focus kernel_rfl
       simp [ha, errIf])
     |((with_reducible refine Pwp.drawnOw (id := 13) follows_mixed [0, 0, 0, 4, 0, 28, 60, 124, 254, 1, 1023, 2047] [false, false, false, false, false, false, false, false, false, false, true, false] (1 :: A) 9 (by simp [St.find]) ?_ fun K hK => ?_); focus kernel_rfl
       simp [ha, errIf])
     |((with_reducible refine Hid.go hK ?_);clear hK K)|((with_reducible apply Pwp.condG);rfl)|((with_reducible first|apply qqj|apply qqk);simp[ha, errIf];done)|((with_reducible first|apply qr|apply qs|apply qt|apply qu|apply qv|apply qw)<;>intro h)
     |((with_reducible first|apply qx|apply qy|apply qz|apply qqa|apply qqb|apply qqc|apply qqd|apply qqe|apply qqf|apply qqg|apply qqh|apply qqi)<;>intro h<;>try simp[h, ha, errIf])
     |((with_reducible refine and_go ?_ fun hs=>?_);focus omega
       try simp[ha, errIf])
     |((with_reducible first|apply qql|apply qqn|apply qqp|apply qqm|apply qqo|apply qqq);simp[ha, errIf])
    refine endP_mem (by first | exact .inl rfl | exact .inr rfl) [] [(1 :: A, .row 1 [arenaPv []]), (2 :: A, .row 2 [Handle.pv ⟨0, 0⟩])] ?_ ?_ ?_ ?_
    · repeat' first | exact Sub.nil _ | refine Sub.cons (by simp [St.find]) ?_
    · repeat' first | exact StLe.nil | (apply StLe.cons; (focus (simp [St.find]; done)))
      all_goals try ((((repeat' first | exact St.find_hd _ _ _ | (apply St.find_tl; (focus (first | assumption | (simp; done) | (simp [*]; done))))); done)); done)
      all_goals first | exact ObLe.refl _ | (refine ObLe.of_eq ?_; simp [*]; done) | (refine ObLe.row _ _ _ (ELe.one ?_ ?_); (focus (simp; done)))
      all_goals repeat' first | exact VLeL.nil | refine VLeL.cons ?_ ?_
      all_goals first | exact VLe.refl _ | exact VLe.cap _ _ | exact VLe.any _ | (apply VLe.row (h := ELe.refl _); (focus (((repeat' first | exact St.find_hd _ _ _ | (apply St.find_tl; (focus (first | assumption | (simp; done) | (simp [*]; done))))); done))); (simp [*]; done)) | (refine VLe.of_eq ?_; simp [*]; done)
    · simp [*]
    · repeat' first | exact Sub.nil _ | refine Sub.cons (by simp [St.find]) ?_
  | false =>
    have h128 := arena_len ha
    cases hx : l.findIdx? freeSlot with
    | some i =>
      obtain ⟨hi, hfree, _⟩ := List.findIdx?_eq_some_iff_getElem.1 hx
      have hsl : slotAt l i = l[i] := by simp [slotAt, List.getD_eq_getElem?_getD, hi]
      have hm : arenaMake l = (l.set i ⟨l[i].gen + 1, true⟩, ⟨i, l[i].gen + 1⟩, 0) := by simp [arenaMake, ha, hx, hsl]
      rw [hm]
      have hidx : idxF freeSlot l = (i : Int) := by simp [idxF, hx]
      have hgen : 1 ≤ l[i].gen ∧ l[i].gen ≤ 1073741824 := by
        simp only [arenaBad, Bool.or_eq_false_iff, List.any_eq_false] at ha
        have := ha.2 l[i] (List.getElem_mem hi)
        simp only [slotBad, decide_eq_true_eq] at this
        omega
      have hw := wrap_in (l[i].gen + 1) (by omega)
      clear hx hfree hm hsl
      refine Runs.body (rs := [.cell 2 24, .cell 3 32, .tmp 4]) ent279 Tryz.func279 rfl Tryz.ntmps279 rfl (fun x h => by cases h) ?_
      repeat' first
       |(with_reducible first|apply qa|apply qb|apply qc|apply qd|apply qe|apply qf|apply qg|apply qh|apply qi|apply qj|apply qk|apply ql|apply qm|apply qn|apply qo|apply qp|apply qq|refine blockP_ne (by decide) ?_)
       |((with_reducible refine Pwp.reg fun K hK=>?_);simp[*])
       |((with_reducible refine Pwp.drawn (id := 10) follows_mixed [0, 1, 0, 0, 8, 0, 56, 120, 248, 504, 1016, 2047, 4095] [false, false, false, false, false, false, false, false, false, false, false, true, true] ?_ fun K hK => ?_); focus kernel_rfl
         simp [*])
       |((with_reducible refine Pwp.drawnOw (id := 13) follows_mixed [0, 0, 0, 4, 0, 28, 60, 124, 254, 1, 1023, 2047] [false, false, false, false, false, false, false, false, false, false, true, false] (1 :: A) 9 (by simp [St.find]) ?_ fun K hK => ?_); focus kernel_rfl
         simp [*])
       |((with_reducible refine Hid.go hK ?_);clear hK K)|((with_reducible apply Pwp.condG);rfl)|((with_reducible first|apply qqj|apply qqk);simp[*];done)|((with_reducible first|apply qr|apply qs|apply qt|apply qu|apply qv|apply qw)<;>intro h)
       |((with_reducible first|apply qx|apply qy|apply qz|apply qqa|apply qqb|apply qqc|apply qqd|apply qqe|apply qqf|apply qqg|apply qqh|apply qqi)<;>intro h<;>try simp[h, *])
       |((with_reducible refine and_go ?_ fun hs=>?_);focus omega
         try simp[*])
       |((with_reducible first|apply qql|apply qqn|apply qqp|apply qqm|apply qqo|apply qqq);simp[*])
      refine vcallk_pure (runs145 _ l hl) ?_
      repeat' first
       |(with_reducible first|apply qa|apply qb|apply qc|apply qd|apply qe|apply qf|apply qg|apply qh|apply qi|apply qj|apply qk|apply ql|apply qm|apply qn|apply qo|apply qp|apply qq|refine blockP_ne (by decide) ?_)
       |((with_reducible refine Pwp.reg fun K hK=>?_);simp[ha, errIf])
       |((with_reducible refine Pwp.drawn (id := 10) follows_mixed [0, 1, 0, 0, 8, 0, 56, 120, 248, 504, 1016, 2047, 4095] [false, false, false, false, false, false, false, false, false, false, false, true, true] ?_ fun K hK => ?_); focus kernel_rfl
         simp [ha, errIf])
       |((with_reducible refine Pwp.drawnOw (id := 13) follows_mixed [0, 0, 0, 4, 0, 28, 60, 124, 254, 1, 1023, 2047] [false, false, false, false, false, false, false, false, false, false, true, false] (1 :: A) 9 (by simp [St.find]) ?_ fun K hK => ?_); focus kernel_rfl
         simp [ha, errIf])
       |((with_reducible refine Hid.go hK ?_);clear hK K)|((with_reducible apply Pwp.condG);rfl)|((with_reducible first|apply qqj|apply qqk);simp[ha, errIf];done)|((with_reducible first|apply qr|apply qs|apply qt|apply qu|apply qv|apply qw)<;>intro h)
       |((with_reducible first|apply qx|apply qy|apply qz|apply qqa|apply qqb|apply qqc|apply qqd|apply qqe|apply qqf|apply qqg|apply qqh|apply qqi)<;>intro h<;>try simp[h, ha, errIf])
       |((with_reducible refine and_go ?_ fun hs=>?_);focus omega
         try simp[ha, errIf])
       |((with_reducible first|apply qql|apply qqn|apply qqp|apply qqm|apply qqo|apply qqq);simp[ha, errIf])
      refine vcallk_new (runs217 _ l (by omega)) (Sub.nil _) ?_
      repeat' first
       |(with_reducible first|apply qa|apply qb|apply qc|apply qd|apply qe|apply qf|apply qg|apply qh|apply qi|apply qj|apply qk|apply ql|apply qm|apply qn|apply qo|apply qp|apply qq|refine blockP_ne (by decide) ?_)
       |((with_reducible refine Pwp.reg fun K hK=>?_);simp[ha, errIf])
       |((with_reducible refine Pwp.drawn (id := 10) follows_mixed [0, 1, 0, 0, 8, 0, 56, 120, 248, 504, 1016, 2047, 4095] [false, false, false, false, false, false, false, false, false, false, false, true, true] ?_ fun K hK => ?_); focus kernel_rfl
         simp [ha, errIf])
       |((with_reducible refine Pwp.drawnOw (id := 13) follows_mixed [0, 0, 0, 4, 0, 28, 60, 124, 254, 1, 1023, 2047] [false, false, false, false, false, false, false, false, false, false, true, false] (1 :: A) 9 (by simp [St.find]) ?_ fun K hK => ?_); focus kernel_rfl
         simp [ha, errIf])
       |((with_reducible refine Hid.go hK ?_);clear hK K)|((with_reducible apply Pwp.condG);rfl)|((with_reducible first|apply qqj|apply qqk);simp[ha, errIf];done)|((with_reducible first|apply qr|apply qs|apply qt|apply qu|apply qv|apply qw)<;>intro h)
       |((with_reducible first|apply qx|apply qy|apply qz|apply qqa|apply qqb|apply qqc|apply qqd|apply qqe|apply qqf|apply qqg|apply qqh|apply qqi)<;>intro h<;>try simp[h, ha, errIf])
       |((with_reducible refine and_go ?_ fun hs=>?_);focus omega
         try simp[ha, errIf])
       |((with_reducible first|apply qql|apply qqn|apply qqp|apply qqm|apply qqo|apply qqq);simp[ha, errIf])
      refine vcallk_new (Runs.borrow [(5 :: 10 :: A, .row 2 (l.map Slot.pv))] (runs292 _ l freeSlot 309 [.int .i64 1073741824] [] hl (fun A' x _ => runs309 A' x)) (VLeL.cons (VLe.row (sz := 2) (St.find_hd _ _ _) (by simp) (ELe.refl _)) (VLeL.cons (VLe.refl _) VLeL.nil)) rfl) (Sub.one (by simp [St.find])) ?_
      repeat' first
       |(with_reducible first|apply qa|apply qb|apply qc|apply qd|apply qe|apply qf|apply qg|apply qh|apply qi|apply qj|apply qk|apply ql|apply qm|apply qn|apply qo|apply qp|apply qq|refine blockP_ne (by decide) ?_)
       |((with_reducible refine Pwp.reg fun K hK=>?_);simp[hidx, hi, hw])
       |((with_reducible refine Pwp.drawn (id := 10) follows_mixed [0, 1, 0, 0, 8, 0, 56, 120, 248, 504, 1016, 2047, 4095] [false, false, false, false, false, false, false, false, false, false, false, true, true] ?_ fun K hK => ?_); focus kernel_rfl
         simp [hidx, hi, hw])
       |((with_reducible refine Pwp.drawnOw (id := 13) follows_mixed [0, 0, 0, 4, 0, 28, 60, 124, 254, 1, 1023, 2047] [false, false, false, false, false, false, false, false, false, false, true, false] (1 :: A) 9 (by simp [St.find]) ?_ fun K hK => ?_); focus kernel_rfl
         simp [hidx, hi, hw])
       |((with_reducible refine Hid.go hK ?_);clear hK K)|((with_reducible apply Pwp.condG);rfl)|((with_reducible first|apply qqj|apply qqk);simp[hidx, hi, hw];done)|((with_reducible first|apply qr|apply qs|apply qt|apply qu|apply qv|apply qw)<;>intro h)
       |((with_reducible first|apply qx|apply qy|apply qz|apply qqa|apply qqb|apply qqc|apply qqd|apply qqe|apply qqf|apply qqg|apply qqh|apply qqi)<;>intro h<;>try simp[h, hidx, hi, hw])
       |((with_reducible refine and_go ?_ fun hs=>?_);focus omega
         try simp[hidx, hi, hw])
       |((with_reducible first|apply qql|apply qqn|apply qqp|apply qqm|apply qqo|apply qqq);simp[hidx, hi, hw])
      refine endP_mem (by first | exact .inl rfl | exact .inr rfl) [(5 :: 10 :: A, .row 2 ((l.set i ⟨l[i].gen + 1, true⟩).map Slot.pv))] [(1 :: A, .row 1 [arenaPv (l.set i ⟨l[i].gen + 1, true⟩)]), (2 :: A, .row 2 [Handle.pv ⟨i, l[i].gen + 1⟩])] ?_ ?_ ?_ ?_
      · repeat' first | exact Sub.nil _ | refine Sub.cons (by simp [St.find]) ?_
      · repeat' first | exact StLe.nil | (apply StLe.cons; (focus (simp [St.find]; done)))
        all_goals try ((((repeat' first | exact St.find_hd _ _ _ | (apply St.find_tl; (focus (first | assumption | (simp; done) | (simp [*]; done))))); done)); done)
        all_goals first | exact ObLe.refl _ | (refine ObLe.of_eq ?_; simp [*]; done) | (refine ObLe.row _ _ _ (ELe.one ?_ ?_); (focus (simp; done)))
        all_goals repeat' first | exact VLeL.nil | refine VLeL.cons ?_ ?_
        all_goals first | exact VLe.refl _ | exact VLe.cap _ _ | exact VLe.any _ | (apply VLe.row (h := ELe.refl _); (focus (((repeat' first | exact St.find_hd _ _ _ | (apply St.find_tl; (focus (first | assumption | (simp; done) | (simp [*]; done))))); done))); (simp [*]; done)) | (refine VLe.of_eq ?_; simp [*]; done)
      · simp [*]
      · repeat' first | exact Sub.nil _ | refine Sub.cons (by simp [St.find]) ?_
    | none =>
      have hidx : idxF freeSlot l = -1 := by simp [idxF, hx]
      by_cases h8 : l.length = 128
      · have hm : arenaMake l = ([], ⟨0, 0⟩, 9) := by simp [arenaMake, ha, hx, h8]
        rw [hm]
        clear hx hm
        refine Runs.body (rs := [.cell 2 24, .cell 3 32, .tmp 4]) ent279 Tryz.func279 rfl Tryz.ntmps279 rfl (fun x h => by cases h) ?_
        repeat' first
         |(with_reducible first|apply qa|apply qb|apply qc|apply qd|apply qe|apply qf|apply qg|apply qh|apply qi|apply qj|apply qk|apply ql|apply qm|apply qn|apply qo|apply qp|apply qq|refine blockP_ne (by decide) ?_)
         |((with_reducible refine Pwp.reg fun K hK=>?_);simp[*])
         |((with_reducible refine Pwp.drawn (id := 10) follows_mixed [0, 1, 0, 0, 8, 0, 56, 120, 248, 504, 1016, 2047, 4095] [false, false, false, false, false, false, false, false, false, false, false, true, true] ?_ fun K hK => ?_); focus kernel_rfl
           simp [*])
         |((with_reducible refine Pwp.drawnOw (id := 13) follows_mixed [0, 0, 0, 4, 0, 28, 60, 124, 254, 1, 1023, 2047] [false, false, false, false, false, false, false, false, false, false, true, false] (1 :: A) 9 (by simp [St.find]) ?_ fun K hK => ?_); focus kernel_rfl
           simp [*])
         |((with_reducible refine Hid.go hK ?_);clear hK K)|((with_reducible apply Pwp.condG);rfl)|((with_reducible first|apply qqj|apply qqk);simp[*];done)|((with_reducible first|apply qr|apply qs|apply qt|apply qu|apply qv|apply qw)<;>intro h)
         |((with_reducible first|apply qx|apply qy|apply qz|apply qqa|apply qqb|apply qqc|apply qqd|apply qqe|apply qqf|apply qqg|apply qqh|apply qqi)<;>intro h<;>try simp[h, *])
         |((with_reducible refine and_go ?_ fun hs=>?_);focus omega
           try simp[*])
         |((with_reducible first|apply qql|apply qqn|apply qqp|apply qqm|apply qqo|apply qqq);simp[*])
        refine vcallk_pure (runs145 _ l hl) ?_
        repeat' first
         |(with_reducible first|apply qa|apply qb|apply qc|apply qd|apply qe|apply qf|apply qg|apply qh|apply qi|apply qj|apply qk|apply ql|apply qm|apply qn|apply qo|apply qp|apply qq|refine blockP_ne (by decide) ?_)
         |((with_reducible refine Pwp.reg fun K hK=>?_);simp[ha, errIf])
         |((with_reducible refine Pwp.drawn (id := 10) follows_mixed [0, 1, 0, 0, 8, 0, 56, 120, 248, 504, 1016, 2047, 4095] [false, false, false, false, false, false, false, false, false, false, false, true, true] ?_ fun K hK => ?_); focus kernel_rfl
           simp [ha, errIf])
         |((with_reducible refine Pwp.drawnOw (id := 13) follows_mixed [0, 0, 0, 4, 0, 28, 60, 124, 254, 1, 1023, 2047] [false, false, false, false, false, false, false, false, false, false, true, false] (1 :: A) 9 (by simp [St.find]) ?_ fun K hK => ?_); focus kernel_rfl
           simp [ha, errIf])
         |((with_reducible refine Hid.go hK ?_);clear hK K)|((with_reducible apply Pwp.condG);rfl)|((with_reducible first|apply qqj|apply qqk);simp[ha, errIf];done)|((with_reducible first|apply qr|apply qs|apply qt|apply qu|apply qv|apply qw)<;>intro h)
         |((with_reducible first|apply qx|apply qy|apply qz|apply qqa|apply qqb|apply qqc|apply qqd|apply qqe|apply qqf|apply qqg|apply qqh|apply qqi)<;>intro h<;>try simp[h, ha, errIf])
         |((with_reducible refine and_go ?_ fun hs=>?_);focus omega
           try simp[ha, errIf])
         |((with_reducible first|apply qql|apply qqn|apply qqp|apply qqm|apply qqo|apply qqq);simp[ha, errIf])
        refine vcallk_new (runs217 _ l (by omega)) (Sub.nil _) ?_
        repeat' first
         |(with_reducible first|apply qa|apply qb|apply qc|apply qd|apply qe|apply qf|apply qg|apply qh|apply qi|apply qj|apply qk|apply ql|apply qm|apply qn|apply qo|apply qp|apply qq|refine blockP_ne (by decide) ?_)
         |((with_reducible refine Pwp.reg fun K hK=>?_);simp[ha, errIf])
         |((with_reducible refine Pwp.drawn (id := 10) follows_mixed [0, 1, 0, 0, 8, 0, 56, 120, 248, 504, 1016, 2047, 4095] [false, false, false, false, false, false, false, false, false, false, false, true, true] ?_ fun K hK => ?_); focus kernel_rfl
           simp [ha, errIf])
         |((with_reducible refine Pwp.drawnOw (id := 13) follows_mixed [0, 0, 0, 4, 0, 28, 60, 124, 254, 1, 1023, 2047] [false, false, false, false, false, false, false, false, false, false, true, false] (1 :: A) 9 (by simp [St.find]) ?_ fun K hK => ?_); focus kernel_rfl
           simp [ha, errIf])
         |((with_reducible refine Hid.go hK ?_);clear hK K)|((with_reducible apply Pwp.condG);rfl)|((with_reducible first|apply qqj|apply qqk);simp[ha, errIf];done)|((with_reducible first|apply qr|apply qs|apply qt|apply qu|apply qv|apply qw)<;>intro h)
         |((with_reducible first|apply qx|apply qy|apply qz|apply qqa|apply qqb|apply qqc|apply qqd|apply qqe|apply qqf|apply qqg|apply qqh|apply qqi)<;>intro h<;>try simp[h, ha, errIf])
         |((with_reducible refine and_go ?_ fun hs=>?_);focus omega
           try simp[ha, errIf])
         |((with_reducible first|apply qql|apply qqn|apply qqp|apply qqm|apply qqo|apply qqq);simp[ha, errIf])
        refine vcallk_new (Runs.borrow [(5 :: 10 :: A, .row 2 (l.map Slot.pv))] (runs292 _ l freeSlot 309 [.int .i64 1073741824] [] hl (fun A' x _ => runs309 A' x)) (VLeL.cons (VLe.row (sz := 2) (St.find_hd _ _ _) (by simp) (ELe.refl _)) (VLeL.cons (VLe.refl _) VLeL.nil)) rfl) (Sub.one (by simp [St.find])) ?_
        repeat' first
         |(with_reducible first|apply qa|apply qb|apply qc|apply qd|apply qe|apply qf|apply qg|apply qh|apply qi|apply qj|apply qk|apply ql|apply qm|apply qn|apply qo|apply qp|apply qq|refine blockP_ne (by decide) ?_)
         |((with_reducible refine Pwp.reg fun K hK=>?_);simp[hidx, h8])
         |((with_reducible refine Pwp.drawn (id := 10) follows_mixed [0, 1, 0, 0, 8, 0, 56, 120, 248, 504, 1016, 2047, 4095] [false, false, false, false, false, false, false, false, false, false, false, true, true] ?_ fun K hK => ?_); focus kernel_rfl
           simp [hidx, h8])
         |((with_reducible refine Pwp.drawnOw (id := 13) follows_mixed [0, 0, 0, 4, 0, 28, 60, 124, 254, 1, 1023, 2047] [false, false, false, false, false, false, false, false, false, false, true, false] (1 :: A) 9 (by simp [St.find]) ?_ fun K hK => ?_); focus kernel_rfl
           simp [hidx, h8])
         |((with_reducible refine Hid.go hK ?_);clear hK K)|((with_reducible apply Pwp.condG);rfl)|((with_reducible first|apply qqj|apply qqk);simp[hidx, h8];done)|((with_reducible first|apply qr|apply qs|apply qt|apply qu|apply qv|apply qw)<;>intro h)
         |((with_reducible first|apply qx|apply qy|apply qz|apply qqa|apply qqb|apply qqc|apply qqd|apply qqe|apply qqf|apply qqg|apply qqh|apply qqi)<;>intro h<;>try simp[h, hidx, h8])
         |((with_reducible refine and_go ?_ fun hs=>?_);focus omega
           try simp[hidx, h8])
         |((with_reducible first|apply qql|apply qqn|apply qqp|apply qqm|apply qqo|apply qqq);simp[hidx, h8])
        refine endP_mem (by first | exact .inl rfl | exact .inr rfl) [] [(1 :: A, .row 1 [arenaPv []]), (2 :: A, .row 2 [Handle.pv ⟨0, 0⟩])] ?_ ?_ ?_ ?_
        · repeat' first | exact Sub.nil _ | refine Sub.cons (by simp [St.find]) ?_
        · repeat' first | exact StLe.nil | (apply StLe.cons; (focus (simp [St.find]; done)))
          all_goals try ((((repeat' first | exact St.find_hd _ _ _ | (apply St.find_tl; (focus (first | assumption | (simp; done) | (simp [*]; done))))); done)); done)
          all_goals first | exact ObLe.refl _ | (refine ObLe.of_eq ?_; simp [*]; done) | (refine ObLe.row _ _ _ (ELe.one ?_ ?_); (focus (simp; done)))
          all_goals repeat' first | exact VLeL.nil | refine VLeL.cons ?_ ?_
          all_goals first | exact VLe.refl _ | exact VLe.cap _ _ | exact VLe.any _ | (apply VLe.row (h := ELe.refl _); (focus (((repeat' first | exact St.find_hd _ _ _ | (apply St.find_tl; (focus (first | assumption | (simp; done) | (simp [*]; done))))); done))); (simp [*]; done)) | (refine VLe.of_eq ?_; simp [*]; done)
        · simp [*]
        · repeat' first | exact Sub.nil _ | refine Sub.cons (by simp [St.find]) ?_
      · have hm : arenaMake l = (l ++ [(⟨1, true⟩ : Slot)], ⟨l.length, 1⟩, 0) := by simp [arenaMake, ha, hx, h8]
        rw [hm]
        clear hx hm
        have h8' : ((l.length : Int) = 128) = False := by simp only [eq_iff_iff, iff_false]; omega
        refine Runs.body (rs := [.cell 2 24, .cell 3 32, .tmp 4]) ent279 Tryz.func279 rfl Tryz.ntmps279 rfl (fun x h => by cases h) ?_
        repeat' first
         |(with_reducible first|apply qa|apply qb|apply qc|apply qd|apply qe|apply qf|apply qg|apply qh|apply qi|apply qj|apply qk|apply ql|apply qm|apply qn|apply qo|apply qp|apply qq|refine blockP_ne (by decide) ?_)
         |((with_reducible refine Pwp.reg fun K hK=>?_);simp[*])
         |((with_reducible refine Pwp.drawn (id := 10) follows_mixed [0, 1, 0, 0, 8, 0, 56, 120, 248, 504, 1016, 2047, 4095] [false, false, false, false, false, false, false, false, false, false, false, true, true] ?_ fun K hK => ?_); focus kernel_rfl
           simp [*])
         |((with_reducible refine Pwp.drawnOw (id := 13) follows_mixed [0, 0, 0, 4, 0, 28, 60, 124, 254, 1, 1023, 2047] [false, false, false, false, false, false, false, false, false, false, true, false] (1 :: A) 9 (by simp [St.find]) ?_ fun K hK => ?_); focus kernel_rfl
           simp [*])
         |((with_reducible refine Hid.go hK ?_);clear hK K)|((with_reducible apply Pwp.condG);rfl)|((with_reducible first|apply qqj|apply qqk);simp[*];done)|((with_reducible first|apply qr|apply qs|apply qt|apply qu|apply qv|apply qw)<;>intro h)
         |((with_reducible first|apply qx|apply qy|apply qz|apply qqa|apply qqb|apply qqc|apply qqd|apply qqe|apply qqf|apply qqg|apply qqh|apply qqi)<;>intro h<;>try simp[h, *])
         |((with_reducible refine and_go ?_ fun hs=>?_);focus omega
           try simp[*])
         |((with_reducible first|apply qql|apply qqn|apply qqp|apply qqm|apply qqo|apply qqq);simp[*])
        refine vcallk_pure (runs145 _ l hl) ?_
        repeat' first
         |(with_reducible first|apply qa|apply qb|apply qc|apply qd|apply qe|apply qf|apply qg|apply qh|apply qi|apply qj|apply qk|apply ql|apply qm|apply qn|apply qo|apply qp|apply qq|refine blockP_ne (by decide) ?_)
         |((with_reducible refine Pwp.reg fun K hK=>?_);simp[ha, errIf])
         |((with_reducible refine Pwp.drawn (id := 10) follows_mixed [0, 1, 0, 0, 8, 0, 56, 120, 248, 504, 1016, 2047, 4095] [false, false, false, false, false, false, false, false, false, false, false, true, true] ?_ fun K hK => ?_); focus kernel_rfl
           simp [ha, errIf])
         |((with_reducible refine Pwp.drawnOw (id := 13) follows_mixed [0, 0, 0, 4, 0, 28, 60, 124, 254, 1, 1023, 2047] [false, false, false, false, false, false, false, false, false, false, true, false] (1 :: A) 9 (by simp [St.find]) ?_ fun K hK => ?_); focus kernel_rfl
           simp [ha, errIf])
         |((with_reducible refine Hid.go hK ?_);clear hK K)|((with_reducible apply Pwp.condG);rfl)|((with_reducible first|apply qqj|apply qqk);simp[ha, errIf];done)|((with_reducible first|apply qr|apply qs|apply qt|apply qu|apply qv|apply qw)<;>intro h)
         |((with_reducible first|apply qx|apply qy|apply qz|apply qqa|apply qqb|apply qqc|apply qqd|apply qqe|apply qqf|apply qqg|apply qqh|apply qqi)<;>intro h<;>try simp[h, ha, errIf])
         |((with_reducible refine and_go ?_ fun hs=>?_);focus omega
           try simp[ha, errIf])
         |((with_reducible first|apply qql|apply qqn|apply qqp|apply qqm|apply qqo|apply qqq);simp[ha, errIf])
        refine vcallk_new (runs217 _ l (by omega)) (Sub.nil _) ?_
        repeat' first
         |(with_reducible first|apply qa|apply qb|apply qc|apply qd|apply qe|apply qf|apply qg|apply qh|apply qi|apply qj|apply qk|apply ql|apply qm|apply qn|apply qo|apply qp|apply qq|refine blockP_ne (by decide) ?_)
         |((with_reducible refine Pwp.reg fun K hK=>?_);simp[ha, errIf])
         |((with_reducible refine Pwp.drawn (id := 10) follows_mixed [0, 1, 0, 0, 8, 0, 56, 120, 248, 504, 1016, 2047, 4095] [false, false, false, false, false, false, false, false, false, false, false, true, true] ?_ fun K hK => ?_); focus kernel_rfl
           simp [ha, errIf])
         |((with_reducible refine Pwp.drawnOw (id := 13) follows_mixed [0, 0, 0, 4, 0, 28, 60, 124, 254, 1, 1023, 2047] [false, false, false, false, false, false, false, false, false, false, true, false] (1 :: A) 9 (by simp [St.find]) ?_ fun K hK => ?_); focus kernel_rfl
           simp [ha, errIf])
         |((with_reducible refine Hid.go hK ?_);clear hK K)|((with_reducible apply Pwp.condG);rfl)|((with_reducible first|apply qqj|apply qqk);simp[ha, errIf];done)|((with_reducible first|apply qr|apply qs|apply qt|apply qu|apply qv|apply qw)<;>intro h)
         |((with_reducible first|apply qx|apply qy|apply qz|apply qqa|apply qqb|apply qqc|apply qqd|apply qqe|apply qqf|apply qqg|apply qqh|apply qqi)<;>intro h<;>try simp[h, ha, errIf])
         |((with_reducible refine and_go ?_ fun hs=>?_);focus omega
           try simp[ha, errIf])
         |((with_reducible first|apply qql|apply qqn|apply qqp|apply qqm|apply qqo|apply qqq);simp[ha, errIf])
        refine vcallk_new (Runs.borrow [(5 :: 10 :: A, .row 2 (l.map Slot.pv))] (runs292 _ l freeSlot 309 [.int .i64 1073741824] [] hl (fun A' x _ => runs309 A' x)) (VLeL.cons (VLe.row (sz := 2) (St.find_hd _ _ _) (by simp) (ELe.refl _)) (VLeL.cons (VLe.refl _) VLeL.nil)) rfl) (Sub.one (by simp [St.find])) ?_
        repeat' first
         |(with_reducible first|apply qa|apply qb|apply qc|apply qd|apply qe|apply qf|apply qg|apply qh|apply qi|apply qj|apply qk|apply ql|apply qm|apply qn|apply qo|apply qp|apply qq|refine blockP_ne (by decide) ?_)
         |((with_reducible refine Pwp.reg fun K hK=>?_);simp[hidx, h8'])
         |((with_reducible refine Pwp.drawn (id := 10) follows_mixed [0, 1, 0, 0, 8, 0, 56, 120, 248, 504, 1016, 2047, 4095] [false, false, false, false, false, false, false, false, false, false, false, true, true] ?_ fun K hK => ?_); focus kernel_rfl
           simp [hidx, h8'])
         |((with_reducible refine Pwp.drawnOw (id := 13) follows_mixed [0, 0, 0, 4, 0, 28, 60, 124, 254, 1, 1023, 2047] [false, false, false, false, false, false, false, false, false, false, true, false] (1 :: A) 9 (by simp [St.find]) ?_ fun K hK => ?_); focus kernel_rfl
           simp [hidx, h8'])
         |((with_reducible refine Hid.go hK ?_);clear hK K)|((with_reducible apply Pwp.condG);rfl)|((with_reducible first|apply qqj|apply qqk);simp[hidx, h8'];done)|((with_reducible first|apply qr|apply qs|apply qt|apply qu|apply qv|apply qw)<;>intro h)
         |((with_reducible first|apply qx|apply qy|apply qz|apply qqa|apply qqb|apply qqc|apply qqd|apply qqe|apply qqf|apply qqg|apply qqh|apply qqi)<;>intro h<;>try simp[h, hidx, h8'])
         |((with_reducible refine and_go ?_ fun hs=>?_);focus omega
           try simp[hidx, h8'])
         |((with_reducible first|apply qql|apply qqn|apply qqp|apply qqm|apply qqo|apply qqq);simp[hidx, h8'])
        refine endP_mem (by first | exact .inl rfl | exact .inr rfl) [(5 :: 10 :: A, .row 2 ((l ++ [(⟨1, true⟩ : Slot)]).map Slot.pv))] [(1 :: A, .row 1 [arenaPv (l ++ [(⟨1, true⟩ : Slot)])]), (2 :: A, .row 2 [Handle.pv ⟨l.length, 1⟩])] ?_ ?_ ?_ ?_
        · repeat' first | exact Sub.nil _ | refine Sub.cons (by simp [St.find]) ?_
        · repeat' first | exact StLe.nil | (apply StLe.cons; (focus (simp [St.find]; done)))
          all_goals try ((((repeat' first | exact St.find_hd _ _ _ | (apply St.find_tl; (focus (first | assumption | (simp; done) | (simp [*]; done))))); done)); done)
          all_goals first | exact ObLe.refl _ | (refine ObLe.of_eq ?_; simp [*]; done) | (refine ObLe.row _ _ _ (ELe.one ?_ ?_); (focus (simp; done)))
          all_goals repeat' first | exact VLeL.nil | refine VLeL.cons ?_ ?_
          all_goals first | exact VLe.refl _ | exact VLe.cap _ _ | exact VLe.any _ | (apply VLe.row (h := ELe.refl _); (focus (((repeat' first | exact St.find_hd _ _ _ | (apply St.find_tl; (focus (first | assumption | (simp; done) | (simp [*]; done))))); done))); (simp [*]; done)) | (refine VLe.of_eq ?_; simp [*]; done)
        · simp [*]
        · repeat' first | exact Sub.nil _ | refine Sub.cons (by simp [St.find]) ?_

def arenaKill (l : List Slot) (h : Handle) : List Slot × Int :=
  if arenaBad l = true then ([], 8) else if Held l h then (l.set h.slot.toNat ⟨h.gen, false⟩, 0) else ([], 50)

theorem ent283 : enters Tryz.prog 283 = true := by kernel_rfl
theorem runs283 (A : Key) (l : List Slot) (h : Handle) (hl : l.length < 4611686018427387904) : Runs Tryz.prog A 283 [arenaPv l, h.pv] [] (.tup [arenaPv (arenaKill l h).1, .int .i64 (arenaKill l h).2]) [] := by
  cases ha : arenaBad l with
  | true =>
    have hm : arenaKill l h = ([], 8) := by simp [arenaKill, ha]
    rw [hm]
    refine Runs.body (rs := [.cell 4 24, .tmp 5]) ent283 Tryz.func283 rfl Tryz.ntmps283 rfl (fun x h => by cases h) ?_
    repeat' first
     |(with_reducible first|apply qa|apply qb|apply qc|apply qd|apply qe|apply qf|apply qg|apply qh|apply qi|apply qj|apply qk|apply ql|apply qm|apply qn|apply qo|apply qp|apply qq|refine blockP_ne (by decide) ?_)
     |((with_reducible refine Pwp.reg fun K hK=>?_);simp[*])
     |((with_reducible refine Hid.go hK ?_);clear hK K)|((with_reducible apply Pwp.condG);rfl)|((with_reducible first|apply qqj|apply qqk);simp[*];done)|((with_reducible first|apply qr|apply qs|apply qt|apply qu|apply qv|apply qw)<;>intro h)
     |((with_reducible first|apply qx|apply qy|apply qz|apply qqa|apply qqb|apply qqc)<;>intro h<;>try simp[h, *])
     |((with_reducible refine and_go ?_ fun hs=>?_);focus omega
       try simp[*])
     |((with_reducible first|apply qql|apply qqn|apply qqp);simp[*])
    refine vcallk_pure (runs145 _ l hl) ?_
    repeat' first
     |(with_reducible first|apply qa|apply qb|apply qc|apply qd|apply qe|apply qf|apply qg|apply qh|apply qi|apply qj|apply qk|apply ql|apply qm|apply qn|apply qo|apply qp|apply qq|refine blockP_ne (by decide) ?_)
     |((with_reducible refine Pwp.reg fun K hK=>?_);simp[ha, errIf])
     |((with_reducible refine Hid.go hK ?_);clear hK K)|((with_reducible apply Pwp.condG);rfl)|((with_reducible first|apply qqj|apply qqk);simp[ha, errIf];done)|((with_reducible first|apply qr|apply qs|apply qt|apply qu|apply qv|apply qw)<;>intro h)
     |((with_reducible first|apply qx|apply qy|apply qz|apply qqa|apply qqb|apply qqc)<;>intro h<;>try simp[h, ha, errIf])
     |((with_reducible refine and_go ?_ fun hs=>?_);focus omega
       try simp[ha, errIf])
     |((with_reducible first|apply qql|apply qqn|apply qqp);simp[ha, errIf])
    refine endP_mem (by first | exact .inl rfl | exact .inr rfl) [] [(2 :: A, .row 1 [arenaPv []])] ?_ ?_ ?_ ?_
    · repeat' first | exact Sub.nil _ | refine Sub.cons (by simp [St.find]) ?_
    · repeat' first | exact StLe.nil | (apply StLe.cons; (focus (simp [St.find]; done)))
      all_goals try ((((repeat' first | exact St.find_hd _ _ _ | (apply St.find_tl; (focus (first | assumption | (simp; done) | (simp [*]; done))))); done)); done)
      all_goals first | exact ObLe.refl _ | (refine ObLe.of_eq ?_; simp [*]; done) | (refine ObLe.row _ _ _ (ELe.one ?_ ?_); (focus (simp; done)))
      all_goals repeat' first | exact VLeL.nil | refine VLeL.cons ?_ ?_
      all_goals first | exact VLe.refl _ | exact VLe.cap _ _ | exact VLe.any _ | (apply VLe.row (h := ELe.refl _); (focus (((repeat' first | exact St.find_hd _ _ _ | (apply St.find_tl; (focus (first | assumption | (simp; done) | (simp [*]; done))))); done))); (simp [*]; done)) | (refine VLe.of_eq ?_; simp [*]; done)
    · simp [*]
    · repeat' first | exact Sub.nil _ | refine Sub.cons (by simp [St.find]) ?_
  | false =>
    have h128 := arena_len ha
    by_cases hh : Held l h
    · obtain ⟨h0, hs⟩ := hh
      obtain ⟨hlt, he⟩ := List.getElem?_eq_some_iff.1 hs
      have hm : arenaKill l h = (l.set h.slot.toNat ⟨h.gen, false⟩, 0) := by simp [arenaKill, ha, Held, h0, hs]
      rw [hm]
      have hd : decide (Held l h) = true := by simp [Held, h0, hs]
      have hb : (h.slot < (l.length : Int)) = True := by simp only [eq_iff_iff, iff_true]; omega
      have hge : l[h.slot.toNat].gen = h.gen := by rw [he]
      clear hm hs
      refine Runs.body (rs := [.cell 4 24, .tmp 5]) ent283 Tryz.func283 rfl Tryz.ntmps283 rfl (fun x h => by cases h) ?_
      repeat' first
       |(with_reducible first|apply qa|apply qb|apply qc|apply qd|apply qe|apply qf|apply qg|apply qh|apply qi|apply qj|apply qk|apply ql|apply qm|apply qn|apply qo|apply qp|apply qq|refine blockP_ne (by decide) ?_)
       |((with_reducible refine Pwp.reg fun K hK=>?_);simp[*])
       |((with_reducible refine Hid.go hK ?_);clear hK K)|((with_reducible apply Pwp.condG);rfl)|((with_reducible first|apply qqj|apply qqk);simp[*];done)|((with_reducible first|apply qr|apply qs|apply qt|apply qu|apply qv|apply qw)<;>intro h)
       |((with_reducible first|apply qx|apply qy|apply qz|apply qqa|apply qqb|apply qqc)<;>intro h<;>try simp[h, *])
       |((with_reducible refine and_go ?_ fun hs=>?_);focus omega
         try simp[*])
       |((with_reducible first|apply qql|apply qqn|apply qqp);simp[*])
      refine vcallk_pure (runs145 _ l hl) ?_
      repeat' first
       |(with_reducible first|apply qa|apply qb|apply qc|apply qd|apply qe|apply qf|apply qg|apply qh|apply qi|apply qj|apply qk|apply ql|apply qm|apply qn|apply qo|apply qp|apply qq|refine blockP_ne (by decide) ?_)
       |((with_reducible refine Pwp.reg fun K hK=>?_);simp[ha, errIf])
       |((with_reducible refine Hid.go hK ?_);clear hK K)|((with_reducible apply Pwp.condG);rfl)|((with_reducible first|apply qqj|apply qqk);simp[ha, errIf];done)|((with_reducible first|apply qr|apply qs|apply qt|apply qu|apply qv|apply qw)<;>intro h)
       |((with_reducible first|apply qx|apply qy|apply qz|apply qqa|apply qqb|apply qqc)<;>intro h<;>try simp[h, ha, errIf])
       |((with_reducible refine and_go ?_ fun hs=>?_);focus omega
         try simp[ha, errIf])
       |((with_reducible first|apply qql|apply qqn|apply qqp);simp[ha, errIf])
      refine vcallk_pure (runs154 _ l h) ?_
      repeat' first
       |(with_reducible first|apply qa|apply qb|apply qc|apply qd|apply qe|apply qf|apply qg|apply qh|apply qi|apply qj|apply qk|apply ql|apply qm|apply qn|apply qo|apply qp|apply qq|refine blockP_ne (by decide) ?_)
       |((with_reducible refine Pwp.reg fun K hK=>?_);simp[hd])
       |((with_reducible refine Hid.go hK ?_);clear hK K)|((with_reducible apply Pwp.condG);rfl)|((with_reducible first|apply qqj|apply qqk);simp[hd];done)|((with_reducible first|apply qr|apply qs|apply qt|apply qu|apply qv|apply qw)<;>intro h)
       |((with_reducible first|apply qx|apply qy|apply qz|apply qqa|apply qqb|apply qqc)<;>intro h<;>try simp[h, hd])
       |((with_reducible refine and_go ?_ fun hs=>?_);focus omega
         try simp[hd])
       |((with_reducible first|apply qql|apply qqn|apply qqp);simp[hd])
      refine vcallk_new (runs217 _ l (by omega)) (Sub.nil _) ?_
      repeat' first
       |(with_reducible first|apply qa|apply qb|apply qc|apply qd|apply qe|apply qf|apply qg|apply qh|apply qi|apply qj|apply qk|apply ql|apply qm|apply qn|apply qo|apply qp|apply qq|refine blockP_ne (by decide) ?_)
       |((with_reducible refine Pwp.reg fun K hK=>?_);simp[h0, hb, hlt, hge])
       |((with_reducible refine Hid.go hK ?_);clear hK K)|((with_reducible apply Pwp.condG);rfl)|((with_reducible first|apply qqj|apply qqk);simp[h0, hb, hlt, hge];done)|((with_reducible first|apply qr|apply qs|apply qt|apply qu|apply qv|apply qw)<;>intro h)
       |((with_reducible first|apply qx|apply qy|apply qz|apply qqa|apply qqb|apply qqc)<;>intro h<;>try simp[h, h0, hb, hlt, hge])
       |((with_reducible refine and_go ?_ fun hs=>?_);focus omega
         try simp[h0, hb, hlt, hge])
       |((with_reducible first|apply qql|apply qqn|apply qqp);simp[h0, hb, hlt, hge])
      refine endP_mem (by first | exact .inl rfl | exact .inr rfl) [(5 :: 14 :: A, .row 2 ((l.set h.slot.toNat ⟨h.gen, false⟩).map Slot.pv))] [(2 :: A, .row 1 [arenaPv (l.set h.slot.toNat ⟨h.gen, false⟩)])] ?_ ?_ ?_ ?_
      · repeat' first | exact Sub.nil _ | refine Sub.cons (by simp [St.find]) ?_
      · repeat' first | exact StLe.nil | (apply StLe.cons; (focus (simp [St.find]; done)))
        all_goals try ((((repeat' first | exact St.find_hd _ _ _ | (apply St.find_tl; (focus (first | assumption | (simp; done) | (simp [*]; done))))); done)); done)
        all_goals first | exact ObLe.refl _ | (refine ObLe.of_eq ?_; simp [*]; done) | (refine ObLe.row _ _ _ (ELe.one ?_ ?_); (focus (simp; done)))
        all_goals repeat' first | exact VLeL.nil | refine VLeL.cons ?_ ?_
        all_goals first | exact VLe.refl _ | exact VLe.cap _ _ | exact VLe.any _ | (apply VLe.row (h := ELe.refl _); (focus (((repeat' first | exact St.find_hd _ _ _ | (apply St.find_tl; (focus (first | assumption | (simp; done) | (simp [*]; done))))); done))); (simp [*]; done)) | (refine VLe.of_eq ?_; simp [*]; done)
      · simp [*]
      · repeat' first | exact Sub.nil _ | refine Sub.cons (by simp [St.find]) ?_
    · have hm : arenaKill l h = ([], 50) := by simp [arenaKill, ha, hh]
      rw [hm]
      refine Runs.body (rs := [.cell 4 24, .tmp 5]) ent283 Tryz.func283 rfl Tryz.ntmps283 rfl (fun x h => by cases h) ?_
      repeat' first
       |(with_reducible first|apply qa|apply qb|apply qc|apply qd|apply qe|apply qf|apply qg|apply qh|apply qi|apply qj|apply qk|apply ql|apply qm|apply qn|apply qo|apply qp|apply qq|refine blockP_ne (by decide) ?_)
       |((with_reducible refine Pwp.reg fun K hK=>?_);simp[*])
       |((with_reducible refine Hid.go hK ?_);clear hK K)|((with_reducible apply Pwp.condG);rfl)|((with_reducible first|apply qqj|apply qqk);simp[*];done)|((with_reducible first|apply qr|apply qs|apply qt|apply qu|apply qv|apply qw)<;>intro h)
       |((with_reducible first|apply qx|apply qy|apply qz|apply qqa|apply qqb|apply qqc)<;>intro h<;>try simp[h, *])
       |((with_reducible refine and_go ?_ fun hs=>?_);focus omega
         try simp[*])
       |((with_reducible first|apply qql|apply qqn|apply qqp);simp[*])
      refine vcallk_pure (runs145 _ l hl) ?_
      repeat' first
       |(with_reducible first|apply qa|apply qb|apply qc|apply qd|apply qe|apply qf|apply qg|apply qh|apply qi|apply qj|apply qk|apply ql|apply qm|apply qn|apply qo|apply qp|apply qq|refine blockP_ne (by decide) ?_)
       |((with_reducible refine Pwp.reg fun K hK=>?_);simp[ha, errIf])
       |((with_reducible refine Hid.go hK ?_);clear hK K)|((with_reducible apply Pwp.condG);rfl)|((with_reducible first|apply qqj|apply qqk);simp[ha, errIf];done)|((with_reducible first|apply qr|apply qs|apply qt|apply qu|apply qv|apply qw)<;>intro h)
       |((with_reducible first|apply qx|apply qy|apply qz|apply qqa|apply qqb|apply qqc)<;>intro h<;>try simp[h, ha, errIf])
       |((with_reducible refine and_go ?_ fun hs=>?_);focus omega
         try simp[ha, errIf])
       |((with_reducible first|apply qql|apply qqn|apply qqp);simp[ha, errIf])
      refine vcallk_pure (runs154 _ l h) ?_
      repeat' first
       |(with_reducible first|apply qa|apply qb|apply qc|apply qd|apply qe|apply qf|apply qg|apply qh|apply qi|apply qj|apply qk|apply ql|apply qm|apply qn|apply qo|apply qp|apply qq|refine blockP_ne (by decide) ?_)
       |((with_reducible refine Pwp.reg fun K hK=>?_);simp[hh])
       |((with_reducible refine Hid.go hK ?_);clear hK K)|((with_reducible apply Pwp.condG);rfl)|((with_reducible first|apply qqj|apply qqk);simp[hh];done)|((with_reducible first|apply qr|apply qs|apply qt|apply qu|apply qv|apply qw)<;>intro h)
       |((with_reducible first|apply qx|apply qy|apply qz|apply qqa|apply qqb|apply qqc)<;>intro h<;>try simp[h, hh])
       |((with_reducible refine and_go ?_ fun hs=>?_);focus omega
         try simp[hh])
       |((with_reducible first|apply qql|apply qqn|apply qqp);simp[hh])
      refine endP_mem (by first | exact .inl rfl | exact .inr rfl) [] [(2 :: A, .row 1 [arenaPv []])] ?_ ?_ ?_ ?_
      · repeat' first | exact Sub.nil _ | refine Sub.cons (by simp [St.find]) ?_
      · repeat' first | exact StLe.nil | (apply StLe.cons; (focus (simp [St.find]; done)))
        all_goals try ((((repeat' first | exact St.find_hd _ _ _ | (apply St.find_tl; (focus (first | assumption | (simp; done) | (simp [*]; done))))); done)); done)
        all_goals first | exact ObLe.refl _ | (refine ObLe.of_eq ?_; simp [*]; done) | (refine ObLe.row _ _ _ (ELe.one ?_ ?_); (focus (simp; done)))
        all_goals repeat' first | exact VLeL.nil | refine VLeL.cons ?_ ?_
        all_goals first | exact VLe.refl _ | exact VLe.cap _ _ | exact VLe.any _ | (apply VLe.row (h := ELe.refl _); (focus (((repeat' first | exact St.find_hd _ _ _ | (apply St.find_tl; (focus (first | assumption | (simp; done) | (simp [*]; done))))); done))); (simp [*]; done)) | (refine VLe.of_eq ?_; simp [*]; done)
      · simp [*]
      · repeat' first | exact Sub.nil _ | refine Sub.cons (by simp [St.find]) ?_
end Go.Pv

set_option linter.unusedVariables false
set_option linter.unusedSimpArgs false
set_option maxRecDepth 100000
namespace Go.Pv
open Go Go.Proofs

structure Graph.Caps (g : Graph) : Prop where
  slots : g.slots.length ≤ 1000000
  kids : g.kids.length ≤ 1000000
  row : ∀ l ∈ g.kids, l.length ≤ 1000000

set_option maxHeartbeats 4000000
theorem ent122 : enters Tryz.prog 122 = true := by kernel_rfl
theorem runs122 (A : Key) (g : Graph) (hg : g.Caps) : Runs Tryz.prog A 122 [g.pv] [] (.agg [slotsPv g.slots, .slice (12 :: A) g.kids.length]) [(12 :: A, some (.row 1 (g.kids.map handlesPv)))] := by
  refine Runs.body (rs := [.cell 2 27]) ent122 Tryz.func122 rfl Tryz.ntmps122 rfl (by simp) ?_
  repeat' first
   |(with_reducible first|apply qa|apply qb|apply qc|apply qd|apply qe|apply qf|apply qg|apply qh|apply qi|apply qj|apply qk|apply ql|apply qm|apply qn|apply qo|apply qp|apply qq|refine blockP_ne (by decide) ?_)
   |((with_reducible refine Pwp.reg fun K hK=>?_);simp[*])
   |((with_reducible refine Pwp.drawn (id := 5) follows_mixed [0, 1, 0, 4, 12, 31, 63, 127] [false, false, false, false, false, true, false, true] ?_ fun K hK => ?_); focus kernel_rfl
     simp [*])
   |((with_reducible refine Hid.go hK ?_);clear hK K)|((with_reducible apply Pwp.condG);rfl)|((with_reducible first|apply qqj|apply qqk);simp[*];done)|((with_reducible first|apply qr|apply qs|apply qt|apply qu|apply qv|apply qw)<;>intro h)
   |((with_reducible first|apply qx|apply qy|apply qz|apply qqa|apply qqb|apply qqc|apply qqd|apply qqe|apply qqf|apply qqg|apply qqh|apply qqi)<;>intro h<;>try simp[h, *])
   |((with_reducible refine and_go ?_ fun hs=>?_);focus omega
     try simp[*])
   |((with_reducible first|apply qql|apply qqn|apply qqp|apply qqm|apply qqo|apply qqq);simp[*])
  refine vcallk_new (runs217 _ g.slots hg.slots) (Sub.nil _) ?_
  repeat' first
   |(with_reducible first|apply qa|apply qb|apply qc|apply qd|apply qe|apply qf|apply qg|apply qh|apply qi|apply qj|apply qk|apply ql|apply qm|apply qn|apply qo|apply qp|apply qq|refine blockP_ne (by decide) ?_)
   |((with_reducible refine Pwp.reg fun K hK=>?_);simp[*])
   |((with_reducible refine Pwp.drawn (id := 5) follows_mixed [0, 1, 0, 4, 12, 31, 63, 127] [false, false, false, false, false, true, false, true] ?_ fun K hK => ?_); focus kernel_rfl
     simp [*])
   |((with_reducible refine Hid.go hK ?_);clear hK K)|((with_reducible apply Pwp.condG);rfl)|((with_reducible first|apply qqj|apply qqk);simp[*];done)|((with_reducible first|apply qr|apply qs|apply qt|apply qu|apply qv|apply qw)<;>intro h)
   |((with_reducible first|apply qx|apply qy|apply qz|apply qqa|apply qqb|apply qqc|apply qqd|apply qqe|apply qqf|apply qqg|apply qqh|apply qqi)<;>intro h<;>try simp[h, *])
   |((with_reducible refine and_go ?_ fun hs=>?_);focus omega
     try simp[*])
   |((with_reducible first|apply qql|apply qqn|apply qqp|apply qqm|apply qqo|apply qqq);simp[*])
  refine Pwp.loopN (ι := Nat × List (List Handle)) (S := fun x => ⟨[.any, .ptr (0 :: A) 1 0 0, .ptr (1 :: A) 1 0 0, .ptr (6 :: A) 1 0 0, .any, .any, .any, .any, .any, .any, .any, kidsPv g.kids, .int .i64 g.kids.length, .int .i64 x.1, .any, .any, .any, .any, .any, .any, .any, .any, .any, .any, .any, .any], [(0 :: A, .row 2 [g.pv]), (1 :: A, .row 2 [.agg [.islice (some 0) [], .islice (some 0) []]]), (6 :: A, .row 2 [.agg [slotsPv g.slots, .slice (12 :: A) x.2.length]]), (12 :: A, .row 1 (x.2.map handlesPv))], x.1 :: 13 :: A, 0⟩)
    (C := fun x => x.1 ≤ g.kids.length ∧ Hid (x.2 = g.kids.take x.1)) (μ := fun x => g.kids.length - x.1) (0, []) ?_ ?_ ?_
  · refine PLe.tellInG [(5 :: 4 :: A, .row 2 (g.slots.map Slot.pv))] (by simp) ?_ ?_ ?_
    · repeat' first | exact Sub.nil _ | refine Sub.cons (by simp [St.find, *]) ?_
    · repeat' first | exact StLeG.nil | (apply StLeG.old; (focus (simp [St.find]; done)); (focus ((repeat' first | exact St.find_hd _ _ _ | (apply St.find_tl; (focus (first | assumption | (simp; done) | (simp [*]; done))))); done))) | (refine StLeG.new ?_ ?_ ?_ ?_; (focus (simp [St.find]; done)); (focus omega); (focus omega))
      all_goals first | exact ObLe.refl _ | (refine ObLe.of_eq ?_; simp [*]; done) | (refine ObLe.row _ _ _ (ELe.one ?_ ?_); (focus (simp; done)))
      all_goals repeat' first | exact VLeL.nil | refine VLeL.cons ?_ ?_
      all_goals first | exact VLe.refl _ | exact VLe.any _ | exact VLe.cap _ _ | (refine VLe.ghost1 ?_ ?_ <;> omega) | (apply VLe.row (h := ELe.refl _); (focus ((repeat' first | exact St.find_hd _ _ _ | (apply St.find_tl; (focus (first | assumption | (simp; done) | (simp [*]; done))))); done)); (simp [*]; done)) | (apply VLe.prow (h := ELe.refl _); (focus ((repeat' first | exact St.find_hd _ _ _ | (apply St.find_tl; (focus (first | assumption | (simp; done) | (simp [*]; done))))); done)); (simp; done)) | (refine VLe.of_eq ?_; simp [*]; done)
    · repeat' first | exact VLeL.nil | refine VLeL.cons ?_ ?_
      all_goals first | exact VLe.refl _ | exact VLe.any _ | exact VLe.cap _ _ | (refine VLe.ghost1 ?_ ?_ <;> omega) | (apply VLe.row (h := ELe.refl _); (focus ((repeat' first | exact St.find_hd _ _ _ | (apply St.find_tl; (focus (first | assumption | (simp; done) | (simp [*]; done))))); done)); (simp [*]; done)) | (apply VLe.prow (h := ELe.refl _); (focus ((repeat' first | exact St.find_hd _ _ _ | (apply St.find_tl; (focus (first | assumption | (simp; done) | (simp [*]; done))))); done)); (simp; done)) | (refine VLe.of_eq ?_; simp [*]; done)
  · exact ⟨by simp, ⟨by simp⟩⟩
  · rintro ⟨i, acc⟩ ⟨hi, ha⟩
    simp only at hi ha
    have hal : acc.length ≤ 1000000 := by have := hg.kids; rw [ha.of]; simp; omega
    have hkk := hg.kids
    by_cases hlt : i < g.kids.length
    · have hx := hg.row _ (List.getElem_mem hlt)
      repeat' first
       |(with_reducible first|apply qa|apply qb|apply qc|apply qd|apply qe|apply qf|apply qg|apply qh|apply qi|apply qj|apply qk|apply ql|apply qm|apply qn|apply qo|apply qp|apply qq|refine blockP_ne (by decide) ?_)
       |((with_reducible refine Pwp.reg fun K hK=>?_);simp[hlt, wrap_succ i (by omega)])
       |((with_reducible refine Pwp.drawn (id := 5) follows_mixed [0, 1, 0, 4, 12, 31, 63, 127] [false, false, false, false, false, true, false, true] ?_ fun K hK => ?_); focus kernel_rfl
         simp [hlt, wrap_succ i (by omega)])
       |((with_reducible refine Hid.go hK ?_);clear hK K)|((with_reducible apply Pwp.condG);rfl)|((with_reducible first|apply qqj|apply qqk);simp[hlt, wrap_succ i (by omega)];done)|((with_reducible first|apply qr|apply qs|apply qt|apply qu|apply qv|apply qw)<;>intro h)
       |((with_reducible first|apply qx|apply qy|apply qz|apply qqa|apply qqb|apply qqc|apply qqd|apply qqe|apply qqf|apply qqg|apply qqh|apply qqi)<;>intro h<;>try simp[h, hlt, wrap_succ i (by omega)])
       |((with_reducible refine and_go ?_ fun hs=>?_);focus omega
         try simp[hlt, wrap_succ i (by omega)])
       |((with_reducible first|apply qql|apply qqn|apply qqp|apply qqm|apply qqo|apply qqq);simp[hlt, wrap_succ i (by omega)])
      refine dcallk_pure (runs218 _ g.kids[i] hx) ?_
      repeat' first
       |(with_reducible first|apply qa|apply qb|apply qc|apply qd|apply qe|apply qf|apply qg|apply qh|apply qi|apply qj|apply qk|apply ql|apply qm|apply qn|apply qo|apply qp|apply qq|refine blockP_ne (by decide) ?_)
       |((with_reducible refine Pwp.reg fun K hK=>?_);simp[hlt, wrap_succ i (by omega)])
       |((with_reducible refine Pwp.drawn (id := 5) follows_mixed [0, 1, 0, 4, 12, 31, 63, 127] [false, false, false, false, false, true, false, true] ?_ fun K hK => ?_); focus kernel_rfl
         simp [hlt, wrap_succ i (by omega)])
       |((with_reducible refine Hid.go hK ?_);clear hK K)|((with_reducible apply Pwp.condG);rfl)|((with_reducible first|apply qqj|apply qqk);simp[hlt, wrap_succ i (by omega)];done)|((with_reducible first|apply qr|apply qs|apply qt|apply qu|apply qv|apply qw)<;>intro h)
       |((with_reducible first|apply qx|apply qy|apply qz|apply qqa|apply qqb|apply qqc|apply qqd|apply qqe|apply qqf|apply qqg|apply qqh|apply qqi)<;>intro h<;>try simp[h, hlt, wrap_succ i (by omega)])
       |((with_reducible refine and_go ?_ fun hs=>?_);focus omega
         try simp[hlt, wrap_succ i (by omega)])
       |((with_reducible first|apply qql|apply qqn|apply qqp|apply qqm|apply qqo|apply qqq);simp[hlt, wrap_succ i (by omega)])
      refine roundN_go (i + 1, acc ++ [g.kids[i]]) ?_ ⟨hlt, ⟨by rw [List.take_succ_eq_append_getElem hlt, ha.of]⟩⟩ (by simp only; omega)
      refine PLe.tellNextG (pre := []) [] (by simp) ?_ ?_ ?_
      · repeat' first | exact Sub.nil _ | refine Sub.cons (by simp [St.find, *]) ?_
      · repeat' first | exact StLe.nil | (apply StLe.cons; (focus (first | (simp [St.find]; done) | (simp [St.find, *]; done))); (focus ((repeat' first | exact St.find_hd _ _ _ | (apply St.find_tl; (focus (first | assumption | (simp; done) | (simp [*]; done))))); done)))
        all_goals first | exact ObLe.refl _ | (refine ObLe.of_eq ?_; simp [*]; done) | (refine ObLe.row _ _ _ (ELe.one ?_ ?_); (focus (simp; done)))
        all_goals repeat' first | exact VLeL.nil | refine VLeL.cons ?_ ?_
        all_goals first | exact VLe.refl _ | exact VLe.any _ | exact VLe.cap _ _ | (refine VLe.ghost1 ?_ ?_ <;> omega) | (apply VLe.row (h := ELe.refl _); (focus ((repeat' first | exact St.find_hd _ _ _ | (apply St.find_tl; (focus (first | assumption | (simp; done) | (simp [*]; done))))); done)); (simp [*]; done)) | (apply VLe.prow (h := ELe.refl _); (focus ((repeat' first | exact St.find_hd _ _ _ | (apply St.find_tl; (focus (first | assumption | (simp; done) | (simp [*]; done))))); done)); (simp; done)) | (refine VLe.of_eq ?_; simp [*]; done)
      · repeat' first | exact VLeL.nil | refine VLeL.cons ?_ ?_
        all_goals first | exact VLe.refl _ | exact VLe.any _ | exact VLe.cap _ _ | (refine VLe.ghost1 ?_ ?_ <;> omega) | (apply VLe.row (h := ELe.refl _); (focus ((repeat' first | exact St.find_hd _ _ _ | (apply St.find_tl; (focus (first | assumption | (simp; done) | (simp [*]; done))))); done)); (simp [*]; done)) | (apply VLe.prow (h := ELe.refl _); (focus ((repeat' first | exact St.find_hd _ _ _ | (apply St.find_tl; (focus (first | assumption | (simp; done) | (simp [*]; done))))); done)); (simp; done)) | (refine VLe.of_eq ?_; simp [*]; done)
    · obtain rfl : acc = g.kids := by rw [ha.of]; exact List.take_of_length_le (by omega)
      clear ha
      repeat' first
       |(with_reducible first|apply qa|apply qb|apply qc|apply qd|apply qe|apply qf|apply qg|apply qh|apply qi|apply qj|apply qk|apply ql|apply qm|apply qn|apply qo|apply qp|apply qq|refine blockP_ne (by decide) ?_)
       |((with_reducible refine Pwp.reg fun K hK=>?_);simp[hlt])
       |((with_reducible refine Pwp.drawn (id := 5) follows_mixed [0, 1, 0, 4, 12, 31, 63, 127] [false, false, false, false, false, true, false, true] ?_ fun K hK => ?_); focus kernel_rfl
         simp [hlt])
       |((with_reducible refine Hid.go hK ?_);clear hK K)|((with_reducible apply Pwp.condG);rfl)|((with_reducible first|apply qqj|apply qqk);simp[hlt];done)|((with_reducible first|apply qr|apply qs|apply qt|apply qu|apply qv|apply qw)<;>intro h)
       |((with_reducible first|apply qx|apply qy|apply qz|apply qqa|apply qqb|apply qqc|apply qqd|apply qqe|apply qqf|apply qqg|apply qqh|apply qqi)<;>intro h<;>try simp[h, hlt])
       |((with_reducible refine and_go ?_ fun hs=>?_);focus omega
         try simp[hlt])
       |((with_reducible first|apply qql|apply qqn|apply qqp|apply qqm|apply qqo|apply qqq);simp[hlt])
      refine endP_mem (by first | exact .inl rfl | exact .inr rfl) [] [(1 :: A, .row 2 [.agg [slotsPv g.slots, .slice (12 :: A) g.kids.length]]), (12 :: A, .row 1 (g.kids.map handlesPv))] ?_ ?_ ?_ ?_
      · repeat' first | exact Sub.nil _ | refine Sub.cons (by simp [St.find]) ?_
      · repeat' first | exact StLe.nil | (apply StLe.cons; (focus (simp [St.find]; done)))
        all_goals try ((((repeat' first | exact St.find_hd _ _ _ | (apply St.find_tl; (focus (first | assumption | (simp; done) | (simp [*]; done))))); done)); done)
        all_goals first | exact ObLe.refl _ | (refine ObLe.of_eq ?_; simp [*]; done) | (refine ObLe.row _ _ _ (ELe.one ?_ ?_); (focus (simp; done)))
        all_goals repeat' first | exact VLeL.nil | refine VLeL.cons ?_ ?_
        all_goals first | exact VLe.refl _ | exact VLe.cap _ _ | exact VLe.any _ | (apply VLe.row (h := ELe.refl _); (focus (((repeat' first | exact St.find_hd _ _ _ | (apply St.find_tl; (focus (first | assumption | (simp; done) | (simp [*]; done))))); done))); (simp [*]; done)) | (refine VLe.of_eq ?_; simp [*]; done)
      · simp [*]
      · repeat' first | exact Sub.nil _ | refine Sub.cons (by simp [St.find]) ?_
end Go.Pv

set_option linter.unusedVariables false
set_option linter.unusedSimpArgs false
set_option maxRecDepth 100000
namespace Go.Pv
open Go Go.Proofs

def nodesMake (g : Graph) : Graph × Handle × Int :=
  if graphOk g = true then
    if (arenaMake g.slots).2.2 = 0 then (⟨(arenaMake g.slots).1, g.kids ++ List.replicate ((arenaMake g.slots).1.length - g.kids.length) []⟩, (arenaMake g.slots).2.1, 0)
    else (⟨[], []⟩, ⟨0, 0⟩, (arenaMake g.slots).2.2)
  else (⟨[], []⟩, ⟨0, 0⟩, 8)

theorem arenaMake_len (l : List Slot) : (arenaMake l).1.length ≤ l.length + 1 := by
  unfold arenaMake
  split
  · simp
  · split
    · simp
    · split <;> simp

theorem Graph.Caps.lens {g : Graph} (h : g.Caps) : g.Lens := ⟨by have := h.slots; omega, by have := h.kids; omega, fun l hl => by have := h.row l hl; omega⟩

set_option maxHeartbeats 4000000
theorem ent209 : enters Tryz.prog 209 = true := by kernel_rfl
theorem runs209 (A : Key) (g : Graph) (hg : g.Caps) : Runs Tryz.prog A 209 [g.pv] [] (.tup [(nodesMake g).1.pv, (nodesMake g).2.1.pv, .int .i64 (nodesMake g).2.2]) [] := by
  have hask : ∀ A', Runs Tryz.prog A' 278 [g.pv, .islice (some 0) []] [] (.int .i64 (askErr g [])) [] := fun A' =>
    Runs.args (runs278 A' g [] hg.lens (by simp)) (VLeL.cons (VLe.refl _) (VLeL.cons (VLe.cap _ _) VLeL.nil))
  cases ha : graphOk g with
  | false =>
    have hm : nodesMake g = (⟨[], []⟩, ⟨0, 0⟩, 8) := by simp [nodesMake, ha]
    rw [hm]
    refine Runs.body (rs := [.cell 2 27, .cell 3 32, .tmp 4]) ent209 Tryz.func209 rfl Tryz.ntmps209 rfl (fun x h => by cases h) ?_
    repeat' first
     |(with_reducible first|apply qa|apply qb|apply qc|apply qd|apply qe|apply qf|apply qg|apply qh|apply qi|apply qj|apply qk|apply ql|apply qm|apply qn|apply qo|apply qp|apply qq|refine blockP_ne (by decide) ?_)
     |((with_reducible refine Pwp.reg fun K hK=>?_);simp[*])
     |((with_reducible refine Pwp.drawnOw (id := 11) follows_mixed [0, 0, 1, 7, 15] [false, false, false, true, false] (1 :: A) 2 (by simp [St.find]) ?_ fun K hK => ?_); focus kernel_rfl
       simp [*])
     |((with_reducible refine Hid.go hK ?_);clear hK K)|((with_reducible apply Pwp.condG);rfl)|((with_reducible first|apply qqj|apply qqk);simp[*];done)|((with_reducible first|apply qr|apply qs|apply qt|apply qu|apply qv|apply qw)<;>intro h)
     |((with_reducible first|apply qx|apply qy|apply qz|apply qqa|apply qqb|apply qqc|apply qqd|apply qqe|apply qqf|apply qqg|apply qqh|apply qqi)<;>intro h<;>try simp[h, *])
     |((with_reducible refine and_go ?_ fun hs=>?_);focus omega
       try simp[*])
     |((with_reducible first|apply qql|apply qqn|apply qqp|apply qqm|apply qqo|apply qqq);simp[*])
    refine vcallk_pure (hask _) ?_
    repeat' first
     |(with_reducible first|apply qa|apply qb|apply qc|apply qd|apply qe|apply qf|apply qg|apply qh|apply qi|apply qj|apply qk|apply ql|apply qm|apply qn|apply qo|apply qp|apply qq|refine blockP_ne (by decide) ?_)
     |((with_reducible refine Pwp.reg fun K hK=>?_);simp[askErr, ha])
     |((with_reducible refine Pwp.drawnOw (id := 11) follows_mixed [0, 0, 1, 7, 15] [false, false, false, true, false] (1 :: A) 2 (by simp [St.find]) ?_ fun K hK => ?_); focus kernel_rfl
       simp [askErr, ha])
     |((with_reducible refine Hid.go hK ?_);clear hK K)|((with_reducible apply Pwp.condG);rfl)|((with_reducible first|apply qqj|apply qqk);simp[askErr, ha];done)|((with_reducible first|apply qr|apply qs|apply qt|apply qu|apply qv|apply qw)<;>intro h)
     |((with_reducible first|apply qx|apply qy|apply qz|apply qqa|apply qqb|apply qqc|apply qqd|apply qqe|apply qqf|apply qqg|apply qqh|apply qqi)<;>intro h<;>try simp[h, askErr, ha])
     |((with_reducible refine and_go ?_ fun hs=>?_);focus omega
       try simp[askErr, ha])
     |((with_reducible first|apply qql|apply qqn|apply qqp|apply qqm|apply qqo|apply qqq);simp[askErr, ha])
    refine endP_mem (by first | exact .inl rfl | exact .inr rfl) [] [(1 :: A, .row 2 [Graph.pv ⟨[], []⟩]), (2 :: A, .row 2 [Handle.pv ⟨0, 0⟩])] ?_ ?_ ?_ ?_
    · repeat' first | exact Sub.nil _ | refine Sub.cons (by simp [St.find]) ?_
    · repeat' first | exact StLe.nil | (apply StLe.cons; (focus (simp [St.find]; done)))
      all_goals try ((((repeat' first | exact St.find_hd _ _ _ | (apply St.find_tl; (focus (first | assumption | (simp; done) | (simp [*]; done))))); done)); done)
      all_goals first | exact ObLe.refl _ | (refine ObLe.of_eq ?_; simp [*]; done) | (simp only [List.map_append, List.map_cons, List.map_nil]; exact ObLe.row _ _ _ (ELe.append (ELe.refl _) (ELe.one rfl (VLeL.cons (VLe.cap _ _) VLeL.nil)))) | (refine ObLe.row _ _ _ (ELe.one ?_ ?_); (focus (simp; done)))
      all_goals repeat' first | exact VLeL.nil | refine VLeL.cons ?_ ?_
      all_goals first | exact VLe.refl _ | exact VLe.cap _ _ | exact VLe.any _ | (apply VLe.row (h := ELe.refl _); (focus (((repeat' first | exact St.find_hd _ _ _ | (apply St.find_tl; (focus (first | assumption | (simp; done) | (simp [*]; done))))); done))); (simp [*]; done)) | (refine VLe.of_eq ?_; simp [*]; done)
    · simp [*]
    · repeat' first | exact Sub.nil _ | refine Sub.cons (by simp [St.find]) ?_
  | true =>
    have hs := hg.slots
    have hk := hg.kids
    have h1 : askErr g [] = 0 := by simp [askErr, ha]
    by_cases he : (arenaMake g.slots).2.2 = 0
    · have hml := arenaMake_len g.slots
      have hm : nodesMake g = (⟨(arenaMake g.slots).1, g.kids ++ List.replicate ((arenaMake g.slots).1.length - g.kids.length) []⟩, (arenaMake g.slots).2.1, 0) := by simp [nodesMake, ha, he]
      rw [hm]
      generalize hms : arenaMake g.slots = m at *
      obtain ⟨ms, mh, me⟩ := m
      simp only at he hml
      subst he
      refine Runs.body (rs := [.cell 2 27, .cell 3 32, .tmp 4]) ent209 Tryz.func209 rfl Tryz.ntmps209 rfl (fun x h => by cases h) ?_
      repeat' first
       |(with_reducible first|apply qa|apply qb|apply qc|apply qd|apply qe|apply qf|apply qg|apply qh|apply qi|apply qj|apply qk|apply ql|apply qm|apply qn|apply qo|apply qp|apply qq|refine blockP_ne (by decide) ?_)
       |((with_reducible refine Pwp.reg fun K hK=>?_);simp[*])
       |((with_reducible refine Pwp.drawnOw (id := 11) follows_mixed [0, 0, 1, 7, 15] [false, false, false, true, false] (1 :: A) 2 (by simp [St.find]) ?_ fun K hK => ?_); focus kernel_rfl
         simp [*])
       |((with_reducible refine Hid.go hK ?_);clear hK K)|((with_reducible apply Pwp.condG);rfl)|((with_reducible first|apply qqj|apply qqk);simp[*];done)|((with_reducible first|apply qr|apply qs|apply qt|apply qu|apply qv|apply qw)<;>intro h)
       |((with_reducible first|apply qx|apply qy|apply qz|apply qqa|apply qqb|apply qqc|apply qqd|apply qqe|apply qqf|apply qqg|apply qqh|apply qqi)<;>intro h<;>try simp[h, *])
       |((with_reducible refine and_go ?_ fun hs=>?_);focus omega
         try simp[*])
       |((with_reducible first|apply qql|apply qqn|apply qqp|apply qqm|apply qqo|apply qqq);simp[*])
      refine vcallk_pure (hask _) ?_
      repeat' first
       |(with_reducible first|apply qa|apply qb|apply qc|apply qd|apply qe|apply qf|apply qg|apply qh|apply qi|apply qj|apply qk|apply ql|apply qm|apply qn|apply qo|apply qp|apply qq|refine blockP_ne (by decide) ?_)
       |((with_reducible refine Pwp.reg fun K hK=>?_);simp[h1])
       |((with_reducible refine Pwp.drawnOw (id := 11) follows_mixed [0, 0, 1, 7, 15] [false, false, false, true, false] (1 :: A) 2 (by simp [St.find]) ?_ fun K hK => ?_); focus kernel_rfl
         simp [h1])
       |((with_reducible refine Hid.go hK ?_);clear hK K)|((with_reducible apply Pwp.condG);rfl)|((with_reducible first|apply qqj|apply qqk);simp[h1];done)|((with_reducible first|apply qr|apply qs|apply qt|apply qu|apply qv|apply qw)<;>intro h)
       |((with_reducible first|apply qx|apply qy|apply qz|apply qqa|apply qqb|apply qqc|apply qqd|apply qqe|apply qqf|apply qqg|apply qqh|apply qqi)<;>intro h<;>try simp[h, h1])
       |((with_reducible refine and_go ?_ fun hs=>?_);focus omega
         try simp[h1])
       |((with_reducible first|apply qql|apply qqn|apply qqp|apply qqm|apply qqo|apply qqq);simp[h1])
      refine vcallk_pure (runs279 _ g.slots (by omega)) ?_
      repeat' first
       |(with_reducible first|apply qa|apply qb|apply qc|apply qd|apply qe|apply qf|apply qg|apply qh|apply qi|apply qj|apply qk|apply ql|apply qm|apply qn|apply qo|apply qp|apply qq|refine blockP_ne (by decide) ?_)
       |((with_reducible refine Pwp.reg fun K hK=>?_);simp[hms])
       |((with_reducible refine Pwp.drawnOw (id := 11) follows_mixed [0, 0, 1, 7, 15] [false, false, false, true, false] (1 :: A) 2 (by simp [St.find]) ?_ fun K hK => ?_); focus kernel_rfl
         simp [hms])
       |((with_reducible refine Hid.go hK ?_);clear hK K)|((with_reducible apply Pwp.condG);rfl)|((with_reducible first|apply qqj|apply qqk);simp[hms];done)|((with_reducible first|apply qr|apply qs|apply qt|apply qu|apply qv|apply qw)<;>intro h)
       |((with_reducible first|apply qx|apply qy|apply qz|apply qqa|apply qqb|apply qqc|apply qqd|apply qqe|apply qqf|apply qqg|apply qqh|apply qqi)<;>intro h<;>try simp[h, hms])
       |((with_reducible refine and_go ?_ fun hs=>?_);focus omega
         try simp[hms])
       |((with_reducible first|apply qql|apply qqn|apply qqp|apply qqm|apply qqo|apply qqq);simp[hms])
      refine vcallk_new (runs122 _ g hg) (Sub.nil _) ?_
      repeat' first
       |(with_reducible first|apply qa|apply qb|apply qc|apply qd|apply qe|apply qf|apply qg|apply qh|apply qi|apply qj|apply qk|apply ql|apply qm|apply qn|apply qo|apply qp|apply qq|refine blockP_ne (by decide) ?_)
       |((with_reducible refine Pwp.reg fun K hK=>?_);simp[*])
       |((with_reducible refine Pwp.drawnOw (id := 11) follows_mixed [0, 0, 1, 7, 15] [false, false, false, true, false] (1 :: A) 2 (by simp [St.find]) ?_ fun K hK => ?_); focus kernel_rfl
         simp [*])
       |((with_reducible refine Hid.go hK ?_);clear hK K)|((with_reducible apply Pwp.condG);rfl)|((with_reducible first|apply qqj|apply qqk);simp[*];done)|((with_reducible first|apply qr|apply qs|apply qt|apply qu|apply qv|apply qw)<;>intro h)
       |((with_reducible first|apply qx|apply qy|apply qz|apply qqa|apply qqb|apply qqc|apply qqd|apply qqe|apply qqf|apply qqg|apply qqh|apply qqi)<;>intro h<;>try simp[h, *])
       |((with_reducible refine and_go ?_ fun hs=>?_);focus omega
         try simp[*])
       |((with_reducible first|apply qql|apply qqn|apply qqp|apply qqm|apply qqo|apply qqq);simp[*])
      refine Pwp.loopN (ι := Nat × List (List Handle)) (S := fun x => ⟨[.any, .ptr (0 :: A) 1 0 0, .ptr (1 :: A) 1 0 0, .ptr (2 :: A) 1 0 0, .any, .any, .ptr (16 :: A) 1 0 0, .ptr (17 :: A) 1 0 0, .any, .any, .any, .any, .any, .any, .any, .any, .any, .any, .any, .any, .any, .any, .any, .any, .any, .any, .any, .any, .any, .any, .any, .any, .any, .any, .any, .any, .any, .any, .any, .any, .any, .any, .any, .any, .any, .any], [(0 :: A, .row 2 [.agg [slotsPv ms, .slice (12 :: 24 :: A) x.2.length]]), (1 :: A, .row 2 [.agg [.islice (some 0) [], .islice (some 0) []]]), (2 :: A, .row 2 [.agg [.int .i64 0, .int .i64 0]]), (16 :: A, .row 1 [arenaPv ms]), (17 :: A, .row 2 [mh.pv]), (12 :: 24 :: A, .row 1 (x.2.map handlesPv))], x.1 :: 29 :: A, 0⟩)
        (C := fun x => x.1 ≤ ms.length - g.kids.length ∧ Hid (x.2 = g.kids ++ List.replicate x.1 [])) (μ := fun x => ms.length - x.2.length) (0, g.kids) ?_ ?_ ?_
      · refine PLe.tellInG [] (by simp) ?_ ?_ ?_
        · repeat' first | exact Sub.nil _ | refine Sub.cons (by simp [St.find, *]) ?_
        · repeat' first | exact StLeG.nil | (apply StLeG.old; (focus (simp [St.find]; done)); (focus ((repeat' first | exact St.find_hd _ _ _ | (apply St.find_tl; (focus (first | assumption | (simp; done) | (simp [*]; done))))); done))) | (refine StLeG.new ?_ ?_ ?_ ?_; (focus (simp [St.find]; done)); (focus omega); (focus omega))
          all_goals first | exact ObLe.refl _ | (refine ObLe.of_eq ?_; simp [*]; done) | (simp only [List.map_append, List.map_cons, List.map_nil]; exact ObLe.row _ _ _ (ELe.append (ELe.refl _) (ELe.one rfl (VLeL.cons (VLe.cap _ _) VLeL.nil)))) | (refine ObLe.row _ _ _ (ELe.one ?_ ?_); (focus (simp; done)))
          all_goals repeat' first | exact VLeL.nil | refine VLeL.cons ?_ ?_
          all_goals first | exact VLe.refl _ | exact VLe.any _ | exact VLe.cap _ _ | (refine VLe.ghost1 ?_ ?_ <;> omega) | (apply VLe.row (h := ELe.refl _); (focus ((repeat' first | exact St.find_hd _ _ _ | (apply St.find_tl; (focus (first | assumption | (simp; done) | (simp [*]; done))))); done)); (simp [*]; done)) | (apply VLe.prow (h := ELe.refl _); (focus ((repeat' first | exact St.find_hd _ _ _ | (apply St.find_tl; (focus (first | assumption | (simp; done) | (simp [*]; done))))); done)); (simp; done)) | (refine VLe.of_eq ?_; simp [*]; done)
        · repeat' first | exact VLeL.nil | refine VLeL.cons ?_ ?_
          all_goals first | exact VLe.refl _ | exact VLe.any _ | exact VLe.cap _ _ | (refine VLe.ghost1 ?_ ?_ <;> omega) | (apply VLe.row (h := ELe.refl _); (focus ((repeat' first | exact St.find_hd _ _ _ | (apply St.find_tl; (focus (first | assumption | (simp; done) | (simp [*]; done))))); done)); (simp [*]; done)) | (apply VLe.prow (h := ELe.refl _); (focus ((repeat' first | exact St.find_hd _ _ _ | (apply St.find_tl; (focus (first | assumption | (simp; done) | (simp [*]; done))))); done)); (simp; done)) | (refine VLe.of_eq ?_; simp [*]; done)
      · exact ⟨Nat.zero_le _, ⟨by simp⟩⟩
      · rintro ⟨i, acc⟩ ⟨hi, hacc⟩
        simp only at hi hacc
        have hal : acc.length = g.kids.length + i := by rw [hacc.of]; simp
        by_cases hlt : acc.length < ms.length
        · have c1 : ((acc.length : Int) < (ms.length : Int)) = True := by simp only [eq_iff_iff, iff_true]; omega
          repeat' first
           |(with_reducible first|apply qa|apply qb|apply qc|apply qd|apply qe|apply qf|apply qg|apply qh|apply qi|apply qj|apply qk|apply ql|apply qm|apply qn|apply qo|apply qp|apply qq|refine blockP_ne (by decide) ?_)
           |((with_reducible refine Pwp.reg fun K hK=>?_);simp[c1, hlt])
           |((with_reducible refine Pwp.drawnOw (id := 11) follows_mixed [0, 0, 1, 7, 15] [false, false, false, true, false] (1 :: A) 2 (by simp [St.find]) ?_ fun K hK => ?_); focus kernel_rfl
             simp [c1, hlt])
           |((with_reducible refine Hid.go hK ?_);clear hK K)|((with_reducible apply Pwp.condG);rfl)|((with_reducible first|apply qqj|apply qqk);simp[c1, hlt];done)|((with_reducible first|apply qr|apply qs|apply qt|apply qu|apply qv|apply qw)<;>intro h)
           |((with_reducible first|apply qx|apply qy|apply qz|apply qqa|apply qqb|apply qqc|apply qqd|apply qqe|apply qqf|apply qqg|apply qqh|apply qqi)<;>intro h<;>try simp[h, c1, hlt])
           |((with_reducible refine and_go ?_ fun hs=>?_);focus omega
             try simp[c1, hlt])
           |((with_reducible first|apply qql|apply qqn|apply qqp|apply qqm|apply qqo|apply qqq);simp[c1, hlt])
          refine roundN_go (i + 1, acc ++ [[]]) ?_ ⟨by simp only; omega, ⟨by simp only [hacc.of]; rw [List.replicate_succ', List.append_assoc]⟩⟩ (by simp only [List.length_append, List.length_cons, List.length_nil]; omega)
          refine PLe.tellNextG (pre := []) [] (by simp) ?_ ?_ ?_
          · repeat' first | exact Sub.nil _ | refine Sub.cons (by simp [St.find, *]) ?_
          · repeat' first | exact StLe.nil | (apply StLe.cons; (focus (first | (simp [St.find]; done) | (simp [St.find, *]; done))); (focus ((repeat' first | exact St.find_hd _ _ _ | (apply St.find_tl; (focus (first | assumption | (simp; done) | (simp [*]; done))))); done)))
            all_goals first | exact ObLe.refl _ | (refine ObLe.of_eq ?_; simp [*]; done) | (simp only [List.map_append, List.map_cons, List.map_nil]; exact ObLe.row _ _ _ (ELe.append (ELe.refl _) (ELe.one rfl (VLeL.cons (VLe.cap _ _) VLeL.nil)))) | (refine ObLe.row _ _ _ (ELe.one ?_ ?_); (focus (simp; done)))
            all_goals repeat' first | exact VLeL.nil | refine VLeL.cons ?_ ?_
            all_goals first | exact VLe.refl _ | exact VLe.any _ | exact VLe.cap _ _ | (refine VLe.ghost1 ?_ ?_ <;> omega) | (apply VLe.row (h := ELe.refl _); (focus ((repeat' first | exact St.find_hd _ _ _ | (apply St.find_tl; (focus (first | assumption | (simp; done) | (simp [*]; done))))); done)); (simp [*]; done)) | (apply VLe.prow (h := ELe.refl _); (focus ((repeat' first | exact St.find_hd _ _ _ | (apply St.find_tl; (focus (first | assumption | (simp; done) | (simp [*]; done))))); done)); (simp; done)) | (refine VLe.of_eq ?_; simp [*]; done)
          · repeat' first | exact VLeL.nil | refine VLeL.cons ?_ ?_
            all_goals first | exact VLe.refl _ | exact VLe.any _ | exact VLe.cap _ _ | (refine VLe.ghost1 ?_ ?_ <;> omega) | (apply VLe.row (h := ELe.refl _); (focus ((repeat' first | exact St.find_hd _ _ _ | (apply St.find_tl; (focus (first | assumption | (simp; done) | (simp [*]; done))))); done)); (simp [*]; done)) | (apply VLe.prow (h := ELe.refl _); (focus ((repeat' first | exact St.find_hd _ _ _ | (apply St.find_tl; (focus (first | assumption | (simp; done) | (simp [*]; done))))); done)); (simp; done)) | (refine VLe.of_eq ?_; simp [*]; done)
        · have c1 : ((acc.length : Int) < (ms.length : Int)) = False := by simp only [eq_iff_iff, iff_false]; omega
          have hacc2 : Hid (acc = g.kids ++ List.replicate (ms.length - g.kids.length) []) := ⟨by rw [hacc.of]; congr 2; omega⟩
          repeat' first
           |(with_reducible first|apply qa|apply qb|apply qc|apply qd|apply qe|apply qf|apply qg|apply qh|apply qi|apply qj|apply qk|apply ql|apply qm|apply qn|apply qo|apply qp|apply qq|refine blockP_ne (by decide) ?_)
           |((with_reducible refine Pwp.reg fun K hK=>?_);simp[c1, hlt])
           |((with_reducible refine Pwp.drawnOw (id := 11) follows_mixed [0, 0, 1, 7, 15] [false, false, false, true, false] (1 :: A) 2 (by simp [St.find]) ?_ fun K hK => ?_); focus kernel_rfl
             simp [c1, hlt])
           |((with_reducible refine Hid.go hK ?_);clear hK K)|((with_reducible apply Pwp.condG);rfl)|((with_reducible first|apply qqj|apply qqk);simp[c1, hlt];done)|((with_reducible first|apply qr|apply qs|apply qt|apply qu|apply qv|apply qw)<;>intro h)
           |((with_reducible first|apply qx|apply qy|apply qz|apply qqa|apply qqb|apply qqc|apply qqd|apply qqe|apply qqf|apply qqg|apply qqh|apply qqi)<;>intro h<;>try simp[h, c1, hlt])
           |((with_reducible refine and_go ?_ fun hs=>?_);focus omega
             try simp[c1, hlt])
           |((with_reducible first|apply qql|apply qqn|apply qqp|apply qqm|apply qqo|apply qqq);simp[c1, hlt])
          obtain rfl := hacc2.of
          clear hacc hacc2 c1 hal
          refine endP_mem (by first | exact .inl rfl | exact .inr rfl) [(12 :: 24 :: A, .row 1 ((g.kids ++ List.replicate (ms.length - g.kids.length) []).map handlesPv))] [(1 :: A, .row 2 [Graph.pv ⟨ms, g.kids ++ List.replicate (ms.length - g.kids.length) []⟩]), (2 :: A, .row 2 [mh.pv])] ?_ ?_ ?_ ?_
          · repeat' first | exact Sub.nil _ | refine Sub.cons (by simp [St.find]) ?_
          · repeat' first | exact StLe.nil | (apply StLe.cons; (focus (simp [St.find]; done)))
            all_goals try ((((repeat' first | exact St.find_hd _ _ _ | (apply St.find_tl; (focus (first | assumption | (simp; done) | (simp [*]; done))))); done)); done)
            all_goals first | exact ObLe.refl _ | (refine ObLe.of_eq ?_; simp [*]; done) | (simp only [List.map_append, List.map_cons, List.map_nil]; exact ObLe.row _ _ _ (ELe.append (ELe.refl _) (ELe.one rfl (VLeL.cons (VLe.cap _ _) VLeL.nil)))) | (refine ObLe.row _ _ _ (ELe.one ?_ ?_); (focus (simp; done)))
            all_goals repeat' first | exact VLeL.nil | refine VLeL.cons ?_ ?_
            all_goals first | exact VLe.refl _ | exact VLe.cap _ _ | exact VLe.any _ | (apply VLe.row (h := ELe.refl _); (focus (((repeat' first | exact St.find_hd _ _ _ | (apply St.find_tl; (focus (first | assumption | (simp; done) | (simp [*]; done))))); done))); (simp [*]; done)) | (refine VLe.of_eq ?_; simp [*]; done)
          · simp [*]
          · repeat' first | exact Sub.nil _ | refine Sub.cons (by simp [St.find]) ?_
    · have hm : nodesMake g = (⟨[], []⟩, ⟨0, 0⟩, (arenaMake g.slots).2.2) := by simp [nodesMake, ha, he]
      rw [hm]
      refine Runs.body (rs := [.cell 2 27, .cell 3 32, .tmp 4]) ent209 Tryz.func209 rfl Tryz.ntmps209 rfl (fun x h => by cases h) ?_
      repeat' first
       |(with_reducible first|apply qa|apply qb|apply qc|apply qd|apply qe|apply qf|apply qg|apply qh|apply qi|apply qj|apply qk|apply ql|apply qm|apply qn|apply qo|apply qp|apply qq|refine blockP_ne (by decide) ?_)
       |((with_reducible refine Pwp.reg fun K hK=>?_);simp[*])
       |((with_reducible refine Pwp.drawnOw (id := 11) follows_mixed [0, 0, 1, 7, 15] [false, false, false, true, false] (1 :: A) 2 (by simp [St.find]) ?_ fun K hK => ?_); focus kernel_rfl
         simp [*])
       |((with_reducible refine Hid.go hK ?_);clear hK K)|((with_reducible apply Pwp.condG);rfl)|((with_reducible first|apply qqj|apply qqk);simp[*];done)|((with_reducible first|apply qr|apply qs|apply qt|apply qu|apply qv|apply qw)<;>intro h)
       |((with_reducible first|apply qx|apply qy|apply qz|apply qqa|apply qqb|apply qqc|apply qqd|apply qqe|apply qqf|apply qqg|apply qqh|apply qqi)<;>intro h<;>try simp[h, *])
       |((with_reducible refine and_go ?_ fun hs=>?_);focus omega
         try simp[*])
       |((with_reducible first|apply qql|apply qqn|apply qqp|apply qqm|apply qqo|apply qqq);simp[*])
      refine vcallk_pure (hask _) ?_
      repeat' first
       |(with_reducible first|apply qa|apply qb|apply qc|apply qd|apply qe|apply qf|apply qg|apply qh|apply qi|apply qj|apply qk|apply ql|apply qm|apply qn|apply qo|apply qp|apply qq|refine blockP_ne (by decide) ?_)
       |((with_reducible refine Pwp.reg fun K hK=>?_);simp[h1])
       |((with_reducible refine Pwp.drawnOw (id := 11) follows_mixed [0, 0, 1, 7, 15] [false, false, false, true, false] (1 :: A) 2 (by simp [St.find]) ?_ fun K hK => ?_); focus kernel_rfl
         simp [h1])
       |((with_reducible refine Hid.go hK ?_);clear hK K)|((with_reducible apply Pwp.condG);rfl)|((with_reducible first|apply qqj|apply qqk);simp[h1];done)|((with_reducible first|apply qr|apply qs|apply qt|apply qu|apply qv|apply qw)<;>intro h)
       |((with_reducible first|apply qx|apply qy|apply qz|apply qqa|apply qqb|apply qqc|apply qqd|apply qqe|apply qqf|apply qqg|apply qqh|apply qqi)<;>intro h<;>try simp[h, h1])
       |((with_reducible refine and_go ?_ fun hs=>?_);focus omega
         try simp[h1])
       |((with_reducible first|apply qql|apply qqn|apply qqp|apply qqm|apply qqo|apply qqq);simp[h1])
      refine vcallk_pure (runs279 _ g.slots (by omega)) ?_
      repeat' first
       |(with_reducible first|apply qa|apply qb|apply qc|apply qd|apply qe|apply qf|apply qg|apply qh|apply qi|apply qj|apply qk|apply ql|apply qm|apply qn|apply qo|apply qp|apply qq|refine blockP_ne (by decide) ?_)
       |((with_reducible refine Pwp.reg fun K hK=>?_);simp[he])
       |((with_reducible refine Pwp.drawnOw (id := 11) follows_mixed [0, 0, 1, 7, 15] [false, false, false, true, false] (1 :: A) 2 (by simp [St.find]) ?_ fun K hK => ?_); focus kernel_rfl
         simp [he])
       |((with_reducible refine Hid.go hK ?_);clear hK K)|((with_reducible apply Pwp.condG);rfl)|((with_reducible first|apply qqj|apply qqk);simp[he];done)|((with_reducible first|apply qr|apply qs|apply qt|apply qu|apply qv|apply qw)<;>intro h)
       |((with_reducible first|apply qx|apply qy|apply qz|apply qqa|apply qqb|apply qqc|apply qqd|apply qqe|apply qqf|apply qqg|apply qqh|apply qqi)<;>intro h<;>try simp[h, he])
       |((with_reducible refine and_go ?_ fun hs=>?_);focus omega
         try simp[he])
       |((with_reducible first|apply qql|apply qqn|apply qqp|apply qqm|apply qqo|apply qqq);simp[he])
      refine endP_mem (by first | exact .inl rfl | exact .inr rfl) [] [(1 :: A, .row 2 [Graph.pv ⟨[], []⟩]), (2 :: A, .row 2 [Handle.pv ⟨0, 0⟩])] ?_ ?_ ?_ ?_
      · repeat' first | exact Sub.nil _ | refine Sub.cons (by simp [St.find]) ?_
      · repeat' first | exact StLe.nil | (apply StLe.cons; (focus (simp [St.find]; done)))
        all_goals try ((((repeat' first | exact St.find_hd _ _ _ | (apply St.find_tl; (focus (first | assumption | (simp; done) | (simp [*]; done))))); done)); done)
        all_goals first | exact ObLe.refl _ | (refine ObLe.of_eq ?_; simp [*]; done) | (simp only [List.map_append, List.map_cons, List.map_nil]; exact ObLe.row _ _ _ (ELe.append (ELe.refl _) (ELe.one rfl (VLeL.cons (VLe.cap _ _) VLeL.nil)))) | (refine ObLe.row _ _ _ (ELe.one ?_ ?_); (focus (simp; done)))
        all_goals repeat' first | exact VLeL.nil | refine VLeL.cons ?_ ?_
        all_goals first | exact VLe.refl _ | exact VLe.cap _ _ | exact VLe.any _ | (apply VLe.row (h := ELe.refl _); (focus (((repeat' first | exact St.find_hd _ _ _ | (apply St.find_tl; (focus (first | assumption | (simp; done) | (simp [*]; done))))); done))); (simp [*]; done)) | (refine VLe.of_eq ?_; simp [*]; done)
      · simp [*]
      · repeat' first | exact Sub.nil _ | refine Sub.cons (by simp [St.find]) ?_
end Go.Pv

set_option linter.unusedVariables false
set_option linter.unusedSimpArgs false
set_option maxRecDepth 100000
namespace Go.Pv
open Go Go.Proofs

theorem ELe.set {fs : St} {gs : Key → Prop} {a a' : List PV} (i : Nat) {p q : PV} (h : ELe fs gs a a') (h1 : q.cells.length = p.cells.length) (h2 : VLeL fs gs p.cells q.cells) : ELe fs gs (a.set i p) (a'.set i q) := by
  have k := ELe.one h1 h2
  by_cases hi : i < a.length
  · have hi' : i < a'.length := by rw [h.1]; exact hi
    refine ELe.of_all (by simp [h.1]) fun j hj hj' => ?_
    simp only [List.length_set] at hj hj'
    simp only [List.getElem_set]
    by_cases he : i = j
    · simp only [if_pos he]; exact ⟨h1, h2⟩
    · simp only [if_neg he]
      exact ⟨h.2.1 j hj hj', by rw [h.2.1 j hj hj'], fun m a b => h.2.2 j m hj hj' a b⟩
  · have hi' : ¬ i < a'.length := by rw [h.1]; exact hi
    rw [List.set_eq_of_length_le (by omega), List.set_eq_of_length_le (by omega)]
    exact h

theorem ent285 : enters Tryz.prog 285 = true := by kernel_rfl
theorem runs285 (A : Key) (h x : Handle) : Runs Tryz.prog A 285 [x.pv, .iptr [h.pv] 0 0] [] (.bool (decide (x = h))) [] := by
  refine Runs.body (rs := [.tmp 3]) ent285 Tryz.func285 rfl Tryz.ntmps285 rfl (fun x h => by cases h) ?_
  repeat' first
   |(with_reducible first|apply qa|apply qb|apply qc|apply qd|apply qe|apply qf|apply qg|apply qh|apply qi|apply qj|apply qk|apply ql|apply qm|apply qn|apply qo|apply qp|apply qq|refine blockP_ne (by decide) ?_)
   |((with_reducible refine Pwp.reg fun K hK=>?_);simp[*])
   |((with_reducible refine Hid.go hK ?_);clear hK K)|((with_reducible apply Pwp.condG);rfl)|((with_reducible first|apply qqj|apply qqk);simp[*];done)|((with_reducible first|apply qr|apply qs|apply qt|apply qu|apply qv|apply qw)<;>intro h)
   |((with_reducible first|apply qx|apply qy|apply qz|apply qqa|apply qqb|apply qqc)<;>intro h<;>try simp[h, *])
   |((with_reducible refine and_go ?_ fun hs=>?_);focus omega
     try simp[*])
   |((with_reducible first|apply qql|apply qqn|apply qqp);simp[*])

theorem ent284 : enters Tryz.prog 284 = true := by kernel_rfl
theorem runs284 (A : Key) (h : Handle) (l : List Handle) (hl : l.length < 4611686018427387904) (hn : h ∉ l) : Runs Tryz.prog A 284 [handlesPv l, .func (.func 285) [] [.iptr [h.pv] 0 0]] [] (handlesPv l) [] := by
  have hi : idxF (fun x => decide (x = h)) l = -1 := idxF_miss (fun j hj => by simp only [decide_eq_false_iff_not]; intro e; exact hn (e ▸ List.getElem_mem hj))
  refine Runs.body (rs := [.tmp 4]) ent284 Tryz.func284 rfl Tryz.ntmps284 rfl (fun x h => by cases h) ?_
  repeat' first
   |(with_reducible first|apply qa|apply qb|apply qc|apply qd|apply qe|apply qf|apply qg|apply qh|apply qi|apply qj|apply qk|apply ql|apply qm|apply qn|apply qo|apply qp|apply qq|refine blockP_ne (by decide) ?_)
   |((with_reducible refine Pwp.reg fun K hK=>?_);simp[*])
   |((with_reducible refine Hid.go hK ?_);clear hK K)|((with_reducible apply Pwp.condG);rfl)|((with_reducible first|apply qqj|apply qqk);simp[*];done)|((with_reducible first|apply qr|apply qs|apply qt|apply qu|apply qv|apply qw)<;>intro h)
   |((with_reducible first|apply qx|apply qy|apply qz|apply qqa|apply qqb|apply qqc)<;>intro h<;>try simp[h, *])
   |((with_reducible refine and_go ?_ fun hs=>?_);focus omega
     try simp[*])
   |((with_reducible first|apply qql|apply qqn|apply qqp);simp[*])
  refine vcallk_pure (runs242 _ l (fun x => decide (x = h)) 285 [] [.iptr [h.pv] 0 0] hl (fun A' x _ => runs285 A' h x)) ?_
  repeat' first
   |(with_reducible first|apply qa|apply qb|apply qc|apply qd|apply qe|apply qf|apply qg|apply qh|apply qi|apply qj|apply qk|apply ql|apply qm|apply qn|apply qo|apply qp|apply qq|refine blockP_ne (by decide) ?_)
   |((with_reducible refine Pwp.reg fun K hK=>?_);simp[hi])
   |((with_reducible refine Hid.go hK ?_);clear hK K)|((with_reducible apply Pwp.condG);rfl)|((with_reducible first|apply qqj|apply qqk);simp[hi];done)|((with_reducible first|apply qr|apply qs|apply qt|apply qu|apply qv|apply qw)<;>intro h)
   |((with_reducible first|apply qx|apply qy|apply qz|apply qqa|apply qqb|apply qqc)<;>intro h<;>try simp[h, hi])
   |((with_reducible refine and_go ?_ fun hs=>?_);focus omega
     try simp[hi])
   |((with_reducible first|apply qql|apply qqn|apply qqp);simp[hi])

def nodesKill (g : Graph) (h : Handle) : Graph × Int :=
  if askErr g [h] = 0 then (⟨g.slots.set h.slot.toNat ⟨h.gen, false⟩, (g.kids.set h.slot.toNat []).map (fun l => l.filter (fun x => !decide (x = h)))⟩, 0) else (⟨[], []⟩, askErr g [h])

set_option maxHeartbeats 4000000
theorem ent214 : enters Tryz.prog 214 = true := by kernel_rfl
theorem runs214 (A : Key) (g : Graph) (h : Handle) (hg : g.Caps) (hn : ∀ l ∈ g.kids, h ∉ l) : Runs Tryz.prog A 214 [g.pv, h.pv] [] (.tup [(nodesKill g h).1.pv, .int .i64 (nodesKill g h).2]) [] := by
  have hs := hg.slots
  have hk := hg.kids
  by_cases ha : askErr g [h] = 0
  · have hb : graphOk g = true ∧ HoldsB g.slots h = true := by
      unfold askErr at ha
      split at ha
      · refine ⟨‹_›, ?_⟩
        simpa using ha
      · omega
    obtain ⟨hg1, hg2⟩ := hb
    have hab : arenaBad g.slots = false := by simp only [graphOk, Bool.and_eq_true, Bool.not_eq_true'] at hg1; exact hg1.1
    have hkl : g.kids.length = g.slots.length := by simp only [graphOk, Bool.and_eq_true, decide_eq_true_eq] at hg1; exact hg1.2.1
    rw [holdsB_iff hab, decide_eq_true_eq] at hg2
    obtain ⟨h0, hlt⟩ := held_range hg2
    have hak : arenaKill g.slots h = (g.slots.set h.slot.toNat ⟨h.gen, false⟩, 0) := by simp [arenaKill, hab, hg2]
    obtain ⟨kk, hkk⟩ : ∃ kk, Hid (kk = g.kids.set h.slot.toNat []) := ⟨_, ⟨rfl⟩⟩
    have hkkl : kk.length = g.kids.length := by rw [hkk.of]; simp
    have hkm : ∀ l ∈ kk, h ∉ l ∧ l.length ≤ 1000000 := by
      intro l hl
      rw [hkk.of] at hl
      rcases List.mem_or_eq_of_mem_set hl with h1 | h1
      · exact ⟨hn _ h1, hg.row _ h1⟩
      · subst h1; simp
    have hm : nodesKill g h = (⟨g.slots.set h.slot.toNat ⟨h.gen, false⟩, kk⟩, 0) := by
      simp only [nodesKill, ha, if_true]
      congr 2
      rw [← hkk.of]
      refine (List.map_congr_left fun l hl => ?_).trans (List.map_id _)
      rw [id, List.filter_eq_self]
      intro a hal
      have := (hkm l hl).1
      simp only [Bool.not_eq_true', decide_eq_false_iff_not]
      intro e
      exact this (e ▸ hal)
    rw [hm]
    have c1 : (h.slot < (g.kids.length : Int)) = True := by simp only [eq_iff_iff, iff_true]; omega
    have c2 : h.slot.toNat < g.kids.length := by omega
    refine Runs.body (rs := [.cell 4 27, .tmp 5]) ent214 Tryz.func214 rfl Tryz.ntmps214 rfl (fun x h => by cases h) ?_
    repeat' first
     |(with_reducible first|apply qa|apply qb|apply qc|apply qd|apply qe|apply qf|apply qg|apply qh|apply qi|apply qj|apply qk|apply ql|apply qm|apply qn|apply qo|apply qp|apply qq|refine blockP_ne (by decide) ?_)
     |((with_reducible refine Pwp.reg fun K hK=>?_);simp[*])
     |((with_reducible refine Pwp.drawn (id := 10) follows_mixed [0, 1, 0, 0, 0, 24, 63, 127] [false, false, false, false, false, false, true, true] ?_ fun K hK => ?_); focus kernel_rfl
       simp [*])
     |((with_reducible refine Hid.go hK ?_);clear hK K)|((with_reducible apply Pwp.condG);rfl)|((with_reducible first|apply qqj|apply qqk);simp[*];done)|((with_reducible first|apply qr|apply qs|apply qt|apply qu|apply qv|apply qw)<;>intro h)
     |((with_reducible first|apply qx|apply qy|apply qz|apply qqa|apply qqb|apply qqc|apply qqd|apply qqe|apply qqf|apply qqg|apply qqh|apply qqi)<;>intro h<;>try simp[h, *])
     |((with_reducible refine and_go ?_ fun hs=>?_);focus omega
       try simp[*])
     |((with_reducible first|apply qql|apply qqn|apply qqp|apply qqm|apply qqo|apply qqq);simp[*])
    refine vcallk_new (Runs.borrow [(6 :: A, .row 2 [h.pv])] (runs278 _ g [h] hg.lens (by simp)) (VLeL.cons (VLe.refl _) (VLeL.cons (VLe.row (sz := 2) (St.find_hd _ _ _) (by simp) (ELe.refl _)) VLeL.nil)) rfl) (Sub.one (by simp [St.find])) ?_
    repeat' first
     |(with_reducible first|apply qa|apply qb|apply qc|apply qd|apply qe|apply qf|apply qg|apply qh|apply qi|apply qj|apply qk|apply ql|apply qm|apply qn|apply qo|apply qp|apply qq|refine blockP_ne (by decide) ?_)
     |((with_reducible refine Pwp.reg fun K hK=>?_);simp[ha])
     |((with_reducible refine Pwp.drawn (id := 10) follows_mixed [0, 1, 0, 0, 0, 24, 63, 127] [false, false, false, false, false, false, true, true] ?_ fun K hK => ?_); focus kernel_rfl
       simp [ha])
     |((with_reducible refine Hid.go hK ?_);clear hK K)|((with_reducible apply Pwp.condG);rfl)|((with_reducible first|apply qqj|apply qqk);simp[ha];done)|((with_reducible first|apply qr|apply qs|apply qt|apply qu|apply qv|apply qw)<;>intro h)
     |((with_reducible first|apply qx|apply qy|apply qz|apply qqa|apply qqb|apply qqc|apply qqd|apply qqe|apply qqf|apply qqg|apply qqh|apply qqi)<;>intro h<;>try simp[h, ha])
     |((with_reducible refine and_go ?_ fun hs=>?_);focus omega
       try simp[ha])
     |((with_reducible first|apply qql|apply qqn|apply qqp|apply qqm|apply qqo|apply qqq);simp[ha])
    refine vcallk_new (runs122 _ g hg) (Sub.nil _) ?_
    repeat' first
     |(with_reducible first|apply qa|apply qb|apply qc|apply qd|apply qe|apply qf|apply qg|apply qh|apply qi|apply qj|apply qk|apply ql|apply qm|apply qn|apply qo|apply qp|apply qq|refine blockP_ne (by decide) ?_)
     |((with_reducible refine Pwp.reg fun K hK=>?_);simp[*])
     |((with_reducible refine Pwp.drawn (id := 10) follows_mixed [0, 1, 0, 0, 0, 24, 63, 127] [false, false, false, false, false, false, true, true] ?_ fun K hK => ?_); focus kernel_rfl
       simp [*])
     |((with_reducible refine Hid.go hK ?_);clear hK K)|((with_reducible apply Pwp.condG);rfl)|((with_reducible first|apply qqj|apply qqk);simp[*];done)|((with_reducible first|apply qr|apply qs|apply qt|apply qu|apply qv|apply qw)<;>intro h)
     |((with_reducible first|apply qx|apply qy|apply qz|apply qqa|apply qqb|apply qqc|apply qqd|apply qqe|apply qqf|apply qqg|apply qqh|apply qqi)<;>intro h<;>try simp[h, *])
     |((with_reducible refine and_go ?_ fun hs=>?_);focus omega
       try simp[*])
     |((with_reducible first|apply qql|apply qqn|apply qqp|apply qqm|apply qqo|apply qqq);simp[*])
    refine vcallk_pure (runs283 _ g.slots h (by omega)) ?_
    repeat' first
     |(with_reducible first|apply qa|apply qb|apply qc|apply qd|apply qe|apply qf|apply qg|apply qh|apply qi|apply qj|apply qk|apply ql|apply qm|apply qn|apply qo|apply qp|apply qq|refine blockP_ne (by decide) ?_)
     |((with_reducible refine Pwp.reg fun K hK=>?_);simp[hak, h0, c1, c2])
     |((with_reducible refine Pwp.drawn (id := 10) follows_mixed [0, 1, 0, 0, 0, 24, 63, 127] [false, false, false, false, false, false, true, true] ?_ fun K hK => ?_); focus kernel_rfl
       simp [hak, h0, c1, c2])
     |((with_reducible refine Hid.go hK ?_);clear hK K)|((with_reducible apply Pwp.condG);rfl)|((with_reducible first|apply qqj|apply qqk);simp[hak, h0, c1, c2];done)|((with_reducible first|apply qr|apply qs|apply qt|apply qu|apply qv|apply qw)<;>intro h)
     |((with_reducible first|apply qx|apply qy|apply qz|apply qqa|apply qqb|apply qqc|apply qqd|apply qqe|apply qqf|apply qqg|apply qqh|apply qqi)<;>intro h<;>try simp[h, hak, h0, c1, c2])
     |((with_reducible refine and_go ?_ fun hs=>?_);focus omega
       try simp[hak, h0, c1, c2])
     |((with_reducible first|apply qql|apply qqn|apply qqp|apply qqm|apply qqo|apply qqq);simp[hak, h0, c1, c2])
    refine Pwp.loopN (ι := Nat) (S := fun i => ⟨[.any, .any, .ptr (0 :: A) 1 0 0, .iptr [h.pv] 0 0, .ptr (2 :: A) 1 0 0, .any, .any, .any, .any, .any, .any, .any, .any, .any, .any, .any, .any, .any, .any, .any, .any, .any, .any, .any, .any, .any, .any, .any, .any, .any, .any, .any, .any, .slice (12 :: 12 :: A) g.slots.length, .int .i64 g.slots.length, .int .i64 i, .any, .any, .any, .any, .any, .any, .any, .any, .any, .any, .any, .any, .any], [(0 :: A, .row 2 [.agg [slotsPv (g.slots.set h.slot.toNat ⟨h.gen, false⟩), .slice (12 :: 12 :: A) g.slots.length]]), (2 :: A, .row 2 [.agg [.islice (some 0) [], .islice (some 0) []]]), (12 :: 12 :: A, .row 1 (kk.map handlesPv))], i :: 33 :: A, 0⟩)
      (C := fun i => i ≤ g.slots.length) (μ := fun i => g.slots.length - i) 0 ?_ ?_ ?_
    · obtain rfl := hkk.of
      clear hkk hm hkm hkkl
      refine PLe.tellInG [(1 :: A, .row 2 [h.pv])] (by simp) ?_ ?_ ?_
      · repeat' first | exact Sub.nil _ | refine Sub.cons (by simp [St.find, *]) ?_
      · repeat' first | exact StLeG.nil | (apply StLeG.old; (focus (simp [St.find]; done)); (focus ((repeat' first | exact St.find_hd _ _ _ | (apply St.find_tl; (focus (first | assumption | (simp; done) | (simp [*]; done))))); done))) | (refine StLeG.new ?_ ?_ ?_ ?_; (focus (simp [St.find]; done)); (focus omega); (focus omega))
        all_goals first | exact ObLe.refl _ | (refine ObLe.of_eq ?_; simp [*]; done) | (simp only [List.map_set]; exact ObLe.row _ _ _ (ELe.set _ (ELe.refl _) rfl (VLeL.cons (VLe.cap _ _) VLeL.nil))) | (refine ObLe.row _ _ _ (ELe.one ?_ ?_); (focus (simp; done)))
        all_goals repeat' first | exact VLeL.nil | refine VLeL.cons ?_ ?_
        all_goals first | exact VLe.refl _ | exact VLe.any _ | exact VLe.cap _ _ | (refine VLe.ghost1 ?_ ?_ <;> omega) | (apply VLe.row (h := ELe.refl _); (focus ((repeat' first | exact St.find_hd _ _ _ | (apply St.find_tl; (focus (first | assumption | (simp; done) | (simp [*]; done))))); done)); (simp [*]; done)) | (apply VLe.prow (h := ELe.refl _); (focus ((repeat' first | exact St.find_hd _ _ _ | (apply St.find_tl; (focus (first | assumption | (simp; done) | (simp [*]; done))))); done)); (simp; done)) | (refine VLe.of_eq ?_; simp [*]; done)
      · repeat' first | exact VLeL.nil | refine VLeL.cons ?_ ?_
        all_goals first | exact VLe.refl _ | exact VLe.any _ | exact VLe.cap _ _ | (refine VLe.ghost1 ?_ ?_ <;> omega) | (apply VLe.row (h := ELe.refl _); (focus ((repeat' first | exact St.find_hd _ _ _ | (apply St.find_tl; (focus (first | assumption | (simp; done) | (simp [*]; done))))); done)); (simp [*]; done)) | (apply VLe.prow (h := ELe.refl _); (focus ((repeat' first | exact St.find_hd _ _ _ | (apply St.find_tl; (focus (first | assumption | (simp; done) | (simp [*]; done))))); done)); (simp; done)) | (refine VLe.of_eq ?_; simp [*]; done)
    · exact Nat.zero_le _
    · intro i hi
      clear hkk hm
      by_cases hlt2 : i < g.slots.length
      · have hki : i < kk.length := by omega
        obtain ⟨hx1, hx2⟩ := hkm _ (List.getElem_mem hki)
        have hset : (List.map handlesPv kk).set i (PV.islice none (List.map Handle.pv kk[i])) = List.map handlesPv kk := by
          have := List.set_getElem_self (show i < (List.map handlesPv kk).length by simpa using hki)
          rw [List.getElem_map] at this
          exact this
        repeat' first
         |(with_reducible first|apply qa|apply qb|apply qc|apply qd|apply qe|apply qf|apply qg|apply qh|apply qi|apply qj|apply qk|apply ql|apply qm|apply qn|apply qo|apply qp|apply qq|refine blockP_ne (by decide) ?_)
         |((with_reducible refine Pwp.reg fun K hK=>?_);simp[hlt2, hki, hkkl, hkl, wrap_succ i (by omega)])
         |((with_reducible refine Pwp.drawn (id := 10) follows_mixed [0, 1, 0, 0, 0, 24, 63, 127] [false, false, false, false, false, false, true, true] ?_ fun K hK => ?_); focus kernel_rfl
           simp [hlt2, hki, hkkl, hkl, wrap_succ i (by omega)])
         |((with_reducible refine Hid.go hK ?_);clear hK K)|((with_reducible apply Pwp.condG);rfl)|((with_reducible first|apply qqj|apply qqk);simp[hlt2, hki, hkkl, hkl, wrap_succ i (by omega)];done)|((with_reducible first|apply qr|apply qs|apply qt|apply qu|apply qv|apply qw)<;>intro h)
         |((with_reducible first|apply qx|apply qy|apply qz|apply qqa|apply qqb|apply qqc|apply qqd|apply qqe|apply qqf|apply qqg|apply qqh|apply qqi)<;>intro h<;>try simp[h, hlt2, hki, hkkl, hkl, wrap_succ i (by omega)])
         |((with_reducible refine and_go ?_ fun hs=>?_);focus omega
           try simp[hlt2, hki, hkkl, hkl, wrap_succ i (by omega)])
         |((with_reducible first|apply qql|apply qqn|apply qqp|apply qqm|apply qqo|apply qqq);simp[hlt2, hki, hkkl, hkl, wrap_succ i (by omega)])
        refine dcallk_pure (runs284 _ h kk[i] (by omega) hx1) ?_
        repeat' first
         |(with_reducible first|apply qa|apply qb|apply qc|apply qd|apply qe|apply qf|apply qg|apply qh|apply qi|apply qj|apply qk|apply ql|apply qm|apply qn|apply qo|apply qp|apply qq|refine blockP_ne (by decide) ?_)
         |((with_reducible refine Pwp.reg fun K hK=>?_);simp[hlt2, hki, hkkl, hkl, hset, wrap_succ i (by omega)])
         |((with_reducible refine Pwp.drawn (id := 10) follows_mixed [0, 1, 0, 0, 0, 24, 63, 127] [false, false, false, false, false, false, true, true] ?_ fun K hK => ?_); focus kernel_rfl
           simp [hlt2, hki, hkkl, hkl, hset, wrap_succ i (by omega)])
         |((with_reducible refine Hid.go hK ?_);clear hK K)|((with_reducible apply Pwp.condG);rfl)|((with_reducible first|apply qqj|apply qqk);simp[hlt2, hki, hkkl, hkl, hset, wrap_succ i (by omega)];done)|((with_reducible first|apply qr|apply qs|apply qt|apply qu|apply qv|apply qw)<;>intro h)
         |((with_reducible first|apply qx|apply qy|apply qz|apply qqa|apply qqb|apply qqc|apply qqd|apply qqe|apply qqf|apply qqg|apply qqh|apply qqi)<;>intro h<;>try simp[h, hlt2, hki, hkkl, hkl, hset, wrap_succ i (by omega)])
         |((with_reducible refine and_go ?_ fun hs=>?_);focus omega
           try simp[hlt2, hki, hkkl, hkl, hset, wrap_succ i (by omega)])
         |((with_reducible first|apply qql|apply qqn|apply qqp|apply qqm|apply qqo|apply qqq);simp[hlt2, hki, hkkl, hkl, hset, wrap_succ i (by omega)])
        refine roundN_go (i + 1) ?_ hlt2 (by omega)
        refine PLe.tellNextG (pre := []) [] (by simp) ?_ ?_ ?_
        · repeat' first | exact Sub.nil _ | refine Sub.cons (by simp [St.find, *]) ?_
        · repeat' first | exact StLe.nil | (apply StLe.cons; (focus (first | (simp [St.find]; done) | (simp [St.find, *]; done))); (focus ((repeat' first | exact St.find_hd _ _ _ | (apply St.find_tl; (focus (first | assumption | (simp; done) | (simp [*]; done))))); done)))
          all_goals first | exact ObLe.refl _ | (refine ObLe.of_eq ?_; simp [*]; done) | (simp only [List.map_set]; exact ObLe.row _ _ _ (ELe.set _ (ELe.refl _) rfl (VLeL.cons (VLe.cap _ _) VLeL.nil))) | (refine ObLe.row _ _ _ (ELe.one ?_ ?_); (focus (simp; done)))
          all_goals repeat' first | exact VLeL.nil | refine VLeL.cons ?_ ?_
          all_goals first | exact VLe.refl _ | exact VLe.any _ | exact VLe.cap _ _ | (refine VLe.ghost1 ?_ ?_ <;> omega) | (apply VLe.row (h := ELe.refl _); (focus ((repeat' first | exact St.find_hd _ _ _ | (apply St.find_tl; (focus (first | assumption | (simp; done) | (simp [*]; done))))); done)); (simp [*]; done)) | (apply VLe.prow (h := ELe.refl _); (focus ((repeat' first | exact St.find_hd _ _ _ | (apply St.find_tl; (focus (first | assumption | (simp; done) | (simp [*]; done))))); done)); (simp; done)) | (refine VLe.of_eq ?_; simp [*]; done)
        · repeat' first | exact VLeL.nil | refine VLeL.cons ?_ ?_
          all_goals first | exact VLe.refl _ | exact VLe.any _ | exact VLe.cap _ _ | (refine VLe.ghost1 ?_ ?_ <;> omega) | (apply VLe.row (h := ELe.refl _); (focus ((repeat' first | exact St.find_hd _ _ _ | (apply St.find_tl; (focus (first | assumption | (simp; done) | (simp [*]; done))))); done)); (simp [*]; done)) | (apply VLe.prow (h := ELe.refl _); (focus ((repeat' first | exact St.find_hd _ _ _ | (apply St.find_tl; (focus (first | assumption | (simp; done) | (simp [*]; done))))); done)); (simp; done)) | (refine VLe.of_eq ?_; simp [*]; done)
      · repeat' first
         |(with_reducible first|apply qa|apply qb|apply qc|apply qd|apply qe|apply qf|apply qg|apply qh|apply qi|apply qj|apply qk|apply ql|apply qm|apply qn|apply qo|apply qp|apply qq|refine blockP_ne (by decide) ?_)
         |((with_reducible refine Pwp.reg fun K hK=>?_);simp[hlt2])
         |((with_reducible refine Pwp.drawn (id := 10) follows_mixed [0, 1, 0, 0, 0, 24, 63, 127] [false, false, false, false, false, false, true, true] ?_ fun K hK => ?_); focus kernel_rfl
           simp [hlt2])
         |((with_reducible refine Hid.go hK ?_);clear hK K)|((with_reducible apply Pwp.condG);rfl)|((with_reducible first|apply qqj|apply qqk);simp[hlt2];done)|((with_reducible first|apply qr|apply qs|apply qt|apply qu|apply qv|apply qw)<;>intro h)
         |((with_reducible first|apply qx|apply qy|apply qz|apply qqa|apply qqb|apply qqc|apply qqd|apply qqe|apply qqf|apply qqg|apply qqh|apply qqi)<;>intro h<;>try simp[h, hlt2])
         |((with_reducible refine and_go ?_ fun hs=>?_);focus omega
           try simp[hlt2])
         |((with_reducible first|apply qql|apply qqn|apply qqp|apply qqm|apply qqo|apply qqq);simp[hlt2])
        refine endP_mem (by first | exact .inl rfl | exact .inr rfl) [(12 :: 12 :: A, .row 1 (kk.map handlesPv))] [(2 :: A, .row 2 [Graph.pv ⟨g.slots.set h.slot.toNat ⟨h.gen, false⟩, kk⟩])] ?_ ?_ ?_ ?_
        · repeat' first | exact Sub.nil _ | refine Sub.cons (by simp [St.find]) ?_
        · repeat' first | exact StLe.nil | (apply StLe.cons; (focus (simp [St.find]; done)))
          all_goals try ((((repeat' first | exact St.find_hd _ _ _ | (apply St.find_tl; (focus (first | assumption | (simp; done) | (simp [*]; done))))); done)); done)
          all_goals first | exact ObLe.refl _ | (refine ObLe.of_eq ?_; simp [*]; done) | (simp only [List.map_set]; exact ObLe.row _ _ _ (ELe.set _ (ELe.refl _) rfl (VLeL.cons (VLe.cap _ _) VLeL.nil))) | (refine ObLe.row _ _ _ (ELe.one ?_ ?_); (focus (simp; done)))
          all_goals repeat' first | exact VLeL.nil | refine VLeL.cons ?_ ?_
          all_goals first | exact VLe.refl _ | exact VLe.cap _ _ | exact VLe.any _ | (apply VLe.row (h := ELe.refl _); (focus (((repeat' first | exact St.find_hd _ _ _ | (apply St.find_tl; (focus (first | assumption | (simp; done) | (simp [*]; done))))); done))); (simp [*]; done)) | (refine VLe.of_eq ?_; simp [*]; done)
        · simp [*]
        · repeat' first | exact Sub.nil _ | refine Sub.cons (by simp [St.find]) ?_
  · have hm : nodesKill g h = (⟨[], []⟩, askErr g [h]) := by simp [nodesKill, ha]
    rw [hm]
    refine Runs.body (rs := [.cell 4 27, .tmp 5]) ent214 Tryz.func214 rfl Tryz.ntmps214 rfl (fun x h => by cases h) ?_
    repeat' first
     |(with_reducible first|apply qa|apply qb|apply qc|apply qd|apply qe|apply qf|apply qg|apply qh|apply qi|apply qj|apply qk|apply ql|apply qm|apply qn|apply qo|apply qp|apply qq|refine blockP_ne (by decide) ?_)
     |((with_reducible refine Pwp.reg fun K hK=>?_);simp[*])
     |((with_reducible refine Pwp.drawn (id := 10) follows_mixed [0, 1, 0, 0, 0, 24, 63, 127] [false, false, false, false, false, false, true, true] ?_ fun K hK => ?_); focus kernel_rfl
       simp [*])
     |((with_reducible refine Hid.go hK ?_);clear hK K)|((with_reducible apply Pwp.condG);rfl)|((with_reducible first|apply qqj|apply qqk);simp[*];done)|((with_reducible first|apply qr|apply qs|apply qt|apply qu|apply qv|apply qw)<;>intro h)
     |((with_reducible first|apply qx|apply qy|apply qz|apply qqa|apply qqb|apply qqc|apply qqd|apply qqe|apply qqf|apply qqg|apply qqh|apply qqi)<;>intro h<;>try simp[h, *])
     |((with_reducible refine and_go ?_ fun hs=>?_);focus omega
       try simp[*])
     |((with_reducible first|apply qql|apply qqn|apply qqp|apply qqm|apply qqo|apply qqq);simp[*])
    refine vcallk_new (Runs.borrow [(6 :: A, .row 2 [h.pv])] (runs278 _ g [h] hg.lens (by simp)) (VLeL.cons (VLe.refl _) (VLeL.cons (VLe.row (sz := 2) (St.find_hd _ _ _) (by simp) (ELe.refl _)) VLeL.nil)) rfl) (Sub.one (by simp [St.find])) ?_
    repeat' first
     |(with_reducible first|apply qa|apply qb|apply qc|apply qd|apply qe|apply qf|apply qg|apply qh|apply qi|apply qj|apply qk|apply ql|apply qm|apply qn|apply qo|apply qp|apply qq|refine blockP_ne (by decide) ?_)
     |((with_reducible refine Pwp.reg fun K hK=>?_);simp[ha])
     |((with_reducible refine Pwp.drawn (id := 10) follows_mixed [0, 1, 0, 0, 0, 24, 63, 127] [false, false, false, false, false, false, true, true] ?_ fun K hK => ?_); focus kernel_rfl
       simp [ha])
     |((with_reducible refine Hid.go hK ?_);clear hK K)|((with_reducible apply Pwp.condG);rfl)|((with_reducible first|apply qqj|apply qqk);simp[ha];done)|((with_reducible first|apply qr|apply qs|apply qt|apply qu|apply qv|apply qw)<;>intro h)
     |((with_reducible first|apply qx|apply qy|apply qz|apply qqa|apply qqb|apply qqc|apply qqd|apply qqe|apply qqf|apply qqg|apply qqh|apply qqi)<;>intro h<;>try simp[h, ha])
     |((with_reducible refine and_go ?_ fun hs=>?_);focus omega
       try simp[ha])
     |((with_reducible first|apply qql|apply qqn|apply qqp|apply qqm|apply qqo|apply qqq);simp[ha])
    refine endP_mem (by first | exact .inl rfl | exact .inr rfl) [] [(2 :: A, .row 2 [Graph.pv ⟨[], []⟩])] ?_ ?_ ?_ ?_
    · repeat' first | exact Sub.nil _ | refine Sub.cons (by simp [St.find]) ?_
    · repeat' first | exact StLe.nil | (apply StLe.cons; (focus (simp [St.find]; done)))
      all_goals try ((((repeat' first | exact St.find_hd _ _ _ | (apply St.find_tl; (focus (first | assumption | (simp; done) | (simp [*]; done))))); done)); done)
      all_goals first | exact ObLe.refl _ | (refine ObLe.of_eq ?_; simp [*]; done) | (simp only [List.map_set]; exact ObLe.row _ _ _ (ELe.set _ (ELe.refl _) rfl (VLeL.cons (VLe.cap _ _) VLeL.nil))) | (refine ObLe.row _ _ _ (ELe.one ?_ ?_); (focus (simp; done)))
      all_goals repeat' first | exact VLeL.nil | refine VLeL.cons ?_ ?_
      all_goals first | exact VLe.refl _ | exact VLe.cap _ _ | exact VLe.any _ | (apply VLe.row (h := ELe.refl _); (focus (((repeat' first | exact St.find_hd _ _ _ | (apply St.find_tl; (focus (first | assumption | (simp; done) | (simp [*]; done))))); done))); (simp [*]; done)) | (refine VLe.of_eq ?_; simp [*]; done)
    · simp [*]
    · repeat' first | exact Sub.nil _ | refine Sub.cons (by simp [St.find]) ?_
end Go.Pv

set_option linter.unusedVariables false
set_option linter.unusedSimpArgs false
set_option maxRecDepth 100000
namespace Go.Pv
open Go Go.Proofs

theorem ent62 : enters Tryz.prog 62 = true := by kernel_rfl
theorem runs62 (A : Key) (m : Mesh) (hl : m.Lens) : Runs Tryz.prog A 62 [m.pv] [] (.bool (decide (meshErr m ≠ 0))) [] := by
  refine Runs.body (rs := [.tmp 2]) ent62 Tryz.func62 rfl Tryz.ntmps62 rfl (fun x h => by cases h) ?_
  repeat' first
   |(with_reducible first|apply qa|apply qb|apply qc|apply qd|apply qe|apply qf|apply qg|apply qh|apply qi|apply qj|apply qk|apply ql|apply qm|apply qn|apply qo|apply qp|apply qq|refine blockP_ne (by decide) ?_)
   |((with_reducible refine Pwp.reg fun K hK=>?_);simp[*])
   |((with_reducible refine Hid.go hK ?_);clear hK K)|((with_reducible apply Pwp.condG);rfl)|((with_reducible first|apply qqj|apply qqk);simp[*];done)|((with_reducible first|apply qr|apply qs|apply qt|apply qu|apply qv|apply qw)<;>intro h)
   |((with_reducible first|apply qx|apply qy|apply qz|apply qqa|apply qqb|apply qqc)<;>intro h<;>try simp[h, *])
   |((with_reducible refine and_go ?_ fun hs=>?_);focus omega
     try simp[*])
   |((with_reducible first|apply qql|apply qqn|apply qqp);simp[*])
  refine vcallk_pure (runs63 _ m hl) ?_
  repeat' first
   |(with_reducible first|apply qa|apply qb|apply qc|apply qd|apply qe|apply qf|apply qg|apply qh|apply qi|apply qj|apply qk|apply ql|apply qm|apply qn|apply qo|apply qp|apply qq|refine blockP_ne (by decide) ?_)
   |((with_reducible refine Pwp.reg fun K hK=>?_);simp[*])
   |((with_reducible refine Hid.go hK ?_);clear hK K)|((with_reducible apply Pwp.condG);rfl)|((with_reducible first|apply qqj|apply qqk);simp[*];done)|((with_reducible first|apply qr|apply qs|apply qt|apply qu|apply qv|apply qw)<;>intro h)
   |((with_reducible first|apply qx|apply qy|apply qz|apply qqa|apply qqb|apply qqc)<;>intro h<;>try simp[h, *])
   |((with_reducible refine and_go ?_ fun hs=>?_);focus omega
     try simp[*])
   |((with_reducible first|apply qql|apply qqn|apply qqp);simp[*])
theorem ent64 : enters Tryz.prog 64 = true := by kernel_rfl
theorem runs64 (A : Key) (t : Texture) : Runs Tryz.prog A 64 [t.pv] [] (.bool (texBad t)) [] := by
  refine Runs.body (rs := [.tmp 2]) ent64 Tryz.func64 rfl Tryz.ntmps64 rfl (fun x h => by cases h) ?_
  repeat' first
   |(with_reducible first|apply qa|apply qb|apply qc|apply qd|apply qe|apply qf|apply qg|apply qh|apply qi|apply qj|apply qk|apply ql|apply qm|apply qn|apply qo|apply qp|apply qq|refine blockP_ne (by decide) ?_)
   |((with_reducible refine Pwp.reg fun K hK=>?_);simp[*])
   |((with_reducible refine Hid.go hK ?_);clear hK K)|((with_reducible apply Pwp.condG);rfl)|((with_reducible first|apply qqj|apply qqk);simp[*];done)|((with_reducible first|apply qr|apply qs|apply qt|apply qu|apply qv|apply qw)<;>intro h)
   |((with_reducible first|apply qx|apply qy|apply qz|apply qqa|apply qqb|apply qqc)<;>intro h<;>try simp[h, *])
   |((with_reducible refine and_go ?_ fun hs=>?_);focus omega
     try simp[*])
   |((with_reducible first|apply qql|apply qqn|apply qqp);simp[*])
  refine vcallk_pure (runs65 _ t) ?_
  cases h : texBad t <;> simp [errIf]
  · repeat' first
     |(with_reducible first|apply qa|apply qb|apply qc|apply qd|apply qe|apply qf|apply qg|apply qh|apply qi|apply qj|apply qk|apply ql|apply qm|apply qn|apply qo|apply qp|apply qq|refine blockP_ne (by decide) ?_)
     |((with_reducible refine Pwp.reg fun K hK=>?_);simp[*])
     |((with_reducible refine Hid.go hK ?_);clear hK K)|((with_reducible apply Pwp.condG);rfl)|((with_reducible first|apply qqj|apply qqk);simp[*];done)|((with_reducible first|apply qr|apply qs|apply qt|apply qu|apply qv|apply qw)<;>intro h)
     |((with_reducible first|apply qx|apply qy|apply qz|apply qqa|apply qqb|apply qqc)<;>intro h<;>try simp[h, *])
     |((with_reducible refine and_go ?_ fun hs=>?_);focus omega
       try simp[*])
     |((with_reducible first|apply qql|apply qqn|apply qqp);simp[*])
  · repeat' first
     |(with_reducible first|apply qa|apply qb|apply qc|apply qd|apply qe|apply qf|apply qg|apply qh|apply qi|apply qj|apply qk|apply ql|apply qm|apply qn|apply qo|apply qp|apply qq|refine blockP_ne (by decide) ?_)
     |((with_reducible refine Pwp.reg fun K hK=>?_);simp[*])
     |((with_reducible refine Hid.go hK ?_);clear hK K)|((with_reducible apply Pwp.condG);rfl)|((with_reducible first|apply qqj|apply qqk);simp[*];done)|((with_reducible first|apply qr|apply qs|apply qt|apply qu|apply qv|apply qw)<;>intro h)
     |((with_reducible first|apply qx|apply qy|apply qz|apply qqa|apply qqb|apply qqc)<;>intro h<;>try simp[h, *])
     |((with_reducible refine and_go ?_ fun hs=>?_);focus omega
       try simp[*])
     |((with_reducible first|apply qql|apply qqn|apply qqp);simp[*])

structure Scene.Lens (s : Scene) : Prop where
  graph : s.graph.Lens
  nodes : s.nodes.length < 4611686018427387904
  far : ∀ n ∈ s.nodes, n.far.length < 4611686018427387904
  meshes : s.meshes.length < 4611686018427387904
  mesh : ∀ m ∈ s.meshes, m.Lens
  textures : s.textures.length < 4611686018427387904

def zLook : Look := ⟨⟨0, 0, 0, 0⟩, 0, 0, 0, false, 0⟩
def zStyle : Style := ⟨0, 0, 0, 0, 0, zLook⟩
def zeroN : Node := ⟨0, zMat, 0, zVec, [], 0, zStyle⟩
def zeroNodeV : PV := .agg ([.int .u8 0] ++ zMat.cs ++ [.int .u16 0] ++ zVec.cs ++ [.islice (some 0) [], .int .i64 0] ++ zStyle.cs)
theorem zeroV_le : VLe [] (fun _ => False) zeroNodeV zeroN.pv := by
  refine VLe.aggL ?_
  repeat' first | exact VLeL.nil | refine VLeL.cons ?_ ?_
  all_goals first | exact VLe.refl _ | exact VLe.cap _ _
theorem runs69z (A : Key) (n : Node) (hl : n.far.length < 4611686018427387904) : Runs Tryz.prog A 69 [n.pv, zeroNodeV] [] (.bool (decide (n = zeroN))) [] :=
  Runs.args (runs69 A n zeroN hl) (VLeL.cons (VLe.refl _) (VLeL.cons zeroV_le VLeL.nil))

def nodeBad (s : Scene) (i : Nat) (n : Node) : Bool :=
  if (slotAt s.graph.slots i).live = true then !nodeOk s.meshes.length s.textures.length n || (decide (n.kind = 5) && decide (0 < (s.graph.kids.getD i []).length)) else !decide (n = zeroN)
def nodesGood (s : Scene) : Prop := ∀ i, (h : i < s.nodes.length) → nodeBad s i s.nodes[i] = false
instance (s : Scene) : Decidable (nodesGood s) := inferInstanceAs (Decidable (∀ i, (h : i < s.nodes.length) → _))
def rootBad (s : Scene) : Bool := decide (s.root ≠ ⟨0, 0⟩) && !HoldsB s.graph.slots s.root
def sceneOk (s : Scene) : Bool :=
  graphOk s.graph && (decide (s.nodes.length = s.graph.kids.length) && (decide (s.meshes.length ≤ 32) && (!s.meshes.any (fun m => decide (meshErr m ≠ 0)) && (decide (s.textures.length ≤ 16) && (!s.textures.any texBad && (decide (nodesGood s) && !rootBad s))))))

set_option maxHeartbeats 8000000
theorem ent23 : enters Tryz.prog 23 = true := by kernel_rfl
theorem runs23 (A : Key) (s : Scene) (hs : s.Lens) : Runs Tryz.prog A 23 [s.pv] [] (.int .i64 (errIf (!sceneOk s))) [] := by
  refine Runs.body (rs := [.tmp 2]) ent23 Tryz.func23 rfl Tryz.ntmps23 rfl (fun x h => by cases h) ?_
  repeat' first
   |(with_reducible first|apply qa|apply qb|apply qc|apply qd|apply qe|apply qf|apply qg|apply qh|apply qi|apply qj|apply qk|apply ql|apply qm|apply qn|apply qo|apply qp|apply qq|refine blockP_ne (by decide) ?_)
   |((with_reducible refine Pwp.reg fun K hK=>?_);simp[*])
   |((with_reducible refine Hid.go hK ?_);clear hK K)|((with_reducible apply Pwp.condG);rfl)|((with_reducible first|apply qqj|apply qqk);simp[*];done)|((with_reducible first|apply qr|apply qs|apply qt|apply qu|apply qv|apply qw)<;>intro h)
   |((with_reducible first|apply qx|apply qy|apply qz|apply qqa|apply qqb|apply qqc)<;>intro h<;>try simp[h, *])
   |((with_reducible refine and_go ?_ fun hs=>?_);focus omega
     try simp[*])
   |((with_reducible first|apply qql|apply qqn|apply qqp);simp[*])
  refine vcallk_pure (runs66 _ s.graph hs.graph.slots hs.graph.kids hs.graph.row) ?_
  cases hg : graphOk s.graph with
  | false =>
    have hv : sceneOk s = false := by simp [sceneOk, hg]
    repeat' first
     |(with_reducible first|apply qa|apply qb|apply qc|apply qd|apply qe|apply qf|apply qg|apply qh|apply qi|apply qj|apply qk|apply ql|apply qm|apply qn|apply qo|apply qp|apply qq|refine blockP_ne (by decide) ?_)
     |((with_reducible refine Pwp.reg fun K hK=>?_);simp[hg, errIf])
     |((with_reducible refine Hid.go hK ?_);clear hK K)|((with_reducible apply Pwp.condG);rfl)|((with_reducible first|apply qqj|apply qqk);simp[hg, errIf];done)|((with_reducible first|apply qr|apply qs|apply qt|apply qu|apply qv|apply qw)<;>intro h)
     |((with_reducible first|apply qx|apply qy|apply qz|apply qqa|apply qqb|apply qqc)<;>intro h<;>try simp[h, hg, errIf])
     |((with_reducible refine and_go ?_ fun hs=>?_);focus omega
       try simp[hg, errIf])
     |((with_reducible first|apply qql|apply qqn|apply qqp);simp[hg, errIf])
    all_goals (refine endP_ret0 ?_; simp [hv, errIf])
  | true =>
    by_cases h1 : s.nodes.length = s.graph.kids.length
    rotate_left
    · have hv : sceneOk s = false := by simp [sceneOk, h1]
      repeat' first
       |(with_reducible first|apply qa|apply qb|apply qc|apply qd|apply qe|apply qf|apply qg|apply qh|apply qi|apply qj|apply qk|apply ql|apply qm|apply qn|apply qo|apply qp|apply qq|refine blockP_ne (by decide) ?_)
       |((with_reducible refine Pwp.reg fun K hK=>?_);simp[hg, errIf, h1])
       |((with_reducible refine Hid.go hK ?_);clear hK K)|((with_reducible apply Pwp.condG);rfl)|((with_reducible first|apply qqj|apply qqk);simp[hg, errIf, h1];done)|((with_reducible first|apply qr|apply qs|apply qt|apply qu|apply qv|apply qw)<;>intro h)
       |((with_reducible first|apply qx|apply qy|apply qz|apply qqa|apply qqb|apply qqc)<;>intro h<;>try simp[h, hg, errIf, h1])
       |((with_reducible refine and_go ?_ fun hs=>?_);focus omega
         try simp[hg, errIf, h1])
       |((with_reducible first|apply qql|apply qqn|apply qqp);simp[hg, errIf, h1])
      all_goals (refine endP_ret0 ?_; simp [hv, errIf])
    by_cases h2 : s.meshes.length ≤ 32
    rotate_left
    · have hv : sceneOk s = false := by simp only [sceneOk, h2, decide_false, Bool.false_and, Bool.and_false]
      have c2 : (32 < (s.meshes.length : Int)) = True := by simp only [eq_iff_iff, iff_true]; omega
      repeat' first
       |(with_reducible first|apply qa|apply qb|apply qc|apply qd|apply qe|apply qf|apply qg|apply qh|apply qi|apply qj|apply qk|apply ql|apply qm|apply qn|apply qo|apply qp|apply qq|refine blockP_ne (by decide) ?_)
       |((with_reducible refine Pwp.reg fun K hK=>?_);simp[hg, errIf, h1, c2])
       |((with_reducible refine Hid.go hK ?_);clear hK K)|((with_reducible apply Pwp.condG);rfl)|((with_reducible first|apply qqj|apply qqk);simp[hg, errIf, h1, c2];done)|((with_reducible first|apply qr|apply qs|apply qt|apply qu|apply qv|apply qw)<;>intro h)
       |((with_reducible first|apply qx|apply qy|apply qz|apply qqa|apply qqb|apply qqc)<;>intro h<;>try simp[h, hg, errIf, h1, c2])
       |((with_reducible refine and_go ?_ fun hs=>?_);focus omega
         try simp[hg, errIf, h1, c2])
       |((with_reducible first|apply qql|apply qqn|apply qqp);simp[hg, errIf, h1, c2])
      all_goals (refine endP_ret0 ?_; simp [hv, errIf])
    have c2 : (32 < (s.meshes.length : Int)) = False := by simp only [eq_iff_iff, iff_false]; omega
    repeat' first
     |(with_reducible first|apply qa|apply qb|apply qc|apply qd|apply qe|apply qf|apply qg|apply qh|apply qi|apply qj|apply qk|apply ql|apply qm|apply qn|apply qo|apply qp|apply qq|refine blockP_ne (by decide) ?_)
     |((with_reducible refine Pwp.reg fun K hK=>?_);simp[hg, errIf, h1, c2])
     |((with_reducible refine Hid.go hK ?_);clear hK K)|((with_reducible apply Pwp.condG);rfl)|((with_reducible first|apply qqj|apply qqk);simp[hg, errIf, h1, c2];done)|((with_reducible first|apply qr|apply qs|apply qt|apply qu|apply qv|apply qw)<;>intro h)
     |((with_reducible first|apply qx|apply qy|apply qz|apply qqa|apply qqb|apply qqc)<;>intro h<;>try simp[h, hg, errIf, h1, c2])
     |((with_reducible refine and_go ?_ fun hs=>?_);focus omega
       try simp[hg, errIf, h1, c2])
     |((with_reducible first|apply qql|apply qqn|apply qqp);simp[hg, errIf, h1, c2])
    refine vcallk_pure (runs67 _ s.meshes (fun m => decide (meshErr m ≠ 0)) 62 [] [] hs.meshes (fun A' x hx => runs62 A' x (hs.mesh x hx))) ?_
    cases h3 : s.meshes.any (fun m => decide (meshErr m ≠ 0)) with
    | true =>
      have hv : sceneOk s = false := by simp only [sceneOk, h3, Bool.not_true, Bool.false_and, Bool.and_false]
      repeat' first
       |(with_reducible first|apply qa|apply qb|apply qc|apply qd|apply qe|apply qf|apply qg|apply qh|apply qi|apply qj|apply qk|apply ql|apply qm|apply qn|apply qo|apply qp|apply qq|refine blockP_ne (by decide) ?_)
       |((with_reducible refine Pwp.reg fun K hK=>?_);simp[hg, errIf, h1, c2, h3])
       |((with_reducible refine Hid.go hK ?_);clear hK K)|((with_reducible apply Pwp.condG);rfl)|((with_reducible first|apply qqj|apply qqk);simp[hg, errIf, h1, c2, h3];done)|((with_reducible first|apply qr|apply qs|apply qt|apply qu|apply qv|apply qw)<;>intro h)
       |((with_reducible first|apply qx|apply qy|apply qz|apply qqa|apply qqb|apply qqc)<;>intro h<;>try simp[h, hg, errIf, h1, c2, h3])
       |((with_reducible refine and_go ?_ fun hs=>?_);focus omega
         try simp[hg, errIf, h1, c2, h3])
       |((with_reducible first|apply qql|apply qqn|apply qqp);simp[hg, errIf, h1, c2, h3])
      all_goals (refine endP_ret0 ?_; simp [hv, errIf])
    | false =>
      by_cases h4 : s.textures.length ≤ 16
      rotate_left
      · have hv : sceneOk s = false := by simp only [sceneOk, h4, decide_false, Bool.false_and, Bool.and_false]
        have c4 : (16 < (s.textures.length : Int)) = True := by simp only [eq_iff_iff, iff_true]; omega
        repeat' first
         |(with_reducible first|apply qa|apply qb|apply qc|apply qd|apply qe|apply qf|apply qg|apply qh|apply qi|apply qj|apply qk|apply ql|apply qm|apply qn|apply qo|apply qp|apply qq|refine blockP_ne (by decide) ?_)
         |((with_reducible refine Pwp.reg fun K hK=>?_);simp[hg, errIf, h1, c2, h3, c4])
         |((with_reducible refine Hid.go hK ?_);clear hK K)|((with_reducible apply Pwp.condG);rfl)|((with_reducible first|apply qqj|apply qqk);simp[hg, errIf, h1, c2, h3, c4];done)|((with_reducible first|apply qr|apply qs|apply qt|apply qu|apply qv|apply qw)<;>intro h)
         |((with_reducible first|apply qx|apply qy|apply qz|apply qqa|apply qqb|apply qqc)<;>intro h<;>try simp[h, hg, errIf, h1, c2, h3, c4])
         |((with_reducible refine and_go ?_ fun hs=>?_);focus omega
           try simp[hg, errIf, h1, c2, h3, c4])
         |((with_reducible first|apply qql|apply qqn|apply qqp);simp[hg, errIf, h1, c2, h3, c4])
        all_goals (refine endP_ret0 ?_; simp [hv, errIf])
      have c4 : (16 < (s.textures.length : Int)) = False := by simp only [eq_iff_iff, iff_false]; omega
      repeat' first
       |(with_reducible first|apply qa|apply qb|apply qc|apply qd|apply qe|apply qf|apply qg|apply qh|apply qi|apply qj|apply qk|apply ql|apply qm|apply qn|apply qo|apply qp|apply qq|refine blockP_ne (by decide) ?_)
       |((with_reducible refine Pwp.reg fun K hK=>?_);simp[hg, errIf, h1, c2, h3, c4])
       |((with_reducible refine Hid.go hK ?_);clear hK K)|((with_reducible apply Pwp.condG);rfl)|((with_reducible first|apply qqj|apply qqk);simp[hg, errIf, h1, c2, h3, c4];done)|((with_reducible first|apply qr|apply qs|apply qt|apply qu|apply qv|apply qw)<;>intro h)
       |((with_reducible first|apply qx|apply qy|apply qz|apply qqa|apply qqb|apply qqc)<;>intro h<;>try simp[h, hg, errIf, h1, c2, h3, c4])
       |((with_reducible refine and_go ?_ fun hs=>?_);focus omega
         try simp[hg, errIf, h1, c2, h3, c4])
       |((with_reducible first|apply qql|apply qqn|apply qqp);simp[hg, errIf, h1, c2, h3, c4])
      refine vcallk_pure (runs68 _ s.textures texBad 64 [] [] hs.textures (fun A' x hx => runs64 A' x)) ?_
      cases h5 : s.textures.any texBad with
      | true =>
        have hv : sceneOk s = false := by simp only [sceneOk, h5, Bool.not_true, Bool.false_and, Bool.and_false]
        repeat' first
         |(with_reducible first|apply qa|apply qb|apply qc|apply qd|apply qe|apply qf|apply qg|apply qh|apply qi|apply qj|apply qk|apply ql|apply qm|apply qn|apply qo|apply qp|apply qq|refine blockP_ne (by decide) ?_)
         |((with_reducible refine Pwp.reg fun K hK=>?_);simp[hg, errIf, h1, c2, h3, c4, h5])
         |((with_reducible refine Hid.go hK ?_);clear hK K)|((with_reducible apply Pwp.condG);rfl)|((with_reducible first|apply qqj|apply qqk);simp[hg, errIf, h1, c2, h3, c4, h5];done)|((with_reducible first|apply qr|apply qs|apply qt|apply qu|apply qv|apply qw)<;>intro h)
         |((with_reducible first|apply qx|apply qy|apply qz|apply qqa|apply qqb|apply qqc)<;>intro h<;>try simp[h, hg, errIf, h1, c2, h3, c4, h5])
         |((with_reducible refine and_go ?_ fun hs=>?_);focus omega
           try simp[hg, errIf, h1, c2, h3, c4, h5])
         |((with_reducible first|apply qql|apply qqn|apply qqp);simp[hg, errIf, h1, c2, h3, c4, h5])
        all_goals (refine endP_ret0 ?_; simp [hv, errIf])
      | false =>
        repeat' first
         |(with_reducible first|apply qa|apply qb|apply qc|apply qd|apply qe|apply qf|apply qg|apply qh|apply qi|apply qj|apply qk|apply ql|apply qm|apply qn|apply qo|apply qp|apply qq|refine blockP_ne (by decide) ?_)
         |((with_reducible refine Pwp.reg fun K hK=>?_);simp[hg, errIf, h1, c2, h3, c4, h5])
         |((with_reducible refine Hid.go hK ?_);clear hK K)|((with_reducible apply Pwp.condG);rfl)|((with_reducible first|apply qqj|apply qqk);simp[hg, errIf, h1, c2, h3, c4, h5];done)|((with_reducible first|apply qr|apply qs|apply qt|apply qu|apply qv|apply qw)<;>intro h)
         |((with_reducible first|apply qx|apply qy|apply qz|apply qqa|apply qqb|apply qqc)<;>intro h<;>try simp[h, hg, errIf, h1, c2, h3, c4, h5])
         |((with_reducible refine and_go ?_ fun hs=>?_);focus omega
           try simp[hg, errIf, h1, c2, h3, c4, h5])
         |((with_reducible first|apply qql|apply qqn|apply qqp);simp[hg, errIf, h1, c2, h3, c4, h5])
        have hab : s.graph.slots.length = s.graph.kids.length := by simp only [graphOk, Bool.and_eq_true, decide_eq_true_eq] at hg; exact hg.2.1.symm
        have hkl := hs.graph.kids
        refine Pwp.loopN (ι := Nat) (S := fun i => ⟨[.any, .iptr [s.pv] 0 0, .any, .any, .any, .any, .any, .any, .any, .any, .any, .any, .any, .any, .any, .any, .any, .any, .any, .any, .any, .any, .any, .any, .any, .any, .any, .any, .any, .any, .any, .any, .any, .any, .any, .any, .any, .any, .any, .any, .any, .any, .any, .any, .any, .any, nodesPv s.nodes, .int .i64 s.graph.kids.length, .int .i64 i, .any, .any, .any, .any, .any, .any, .any, .any, .any, .any, .any, .any, .any, .any, .any, .any, .any, .any, .any, .any, .any, .any, .any, .any, .any, .any, .any, .any, .any, .any, .any, .any, .any, .any, .any, .any, .any, .any, .any, .any, .any, .any, .any, .any, .any, .any, .any, .any, .any, .any, .any, .any, .any, .any, .any, .any, .any, .any, .any, .any, .any, .any, .any, .any], [], i :: 46 :: A, 0⟩)
          (C := fun i => i ≤ s.graph.kids.length ∧ ∀ j, (h : j < s.nodes.length) → j < i → nodeBad s j s.nodes[j] = false) (μ := fun i => s.graph.kids.length - i) 0 ?_ ?_ ?_
        · refine PLe.tellInG [(0 :: A, .row 7 [s.pv])] (by simp) ?_ ?_ ?_
          · repeat' first | exact Sub.nil _ | refine Sub.cons (by simp [St.find, *]) ?_
          · repeat' first | exact StLeG.nil | (apply StLeG.old; (focus (simp [St.find]; done)); (focus ((repeat' first | exact St.find_hd _ _ _ | (apply St.find_tl; (focus (first | assumption | (simp; done) | (simp [*]; done))))); done))) | (refine StLeG.new ?_ ?_ ?_ ?_; (focus (simp [St.find]; done)); (focus omega); (focus omega))
            all_goals first | exact ObLe.refl _ | (refine ObLe.of_eq ?_; simp [*]; done) | (refine ObLe.row _ _ _ (ELe.one ?_ ?_); (focus (simp; done)))
            all_goals repeat' first | exact VLeL.nil | refine VLeL.cons ?_ ?_
            all_goals first | exact VLe.refl _ | exact VLe.any _ | exact VLe.cap _ _ | (refine VLe.ghost1 ?_ ?_ <;> omega) | (apply VLe.row (h := ELe.refl _); (focus ((repeat' first | exact St.find_hd _ _ _ | (apply St.find_tl; (focus (first | assumption | (simp; done) | (simp [*]; done))))); done)); (simp [*]; done)) | (apply VLe.prow (h := ELe.refl _); (focus ((repeat' first | exact St.find_hd _ _ _ | (apply St.find_tl; (focus (first | assumption | (simp; done) | (simp [*]; done))))); done)); (simp; done)) | (refine VLe.of_eq ?_; simp [*]; done)
          · repeat' first | exact VLeL.nil | refine VLeL.cons ?_ ?_
            all_goals first | exact VLe.refl _ | exact VLe.any _ | exact VLe.cap _ _ | (refine VLe.ghost1 ?_ ?_ <;> omega) | (apply VLe.row (h := ELe.refl _); (focus ((repeat' first | exact St.find_hd _ _ _ | (apply St.find_tl; (focus (first | assumption | (simp; done) | (simp [*]; done))))); done)); (simp [*]; done)) | (apply VLe.prow (h := ELe.refl _); (focus ((repeat' first | exact St.find_hd _ _ _ | (apply St.find_tl; (focus (first | assumption | (simp; done) | (simp [*]; done))))); done)); (simp; done)) | (refine VLe.of_eq ?_; simp [*]; done)
        · simp
        · rintro i ⟨hi, hp⟩
          by_cases hlt : i < s.graph.kids.length
          · have hlt1 : i < s.nodes.length := by omega
            have hlt2 : i < s.graph.slots.length := by omega
            have hfar := hs.far _ (List.getElem_mem hlt1)
            have hsl : slotAt s.graph.slots i = s.graph.slots[i] := by simp [slotAt, List.getD_eq_getElem?_getD, hlt2]
            have hkd : s.graph.kids.getD i [] = s.graph.kids[i] := by simp [List.getD_eq_getElem?_getD, hlt]
            have bad : nodeBad s i s.nodes[i] = true → sceneOk s = false := by
              intro hb
              have : ¬ nodesGood s := fun hr => by rw [hr i hlt1] at hb; cases hb
              simp [sceneOk, this]
            cases hlive : s.graph.slots[i].live with
            | false =>
              repeat' first
               |(with_reducible first|apply qa|apply qb|apply qc|apply qd|apply qe|apply qf|apply qg|apply qh|apply qi|apply qj|apply qk|apply ql|apply qm|apply qn|apply qo|apply qp|apply qq|refine blockP_ne (by decide) ?_)
               |((with_reducible refine Pwp.reg fun K hK=>?_);simp[hlt, hlt1, hlt2, hlive])
               |((with_reducible refine Hid.go hK ?_);clear hK K)|((with_reducible apply Pwp.condG);rfl)|((with_reducible first|apply qqj|apply qqk);simp[hlt, hlt1, hlt2, hlive];done)|((with_reducible first|apply qr|apply qs|apply qt|apply qu|apply qv|apply qw)<;>intro h)
               |((with_reducible first|apply qx|apply qy|apply qz|apply qqa|apply qqb|apply qqc)<;>intro h<;>try simp[h, hlt, hlt1, hlt2, hlive])
               |((with_reducible refine and_go ?_ fun hs=>?_);focus omega
                 try simp[hlt, hlt1, hlt2, hlive])
               |((with_reducible first|apply qql|apply qqn|apply qqp);simp[hlt, hlt1, hlt2, hlive])
              refine vcallk_pure (runs69z _ s.nodes[i] hfar) ?_
              by_cases hz : s.nodes[i] = zeroN
              · have hb : nodeBad s i s.nodes[i] = false := by simp [nodeBad, hsl, hlive, hz]
                repeat' first
                 |(with_reducible first|apply qa|apply qb|apply qc|apply qd|apply qe|apply qf|apply qg|apply qh|apply qi|apply qj|apply qk|apply ql|apply qm|apply qn|apply qo|apply qp|apply qq|refine blockP_ne (by decide) ?_)
                 |((with_reducible refine Pwp.reg fun K hK=>?_);simp[hlt, hlt1, hlt2, hlive, hz, wrap_succ i (by omega)])
                 |((with_reducible refine Hid.go hK ?_);clear hK K)|((with_reducible apply Pwp.condG);rfl)|((with_reducible first|apply qqj|apply qqk);simp[hlt, hlt1, hlt2, hlive, hz, wrap_succ i (by omega)];done)|((with_reducible first|apply qr|apply qs|apply qt|apply qu|apply qv|apply qw)<;>intro h)
                 |((with_reducible first|apply qx|apply qy|apply qz|apply qqa|apply qqb|apply qqc)<;>intro h<;>try simp[h, hlt, hlt1, hlt2, hlive, hz, wrap_succ i (by omega)])
                 |((with_reducible refine and_go ?_ fun hs=>?_);focus omega
                   try simp[hlt, hlt1, hlt2, hlive, hz, wrap_succ i (by omega)])
                 |((with_reducible first|apply qql|apply qqn|apply qqp);simp[hlt, hlt1, hlt2, hlive, hz, wrap_succ i (by omega)])
                refine roundN_go (i + 1) ?_ ⟨hlt, upto_succ hp hlt1 hb⟩ (by omega)
                refine PLe.tellNextG (pre := []) [] (by simp) ?_ ?_ ?_
                · repeat' first | exact Sub.nil _ | refine Sub.cons (by simp [St.find, *]) ?_
                · repeat' first | exact StLe.nil | (apply StLe.cons; (focus (first | (simp [St.find]; done) | (simp [St.find, *]; done))); (focus ((repeat' first | exact St.find_hd _ _ _ | (apply St.find_tl; (focus (first | assumption | (simp; done) | (simp [*]; done))))); done)))
                  all_goals first | exact ObLe.refl _ | (refine ObLe.of_eq ?_; simp [*]; done) | (refine ObLe.row _ _ _ (ELe.one ?_ ?_); (focus (simp; done)))
                  all_goals repeat' first | exact VLeL.nil | refine VLeL.cons ?_ ?_
                  all_goals first | exact VLe.refl _ | exact VLe.any _ | exact VLe.cap _ _ | (refine VLe.ghost1 ?_ ?_ <;> omega) | (apply VLe.row (h := ELe.refl _); (focus ((repeat' first | exact St.find_hd _ _ _ | (apply St.find_tl; (focus (first | assumption | (simp; done) | (simp [*]; done))))); done)); (simp [*]; done)) | (apply VLe.prow (h := ELe.refl _); (focus ((repeat' first | exact St.find_hd _ _ _ | (apply St.find_tl; (focus (first | assumption | (simp; done) | (simp [*]; done))))); done)); (simp; done)) | (refine VLe.of_eq ?_; simp [*]; done)
                · repeat' first | exact VLeL.nil | refine VLeL.cons ?_ ?_
                  all_goals first | exact VLe.refl _ | exact VLe.any _ | exact VLe.cap _ _ | (refine VLe.ghost1 ?_ ?_ <;> omega) | (apply VLe.row (h := ELe.refl _); (focus ((repeat' first | exact St.find_hd _ _ _ | (apply St.find_tl; (focus (first | assumption | (simp; done) | (simp [*]; done))))); done)); (simp [*]; done)) | (apply VLe.prow (h := ELe.refl _); (focus ((repeat' first | exact St.find_hd _ _ _ | (apply St.find_tl; (focus (first | assumption | (simp; done) | (simp [*]; done))))); done)); (simp; done)) | (refine VLe.of_eq ?_; simp [*]; done)
              · have hv : sceneOk s = false := bad (by simp [nodeBad, hsl, hlive, hz])
                repeat' first
                 |(with_reducible first|apply qa|apply qb|apply qc|apply qd|apply qe|apply qf|apply qg|apply qh|apply qi|apply qj|apply qk|apply ql|apply qm|apply qn|apply qo|apply qp|apply qq|refine blockP_ne (by decide) ?_)
                 |((with_reducible refine Pwp.reg fun K hK=>?_);simp[hlt, hlt1, hlt2, hlive, hz])
                 |((with_reducible refine Hid.go hK ?_);clear hK K)|((with_reducible apply Pwp.condG);rfl)|((with_reducible first|apply qqj|apply qqk);simp[hlt, hlt1, hlt2, hlive, hz];done)|((with_reducible first|apply qr|apply qs|apply qt|apply qu|apply qv|apply qw)<;>intro h)
                 |((with_reducible first|apply qx|apply qy|apply qz|apply qqa|apply qqb|apply qqc)<;>intro h<;>try simp[h, hlt, hlt1, hlt2, hlive, hz])
                 |((with_reducible refine and_go ?_ fun hs=>?_);focus omega
                   try simp[hlt, hlt1, hlt2, hlive, hz])
                 |((with_reducible first|apply qql|apply qqn|apply qqp);simp[hlt, hlt1, hlt2, hlive, hz])
                all_goals (refine endP_ret0 ?_; simp [hv, errIf])
            | true =>
              repeat' first
               |(with_reducible first|apply qa|apply qb|apply qc|apply qd|apply qe|apply qf|apply qg|apply qh|apply qi|apply qj|apply qk|apply ql|apply qm|apply qn|apply qo|apply qp|apply qq|refine blockP_ne (by decide) ?_)
               |((with_reducible refine Pwp.reg fun K hK=>?_);simp[hlt, hlt1, hlt2, hlive])
               |((with_reducible refine Hid.go hK ?_);clear hK K)|((with_reducible apply Pwp.condG);rfl)|((with_reducible first|apply qqj|apply qqk);simp[hlt, hlt1, hlt2, hlive];done)|((with_reducible first|apply qr|apply qs|apply qt|apply qu|apply qv|apply qw)<;>intro h)
               |((with_reducible first|apply qx|apply qy|apply qz|apply qqa|apply qqb|apply qqc)<;>intro h<;>try simp[h, hlt, hlt1, hlt2, hlive])
               |((with_reducible refine and_go ?_ fun hs=>?_);focus omega
                 try simp[hlt, hlt1, hlt2, hlive])
               |((with_reducible first|apply qql|apply qqn|apply qqp);simp[hlt, hlt1, hlt2, hlive])
              refine vcallk_pure (runs70 _ s s.nodes[i] hfar) ?_
              cases hn : nodeOk s.meshes.length s.textures.length s.nodes[i] with
              | false =>
                have hv : sceneOk s = false := bad (by simp [nodeBad, hsl, hlive, hn])
                repeat' first
                 |(with_reducible first|apply qa|apply qb|apply qc|apply qd|apply qe|apply qf|apply qg|apply qh|apply qi|apply qj|apply qk|apply ql|apply qm|apply qn|apply qo|apply qp|apply qq|refine blockP_ne (by decide) ?_)
                 |((with_reducible refine Pwp.reg fun K hK=>?_);simp[hlt, hlt1, hlt2, hlive, hn, errIf])
                 |((with_reducible refine Hid.go hK ?_);clear hK K)|((with_reducible apply Pwp.condG);rfl)|((with_reducible first|apply qqj|apply qqk);simp[hlt, hlt1, hlt2, hlive, hn, errIf];done)|((with_reducible first|apply qr|apply qs|apply qt|apply qu|apply qv|apply qw)<;>intro h)
                 |((with_reducible first|apply qx|apply qy|apply qz|apply qqa|apply qqb|apply qqc)<;>intro h<;>try simp[h, hlt, hlt1, hlt2, hlive, hn, errIf])
                 |((with_reducible refine and_go ?_ fun hs=>?_);focus omega
                   try simp[hlt, hlt1, hlt2, hlive, hn, errIf])
                 |((with_reducible first|apply qql|apply qqn|apply qqp);simp[hlt, hlt1, hlt2, hlive, hn, errIf])
                all_goals (refine endP_ret0 ?_; simp [hv, errIf])
              | true =>
                by_cases hk : s.nodes[i].kind = 5
                · by_cases hl : 0 < s.graph.kids[i].length
                  · have hv : sceneOk s = false := bad (by simp only [nodeBad, hsl, hlive, hn, hkd, hk, hl]; simp)
                    have c0 : (0 < (s.graph.kids[i].length : Int)) = True := by simp only [eq_iff_iff, iff_true]; omega
                    repeat' first
                     |(with_reducible first|apply qa|apply qb|apply qc|apply qd|apply qe|apply qf|apply qg|apply qh|apply qi|apply qj|apply qk|apply ql|apply qm|apply qn|apply qo|apply qp|apply qq|refine blockP_ne (by decide) ?_)
                     |((with_reducible refine Pwp.reg fun K hK=>?_);simp[hlt, hlt1, hlt2, hlive, hn, hk, hl, c0, errIf])
                     |((with_reducible refine Hid.go hK ?_);clear hK K)|((with_reducible apply Pwp.condG);rfl)|((with_reducible first|apply qqj|apply qqk);simp[hlt, hlt1, hlt2, hlive, hn, hk, hl, c0, errIf];done)|((with_reducible first|apply qr|apply qs|apply qt|apply qu|apply qv|apply qw)<;>intro h)
                     |((with_reducible first|apply qx|apply qy|apply qz|apply qqa|apply qqb|apply qqc)<;>intro h<;>try simp[h, hlt, hlt1, hlt2, hlive, hn, hk, hl, c0, errIf])
                     |((with_reducible refine and_go ?_ fun hs=>?_);focus omega
                       try simp[hlt, hlt1, hlt2, hlive, hn, hk, hl, c0, errIf])
                     |((with_reducible first|apply qql|apply qqn|apply qqp);simp[hlt, hlt1, hlt2, hlive, hn, hk, hl, c0, errIf])
                    all_goals (refine endP_ret0 ?_; simp [hv, errIf])
                  · have hb : nodeBad s i s.nodes[i] = false := by simp only [nodeBad, hsl, hlive, hn, hkd, hk, hl]; simp
                    have c0 : (0 < (s.graph.kids[i].length : Int)) = False := by simp only [eq_iff_iff, iff_false]; omega
                    repeat' first
                     |(with_reducible first|apply qa|apply qb|apply qc|apply qd|apply qe|apply qf|apply qg|apply qh|apply qi|apply qj|apply qk|apply ql|apply qm|apply qn|apply qo|apply qp|apply qq|refine blockP_ne (by decide) ?_)
                     |((with_reducible refine Pwp.reg fun K hK=>?_);simp[hlt, hlt1, hlt2, hlive, hn, hk, hl, c0, errIf, wrap_succ i (by omega)])
                     |((with_reducible refine Hid.go hK ?_);clear hK K)|((with_reducible apply Pwp.condG);rfl)|((with_reducible first|apply qqj|apply qqk);simp[hlt, hlt1, hlt2, hlive, hn, hk, hl, c0, errIf, wrap_succ i (by omega)];done)|((with_reducible first|apply qr|apply qs|apply qt|apply qu|apply qv|apply qw)<;>intro h)
                     |((with_reducible first|apply qx|apply qy|apply qz|apply qqa|apply qqb|apply qqc)<;>intro h<;>try simp[h, hlt, hlt1, hlt2, hlive, hn, hk, hl, c0, errIf, wrap_succ i (by omega)])
                     |((with_reducible refine and_go ?_ fun hs=>?_);focus omega
                       try simp[hlt, hlt1, hlt2, hlive, hn, hk, hl, c0, errIf, wrap_succ i (by omega)])
                     |((with_reducible first|apply qql|apply qqn|apply qqp);simp[hlt, hlt1, hlt2, hlive, hn, hk, hl, c0, errIf, wrap_succ i (by omega)])
                    refine roundN_go (i + 1) ?_ ⟨hlt, upto_succ hp hlt1 hb⟩ (by omega)
                    refine PLe.tellNextG (pre := []) [] (by simp) ?_ ?_ ?_
                    · repeat' first | exact Sub.nil _ | refine Sub.cons (by simp [St.find, *]) ?_
                    · repeat' first | exact StLe.nil | (apply StLe.cons; (focus (first | (simp [St.find]; done) | (simp [St.find, *]; done))); (focus ((repeat' first | exact St.find_hd _ _ _ | (apply St.find_tl; (focus (first | assumption | (simp; done) | (simp [*]; done))))); done)))
                      all_goals first | exact ObLe.refl _ | (refine ObLe.of_eq ?_; simp [*]; done) | (refine ObLe.row _ _ _ (ELe.one ?_ ?_); (focus (simp; done)))
                      all_goals repeat' first | exact VLeL.nil | refine VLeL.cons ?_ ?_
                      all_goals first | exact VLe.refl _ | exact VLe.any _ | exact VLe.cap _ _ | (refine VLe.ghost1 ?_ ?_ <;> omega) | (apply VLe.row (h := ELe.refl _); (focus ((repeat' first | exact St.find_hd _ _ _ | (apply St.find_tl; (focus (first | assumption | (simp; done) | (simp [*]; done))))); done)); (simp [*]; done)) | (apply VLe.prow (h := ELe.refl _); (focus ((repeat' first | exact St.find_hd _ _ _ | (apply St.find_tl; (focus (first | assumption | (simp; done) | (simp [*]; done))))); done)); (simp; done)) | (refine VLe.of_eq ?_; simp [*]; done)
                    · repeat' first | exact VLeL.nil | refine VLeL.cons ?_ ?_
                      all_goals first | exact VLe.refl _ | exact VLe.any _ | exact VLe.cap _ _ | (refine VLe.ghost1 ?_ ?_ <;> omega) | (apply VLe.row (h := ELe.refl _); (focus ((repeat' first | exact St.find_hd _ _ _ | (apply St.find_tl; (focus (first | assumption | (simp; done) | (simp [*]; done))))); done)); (simp [*]; done)) | (apply VLe.prow (h := ELe.refl _); (focus ((repeat' first | exact St.find_hd _ _ _ | (apply St.find_tl; (focus (first | assumption | (simp; done) | (simp [*]; done))))); done)); (simp; done)) | (refine VLe.of_eq ?_; simp [*]; done)
                · have hb : nodeBad s i s.nodes[i] = false := by simp only [nodeBad, hsl, hlive, hn, hk]; simp
                  repeat' first
                   |(with_reducible first|apply qa|apply qb|apply qc|apply qd|apply qe|apply qf|apply qg|apply qh|apply qi|apply qj|apply qk|apply ql|apply qm|apply qn|apply qo|apply qp|apply qq|refine blockP_ne (by decide) ?_)
                   |((with_reducible refine Pwp.reg fun K hK=>?_);simp[hlt, hlt1, hlt2, hlive, hn, hk, errIf, wrap_succ i (by omega)])
                   |((with_reducible refine Hid.go hK ?_);clear hK K)|((with_reducible apply Pwp.condG);rfl)|((with_reducible first|apply qqj|apply qqk);simp[hlt, hlt1, hlt2, hlive, hn, hk, errIf, wrap_succ i (by omega)];done)|((with_reducible first|apply qr|apply qs|apply qt|apply qu|apply qv|apply qw)<;>intro h)
                   |((with_reducible first|apply qx|apply qy|apply qz|apply qqa|apply qqb|apply qqc)<;>intro h<;>try simp[h, hlt, hlt1, hlt2, hlive, hn, hk, errIf, wrap_succ i (by omega)])
                   |((with_reducible refine and_go ?_ fun hs=>?_);focus omega
                     try simp[hlt, hlt1, hlt2, hlive, hn, hk, errIf, wrap_succ i (by omega)])
                   |((with_reducible first|apply qql|apply qqn|apply qqp);simp[hlt, hlt1, hlt2, hlive, hn, hk, errIf, wrap_succ i (by omega)])
                  refine roundN_go (i + 1) ?_ ⟨hlt, upto_succ hp hlt1 hb⟩ (by omega)
                  refine PLe.tellNextG (pre := []) [] (by simp) ?_ ?_ ?_
                  · repeat' first | exact Sub.nil _ | refine Sub.cons (by simp [St.find, *]) ?_
                  · repeat' first | exact StLe.nil | (apply StLe.cons; (focus (first | (simp [St.find]; done) | (simp [St.find, *]; done))); (focus ((repeat' first | exact St.find_hd _ _ _ | (apply St.find_tl; (focus (first | assumption | (simp; done) | (simp [*]; done))))); done)))
                    all_goals first | exact ObLe.refl _ | (refine ObLe.of_eq ?_; simp [*]; done) | (refine ObLe.row _ _ _ (ELe.one ?_ ?_); (focus (simp; done)))
                    all_goals repeat' first | exact VLeL.nil | refine VLeL.cons ?_ ?_
                    all_goals first | exact VLe.refl _ | exact VLe.any _ | exact VLe.cap _ _ | (refine VLe.ghost1 ?_ ?_ <;> omega) | (apply VLe.row (h := ELe.refl _); (focus ((repeat' first | exact St.find_hd _ _ _ | (apply St.find_tl; (focus (first | assumption | (simp; done) | (simp [*]; done))))); done)); (simp [*]; done)) | (apply VLe.prow (h := ELe.refl _); (focus ((repeat' first | exact St.find_hd _ _ _ | (apply St.find_tl; (focus (first | assumption | (simp; done) | (simp [*]; done))))); done)); (simp; done)) | (refine VLe.of_eq ?_; simp [*]; done)
                  · repeat' first | exact VLeL.nil | refine VLeL.cons ?_ ?_
                    all_goals first | exact VLe.refl _ | exact VLe.any _ | exact VLe.cap _ _ | (refine VLe.ghost1 ?_ ?_ <;> omega) | (apply VLe.row (h := ELe.refl _); (focus ((repeat' first | exact St.find_hd _ _ _ | (apply St.find_tl; (focus (first | assumption | (simp; done) | (simp [*]; done))))); done)); (simp [*]; done)) | (apply VLe.prow (h := ELe.refl _); (focus ((repeat' first | exact St.find_hd _ _ _ | (apply St.find_tl; (focus (first | assumption | (simp; done) | (simp [*]; done))))); done)); (simp; done)) | (refine VLe.of_eq ?_; simp [*]; done)
          · have hgood : nodesGood s := fun j hj => hp j hj (by omega)
            have hok : sceneOk s = !rootBad s := by simp only [sceneOk, hg, h1, h2, h3, h4, h5, hgood]; simp
            by_cases hr : s.root.slot = 0 ∧ s.root.gen = 0
            · obtain ⟨r1, r2⟩ := hr
              have hrb : rootBad s = false := by
                have : s.root = ⟨0, 0⟩ := by cases hh : s.root; simp_all
                simp [rootBad, this]
              repeat' first
               |(with_reducible first|apply qa|apply qb|apply qc|apply qd|apply qe|apply qf|apply qg|apply qh|apply qi|apply qj|apply qk|apply ql|apply qm|apply qn|apply qo|apply qp|apply qq|refine blockP_ne (by decide) ?_)
               |((with_reducible refine Pwp.reg fun K hK=>?_);simp[hlt, r1, r2])
               |((with_reducible refine Hid.go hK ?_);clear hK K)|((with_reducible apply Pwp.condG);rfl)|((with_reducible first|apply qqj|apply qqk);simp[hlt, r1, r2];done)|((with_reducible first|apply qr|apply qs|apply qt|apply qu|apply qv|apply qw)<;>intro h)
               |((with_reducible first|apply qx|apply qy|apply qz|apply qqa|apply qqb|apply qqc)<;>intro h<;>try simp[h, hlt, r1, r2])
               |((with_reducible refine and_go ?_ fun hs=>?_);focus omega
                 try simp[hlt, r1, r2])
               |((with_reducible first|apply qql|apply qqn|apply qqp);simp[hlt, r1, r2])
              all_goals (refine endP_ret0 ?_; simp [hok, hrb, errIf])
            · have hrn : s.root ≠ ⟨0, 0⟩ := fun e => hr (by rw [e]; exact ⟨rfl, rfl⟩)
              have hrb : rootBad s = !HoldsB s.graph.slots s.root := by simp [rootBad, hrn]
              have hr2 : (!decide (s.root.slot = 0) || !decide (s.root.gen = 0)) = true := by
                by_cases q : s.root.slot = 0
                · have q2 : ¬ s.root.gen = 0 := fun e => hr ⟨q, e⟩
                  simp [q2]
                · simp [q]
              repeat' first
               |(with_reducible first|apply qa|apply qb|apply qc|apply qd|apply qe|apply qf|apply qg|apply qh|apply qi|apply qj|apply qk|apply ql|apply qm|apply qn|apply qo|apply qp|apply qq|refine blockP_ne (by decide) ?_)
               |((with_reducible refine Pwp.reg fun K hK=>?_);simp[hlt, hr2])
               |((with_reducible refine Hid.go hK ?_);clear hK K)|((with_reducible apply Pwp.condG);rfl)|((with_reducible first|apply qqj|apply qqk);simp[hlt, hr2];done)|((with_reducible first|apply qr|apply qs|apply qt|apply qu|apply qv|apply qw)<;>intro h)
               |((with_reducible first|apply qx|apply qy|apply qz|apply qqa|apply qqb|apply qqc)<;>intro h<;>try simp[h, hlt, hr2])
               |((with_reducible refine and_go ?_ fun hs=>?_);focus omega
                 try simp[hlt, hr2])
               |((with_reducible first|apply qql|apply qqn|apply qqp);simp[hlt, hr2])
              refine vcallk_pure (runs71 _ s.graph.slots s.root hs.graph.slots) ?_
              cases hb : HoldsB s.graph.slots s.root with
              | true =>
                repeat' first
                 |(with_reducible first|apply qa|apply qb|apply qc|apply qd|apply qe|apply qf|apply qg|apply qh|apply qi|apply qj|apply qk|apply ql|apply qm|apply qn|apply qo|apply qp|apply qq|refine blockP_ne (by decide) ?_)
                 |((with_reducible refine Pwp.reg fun K hK=>?_);simp[hb])
                 |((with_reducible refine Hid.go hK ?_);clear hK K)|((with_reducible apply Pwp.condG);rfl)|((with_reducible first|apply qqj|apply qqk);simp[hb];done)|((with_reducible first|apply qr|apply qs|apply qt|apply qu|apply qv|apply qw)<;>intro h)
                 |((with_reducible first|apply qx|apply qy|apply qz|apply qqa|apply qqb|apply qqc)<;>intro h<;>try simp[h, hb])
                 |((with_reducible refine and_go ?_ fun hs=>?_);focus omega
                   try simp[hb])
                 |((with_reducible first|apply qql|apply qqn|apply qqp);simp[hb])
                all_goals (refine endP_ret0 ?_; simp [hok, hrb, hb, errIf])
              | false =>
                repeat' first
                 |(with_reducible first|apply qa|apply qb|apply qc|apply qd|apply qe|apply qf|apply qg|apply qh|apply qi|apply qj|apply qk|apply ql|apply qm|apply qn|apply qo|apply qp|apply qq|refine blockP_ne (by decide) ?_)
                 |((with_reducible refine Pwp.reg fun K hK=>?_);simp[hb])
                 |((with_reducible refine Hid.go hK ?_);clear hK K)|((with_reducible apply Pwp.condG);rfl)|((with_reducible first|apply qqj|apply qqk);simp[hb];done)|((with_reducible first|apply qr|apply qs|apply qt|apply qu|apply qv|apply qw)<;>intro h)
                 |((with_reducible first|apply qx|apply qy|apply qz|apply qqa|apply qqb|apply qqc)<;>intro h<;>try simp[h, hb])
                 |((with_reducible refine and_go ?_ fun hs=>?_);focus omega
                   try simp[hb])
                 |((with_reducible first|apply qql|apply qqn|apply qqp);simp[hb])
                all_goals (refine endP_ret0 ?_; simp [hok, hrb, hb, errIf])
end Go.Pv

set_option linter.unusedVariables false
set_option linter.unusedSimpArgs false
set_option maxRecDepth 100000
namespace Go.Pv
open Go Go.Proofs

structure Mesh.Caps (m : Mesh) : Prop where
  verts : m.verts.length ≤ 1000000
  uv : m.uv.length ≤ 1000000
  prims : m.prims.length ≤ 1000000
  index : ∀ p ∈ m.prims, p.index.length ≤ 1000000
structure Scene.Caps (s : Scene) : Prop where
  graph : s.graph.Caps
  nodes : s.nodes.length ≤ 1000000
  far : ∀ n ∈ s.nodes, n.far.length ≤ 1000000
  meshes : s.meshes.length ≤ 1000000
  mesh : ∀ m ∈ s.meshes, m.Caps
  textures : s.textures.length ≤ 1000000
  texels : ∀ t ∈ s.textures, t.texels.length ≤ 1000000

/-- The scene of a twin: the rows of nodes, meshes and textures are its own. -/
def sceneV (kn km kt : Key) (s : Scene) : PV := .agg (s.graph.cs ++ [.slice kn s.nodes.length, .slice km s.meshes.length, .slice kt s.textures.length] ++ s.root.cs)
attribute [simp] sceneV

set_option maxHeartbeats 8000000
theorem ent54 : enters Tryz.prog 54 = true := by kernel_rfl
theorem runs54 (A : Key) (s : Scene) (hs : s.Caps) : Runs Tryz.prog A 54 [s.pv] [] (sceneV (14 :: A) (15 :: A) (16 :: A) s)
    [(14 :: A, some (.row 33 (s.nodes.map Node.pv))), (15 :: A, some (.row 3 (s.meshes.map Mesh.pv))), (16 :: A, some (.row 3 (s.textures.map Texture.pv)))] := by
  have hN := hs.nodes
  have hM := hs.meshes
  have hT := hs.textures
  refine Runs.body (rs := [.cell 2 34]) ent54 Tryz.func54 rfl Tryz.ntmps54 rfl (by simp) ?_
  repeat' first
   |(with_reducible first|apply qa|apply qb|apply qc|apply qd|apply qe|apply qf|apply qg|apply qh|apply qi|apply qj|apply qk|apply ql|apply qm|apply qn|apply qo|apply qp|apply qq|refine blockP_ne (by decide) ?_)
   |((with_reducible refine Pwp.reg fun K hK=>?_);simp[*])
   |((with_reducible refine Pwp.drawn (id := 1) follows_mixed [0, 1, 3, 0, 8, 31, 0, 127] [false, false, false, false, false, false, false, true] ?_ fun K hK => ?_); focus kernel_rfl
     simp [*])
   |((with_reducible refine Pwp.drawn (id := 5) follows_mixed [0, 1, 0, 4, 12, 31, 63, 127] [false, false, false, false, false, true, false, true] ?_ fun K hK => ?_); focus kernel_rfl
     simp [*])
   |((with_reducible refine Pwp.drawn (id := 10) follows_mixed [0, 1, 0, 4, 12, 31, 63, 127] [false, false, false, false, false, true, false, true] ?_ fun K hK => ?_); focus kernel_rfl
     simp [*])
   |((with_reducible refine Pwp.drawn (id := 15) follows_mixed [0, 1, 0, 4, 12, 31, 63, 127] [false, false, false, false, false, true, false, true] ?_ fun K hK => ?_); focus kernel_rfl
     simp [*])
   |((with_reducible refine Hid.go hK ?_);clear hK K)|((with_reducible apply Pwp.condG);rfl)|((with_reducible first|apply qqj|apply qqk);simp[*];done)|((with_reducible first|apply qr|apply qs|apply qt|apply qu|apply qv|apply qw)<;>intro h)
   |((with_reducible first|apply qx|apply qy|apply qz|apply qqa|apply qqb|apply qqc|apply qqd|apply qqe|apply qqf|apply qqg|apply qqh|apply qqi)<;>intro h<;>try simp[h, *])
   |((with_reducible refine and_go ?_ fun hs=>?_);focus omega
     try simp[*])
   |((with_reducible first|apply qql|apply qqn|apply qqp|apply qqm|apply qqo|apply qqq);simp[*])
  refine dcallk_new (runs122 _ s.graph hs.graph) (Sub.nil _) (by simp) ?_
  repeat' first
   |(with_reducible first|apply qa|apply qb|apply qc|apply qd|apply qe|apply qf|apply qg|apply qh|apply qi|apply qj|apply qk|apply ql|apply qm|apply qn|apply qo|apply qp|apply qq|refine blockP_ne (by decide) ?_)
   |((with_reducible refine Pwp.reg fun K hK=>?_);simp[*])
   |((with_reducible refine Pwp.drawn (id := 1) follows_mixed [0, 1, 3, 0, 8, 31, 0, 127] [false, false, false, false, false, false, false, true] ?_ fun K hK => ?_); focus kernel_rfl
     simp [*])
   |((with_reducible refine Pwp.drawn (id := 5) follows_mixed [0, 1, 0, 4, 12, 31, 63, 127] [false, false, false, false, false, true, false, true] ?_ fun K hK => ?_); focus kernel_rfl
     simp [*])
   |((with_reducible refine Pwp.drawn (id := 10) follows_mixed [0, 1, 0, 4, 12, 31, 63, 127] [false, false, false, false, false, true, false, true] ?_ fun K hK => ?_); focus kernel_rfl
     simp [*])
   |((with_reducible refine Pwp.drawn (id := 15) follows_mixed [0, 1, 0, 4, 12, 31, 63, 127] [false, false, false, false, false, true, false, true] ?_ fun K hK => ?_); focus kernel_rfl
     simp [*])
   |((with_reducible refine Hid.go hK ?_);clear hK K)|((with_reducible apply Pwp.condG);rfl)|((with_reducible first|apply qqj|apply qqk);simp[*];done)|((with_reducible first|apply qr|apply qs|apply qt|apply qu|apply qv|apply qw)<;>intro h)
   |((with_reducible first|apply qx|apply qy|apply qz|apply qqa|apply qqb|apply qqc|apply qqd|apply qqe|apply qqf|apply qqg|apply qqh|apply qqi)<;>intro h<;>try simp[h, *])
   |((with_reducible refine and_go ?_ fun hs=>?_);focus omega
     try simp[*])
   |((with_reducible first|apply qql|apply qqn|apply qqp|apply qqm|apply qqo|apply qqq);simp[*])
  refine Pwp.loopN (ι := Nat × List Node) (S := fun x => ⟨[.any, .ptr (0 :: A) 1 0 0, .ptr (1 :: A) 1 0 0, .ptr (8 :: A) 1 0 0, .any, .any, .any, .any, .any, .any, .any, .any, .any, .any, .any, .any, .any, nodesPv s.nodes, .int .i64 s.nodes.length, .int .i64 x.1, .any, .any, .any, .any, .any, .any, .any, .any, .any, .any, .any, .any, .any, .any, .any, .any, .any, .any, .any, .any, .any, .any, .any, .any, .any, .any, .any, .any, .any, .any, .any, .any, .any, .any, .any, .any, .any, .any, .any, .any, .any, .any], [(0 :: A, .row 7 [s.pv]), (1 :: A, .row 7 [.agg [.islice (some 0) [], .islice (some 0) [], .islice (some 0) [], .islice (some 0) [], .islice (some 0) [], .int .i64 0, .int .i64 0]]), (8 :: A, .row 7 [.agg [slotsPv s.graph.slots, kidsPv s.graph.kids, .slice (14 :: A) x.2.length, .slice (15 :: A) 0, .slice (16 :: A) 0, .int .i64 s.root.slot, .int .i64 s.root.gen]]), (14 :: A, .row 33 (x.2.map Node.pv)), (15 :: A, .row 3 ([])), (16 :: A, .row 3 ([]))], x.1 :: 17 :: A, 0⟩)
    (C := fun x => x.1 ≤ s.nodes.length ∧ Hid (x.2 = s.nodes.take x.1)) (μ := fun x => s.nodes.length - x.1) (0, []) ?_ ?_ ?_
  · refine PLe.tellInG [(12 :: 4 :: A, .row 1 (s.graph.kids.map handlesPv))] (by simp) ?_ ?_ ?_
    · repeat' first | exact Sub.nil _ | refine Sub.cons (by simp [St.find, *]) ?_
    · repeat' first | exact StLeG.nil | (apply StLeG.old; (focus (simp [St.find]; done)); (focus ((repeat' first | exact St.find_hd _ _ _ | (apply St.find_tl; (focus (first | assumption | (simp; done) | (simp [*]; done))))); done))) | (refine StLeG.new ?_ ?_ ?_ ?_; (focus (simp [St.find]; done)); (focus omega); (focus omega))
      all_goals first | exact ObLe.refl _ | (refine ObLe.of_eq ?_; simp [*]; done) | (refine ObLe.row _ _ _ (ELe.one ?_ ?_); (focus (simp; done)))
      all_goals repeat' first | exact VLeL.nil | refine VLeL.cons ?_ ?_
      all_goals first | exact VLe.refl _ | exact VLe.any _ | exact VLe.cap _ _ | (refine VLe.ghost1 ?_ ?_ <;> omega) | (apply VLe.row (h := ELe.refl _); (focus ((repeat' first | exact St.find_hd _ _ _ | (apply St.find_tl; (focus (first | assumption | (simp; done) | (simp [*]; done))))); done)); (simp [*]; done)) | (apply VLe.prow (h := ELe.refl _); (focus ((repeat' first | exact St.find_hd _ _ _ | (apply St.find_tl; (focus (first | assumption | (simp; done) | (simp [*]; done))))); done)); (simp; done)) | (refine VLe.of_eq ?_; simp [*]; done)
    · repeat' first | exact VLeL.nil | refine VLeL.cons ?_ ?_
      all_goals first | exact VLe.refl _ | exact VLe.any _ | exact VLe.cap _ _ | (refine VLe.ghost1 ?_ ?_ <;> omega) | (apply VLe.row (h := ELe.refl _); (focus ((repeat' first | exact St.find_hd _ _ _ | (apply St.find_tl; (focus (first | assumption | (simp; done) | (simp [*]; done))))); done)); (simp [*]; done)) | (apply VLe.prow (h := ELe.refl _); (focus ((repeat' first | exact St.find_hd _ _ _ | (apply St.find_tl; (focus (first | assumption | (simp; done) | (simp [*]; done))))); done)); (simp; done)) | (refine VLe.of_eq ?_; simp [*]; done)
  · exact ⟨by simp, ⟨by simp⟩⟩
  · rintro ⟨i, acc⟩ ⟨hi, ha⟩
    simp only at hi ha
    have hal : acc.length ≤ 1000000 := by rw [ha.of]; simp; omega
    by_cases hlt : i < s.nodes.length
    · have hx := hs.far _ (List.getElem_mem hlt)
      repeat' first
       |(with_reducible first|apply qa|apply qb|apply qc|apply qd|apply qe|apply qf|apply qg|apply qh|apply qi|apply qj|apply qk|apply ql|apply qm|apply qn|apply qo|apply qp|apply qq|refine blockP_ne (by decide) ?_)
       |((with_reducible refine Pwp.reg fun K hK=>?_);simp[hlt, wrap_succ i (by omega)])
       |((with_reducible refine Pwp.drawn (id := 1) follows_mixed [0, 1, 3, 0, 8, 31, 0, 127] [false, false, false, false, false, false, false, true] ?_ fun K hK => ?_); focus kernel_rfl
         simp [hlt, wrap_succ i (by omega)])
       |((with_reducible refine Pwp.drawn (id := 5) follows_mixed [0, 1, 0, 4, 12, 31, 63, 127] [false, false, false, false, false, true, false, true] ?_ fun K hK => ?_); focus kernel_rfl
         simp [hlt, wrap_succ i (by omega)])
       |((with_reducible refine Pwp.drawn (id := 10) follows_mixed [0, 1, 0, 4, 12, 31, 63, 127] [false, false, false, false, false, true, false, true] ?_ fun K hK => ?_); focus kernel_rfl
         simp [hlt, wrap_succ i (by omega)])
       |((with_reducible refine Pwp.drawn (id := 15) follows_mixed [0, 1, 0, 4, 12, 31, 63, 127] [false, false, false, false, false, true, false, true] ?_ fun K hK => ?_); focus kernel_rfl
         simp [hlt, wrap_succ i (by omega)])
       |((with_reducible refine Hid.go hK ?_);clear hK K)|((with_reducible apply Pwp.condG);rfl)|((with_reducible first|apply qqj|apply qqk);simp[hlt, wrap_succ i (by omega)];done)|((with_reducible first|apply qr|apply qs|apply qt|apply qu|apply qv|apply qw)<;>intro h)
       |((with_reducible first|apply qx|apply qy|apply qz|apply qqa|apply qqb|apply qqc|apply qqd|apply qqe|apply qqf|apply qqg|apply qqh|apply qqi)<;>intro h<;>try simp[h, hlt, wrap_succ i (by omega)])
       |((with_reducible refine and_go ?_ fun hs=>?_);focus omega
         try simp[hlt, wrap_succ i (by omega)])
       |((with_reducible first|apply qql|apply qqn|apply qqp|apply qqm|apply qqo|apply qqq);simp[hlt, wrap_succ i (by omega)])
      refine dcallk_pure (runs123 _ s.nodes[i] hx) ?_
      repeat' first
       |(with_reducible first|apply qa|apply qb|apply qc|apply qd|apply qe|apply qf|apply qg|apply qh|apply qi|apply qj|apply qk|apply ql|apply qm|apply qn|apply qo|apply qp|apply qq|refine blockP_ne (by decide) ?_)
       |((with_reducible refine Pwp.reg fun K hK=>?_);simp[hlt, wrap_succ i (by omega)])
       |((with_reducible refine Pwp.drawn (id := 1) follows_mixed [0, 1, 3, 0, 8, 31, 0, 127] [false, false, false, false, false, false, false, true] ?_ fun K hK => ?_); focus kernel_rfl
         simp [hlt, wrap_succ i (by omega)])
       |((with_reducible refine Pwp.drawn (id := 5) follows_mixed [0, 1, 0, 4, 12, 31, 63, 127] [false, false, false, false, false, true, false, true] ?_ fun K hK => ?_); focus kernel_rfl
         simp [hlt, wrap_succ i (by omega)])
       |((with_reducible refine Pwp.drawn (id := 10) follows_mixed [0, 1, 0, 4, 12, 31, 63, 127] [false, false, false, false, false, true, false, true] ?_ fun K hK => ?_); focus kernel_rfl
         simp [hlt, wrap_succ i (by omega)])
       |((with_reducible refine Pwp.drawn (id := 15) follows_mixed [0, 1, 0, 4, 12, 31, 63, 127] [false, false, false, false, false, true, false, true] ?_ fun K hK => ?_); focus kernel_rfl
         simp [hlt, wrap_succ i (by omega)])
       |((with_reducible refine Hid.go hK ?_);clear hK K)|((with_reducible apply Pwp.condG);rfl)|((with_reducible first|apply qqj|apply qqk);simp[hlt, wrap_succ i (by omega)];done)|((with_reducible first|apply qr|apply qs|apply qt|apply qu|apply qv|apply qw)<;>intro h)
       |((with_reducible first|apply qx|apply qy|apply qz|apply qqa|apply qqb|apply qqc|apply qqd|apply qqe|apply qqf|apply qqg|apply qqh|apply qqi)<;>intro h<;>try simp[h, hlt, wrap_succ i (by omega)])
       |((with_reducible refine and_go ?_ fun hs=>?_);focus omega
         try simp[hlt, wrap_succ i (by omega)])
       |((with_reducible first|apply qql|apply qqn|apply qqp|apply qqm|apply qqo|apply qqq);simp[hlt, wrap_succ i (by omega)])
      refine roundN_go (i + 1, acc ++ [s.nodes[i]]) ?_ ⟨hlt, ⟨by rw [List.take_succ_eq_append_getElem hlt, ha.of]⟩⟩ (by simp only; omega)
      refine PLe.tellNextG (pre := []) [] (by simp) ?_ ?_ ?_
      · repeat' first | exact Sub.nil _ | refine Sub.cons (by simp [St.find, *]) ?_
      · repeat' first | exact StLe.nil | (apply StLe.cons; (focus (first | (simp [St.find]; done) | (simp [St.find, *]; done))); (focus ((repeat' first | exact St.find_hd _ _ _ | (apply St.find_tl; (focus (first | assumption | (simp; done) | (simp [*]; done))))); done)))
        all_goals first | exact ObLe.refl _ | (refine ObLe.of_eq ?_; simp [*]; done) | (refine ObLe.row _ _ _ (ELe.one ?_ ?_); (focus (simp; done)))
        all_goals repeat' first | exact VLeL.nil | refine VLeL.cons ?_ ?_
        all_goals first | exact VLe.refl _ | exact VLe.any _ | exact VLe.cap _ _ | (refine VLe.ghost1 ?_ ?_ <;> omega) | (apply VLe.row (h := ELe.refl _); (focus ((repeat' first | exact St.find_hd _ _ _ | (apply St.find_tl; (focus (first | assumption | (simp; done) | (simp [*]; done))))); done)); (simp [*]; done)) | (apply VLe.prow (h := ELe.refl _); (focus ((repeat' first | exact St.find_hd _ _ _ | (apply St.find_tl; (focus (first | assumption | (simp; done) | (simp [*]; done))))); done)); (simp; done)) | (refine VLe.of_eq ?_; simp [*]; done)
      · repeat' first | exact VLeL.nil | refine VLeL.cons ?_ ?_
        all_goals first | exact VLe.refl _ | exact VLe.any _ | exact VLe.cap _ _ | (refine VLe.ghost1 ?_ ?_ <;> omega) | (apply VLe.row (h := ELe.refl _); (focus ((repeat' first | exact St.find_hd _ _ _ | (apply St.find_tl; (focus (first | assumption | (simp; done) | (simp [*]; done))))); done)); (simp [*]; done)) | (apply VLe.prow (h := ELe.refl _); (focus ((repeat' first | exact St.find_hd _ _ _ | (apply St.find_tl; (focus (first | assumption | (simp; done) | (simp [*]; done))))); done)); (simp; done)) | (refine VLe.of_eq ?_; simp [*]; done)
    · obtain rfl : acc = s.nodes := by rw [ha.of]; exact List.take_of_length_le (by omega)
      have hie : i = s.nodes.length := by omega
      subst hie
      clear ha
      repeat' first
       |(with_reducible first|apply qa|apply qb|apply qc|apply qd|apply qe|apply qf|apply qg|apply qh|apply qi|apply qj|apply qk|apply ql|apply qm|apply qn|apply qo|apply qp|apply qq|refine blockP_ne (by decide) ?_)
       |((with_reducible refine Pwp.reg fun K hK=>?_);simp[hlt])
       |((with_reducible refine Pwp.drawn (id := 1) follows_mixed [0, 1, 3, 0, 8, 31, 0, 127] [false, false, false, false, false, false, false, true] ?_ fun K hK => ?_); focus kernel_rfl
         simp [hlt])
       |((with_reducible refine Pwp.drawn (id := 5) follows_mixed [0, 1, 0, 4, 12, 31, 63, 127] [false, false, false, false, false, true, false, true] ?_ fun K hK => ?_); focus kernel_rfl
         simp [hlt])
       |((with_reducible refine Pwp.drawn (id := 10) follows_mixed [0, 1, 0, 4, 12, 31, 63, 127] [false, false, false, false, false, true, false, true] ?_ fun K hK => ?_); focus kernel_rfl
         simp [hlt])
       |((with_reducible refine Pwp.drawn (id := 15) follows_mixed [0, 1, 0, 4, 12, 31, 63, 127] [false, false, false, false, false, true, false, true] ?_ fun K hK => ?_); focus kernel_rfl
         simp [hlt])
       |((with_reducible refine Hid.go hK ?_);clear hK K)|((with_reducible apply Pwp.condG);rfl)|((with_reducible first|apply qqj|apply qqk);simp[hlt];done)|((with_reducible first|apply qr|apply qs|apply qt|apply qu|apply qv|apply qw)<;>intro h)
       |((with_reducible first|apply qx|apply qy|apply qz|apply qqa|apply qqb|apply qqc|apply qqd|apply qqe|apply qqf|apply qqg|apply qqh|apply qqi)<;>intro h<;>try simp[h, hlt])
       |((with_reducible refine and_go ?_ fun hs=>?_);focus omega
         try simp[hlt])
       |((with_reducible first|apply qql|apply qqn|apply qqp|apply qqm|apply qqo|apply qqq);simp[hlt])
      refine Pwp.loopN (ι := Nat × List Mesh) (S := fun x => ⟨[.any, .ptr (0 :: A) 1 0 0, .ptr (1 :: A) 1 0 0, .ptr (8 :: A) 1 0 0, .any, .any, .any, .any, .any, .any, .any, .any, .any, .any, .any, .any, .any, .any, .any, .any, .any, .any, .any, .any, .any, .any, .any, .any, .any, .any, .any, .any, meshesPv s.meshes, .int .i64 s.meshes.length, .int .i64 x.1, .any, .any, .any, .any, .any, .any, .any, .any, .any, .any, .any, .any, .any, .any, .any, .any, .any, .any, .any, .any, .any, .any, .any, .any, .any, .any, .any], [(0 :: A, .row 7 [s.pv]), (1 :: A, .row 7 [.agg [.islice (some 0) [], .islice (some 0) [], .islice (some 0) [], .islice (some 0) [], .islice (some 0) [], .int .i64 0, .int .i64 0]]), (8 :: A, .row 7 [.agg [slotsPv s.graph.slots, kidsPv s.graph.kids, .slice (14 :: A) s.nodes.length, .slice (15 :: A) x.2.length, .slice (16 :: A) 0, .int .i64 s.root.slot, .int .i64 s.root.gen]]), (14 :: A, .row 33 (s.nodes.map Node.pv)), (15 :: A, .row 3 (x.2.map Mesh.pv)), (16 :: A, .row 3 ([]))], x.1 :: 5 :: s.nodes.length :: 17 :: A, 0⟩)
        (C := fun x => x.1 ≤ s.meshes.length ∧ Hid (x.2 = s.meshes.take x.1)) (μ := fun x => s.meshes.length - x.1) (0, []) ?_ ?_ ?_
      · refine PLe.tellInG [] (by simp) ?_ ?_ ?_
        · repeat' first | exact Sub.nil _ | refine Sub.cons (by simp [St.find, *]) ?_
        · repeat' first | exact StLeG.nil | (apply StLeG.old; (focus (simp [St.find]; done)); (focus ((repeat' first | exact St.find_hd _ _ _ | (apply St.find_tl; (focus (first | assumption | (simp; done) | (simp [*]; done))))); done))) | (refine StLeG.new ?_ ?_ ?_ ?_; (focus (simp [St.find]; done)); (focus omega); (focus omega))
          all_goals first | exact ObLe.refl _ | (refine ObLe.of_eq ?_; simp [*]; done) | (refine ObLe.row _ _ _ (ELe.one ?_ ?_); (focus (simp; done)))
          all_goals repeat' first | exact VLeL.nil | refine VLeL.cons ?_ ?_
          all_goals first | exact VLe.refl _ | exact VLe.any _ | exact VLe.cap _ _ | (refine VLe.ghost1 ?_ ?_ <;> omega) | (apply VLe.row (h := ELe.refl _); (focus ((repeat' first | exact St.find_hd _ _ _ | (apply St.find_tl; (focus (first | assumption | (simp; done) | (simp [*]; done))))); done)); (simp [*]; done)) | (apply VLe.prow (h := ELe.refl _); (focus ((repeat' first | exact St.find_hd _ _ _ | (apply St.find_tl; (focus (first | assumption | (simp; done) | (simp [*]; done))))); done)); (simp; done)) | (refine VLe.of_eq ?_; simp [*]; done)
        · repeat' first | exact VLeL.nil | refine VLeL.cons ?_ ?_
          all_goals first | exact VLe.refl _ | exact VLe.any _ | exact VLe.cap _ _ | (refine VLe.ghost1 ?_ ?_ <;> omega) | (apply VLe.row (h := ELe.refl _); (focus ((repeat' first | exact St.find_hd _ _ _ | (apply St.find_tl; (focus (first | assumption | (simp; done) | (simp [*]; done))))); done)); (simp [*]; done)) | (apply VLe.prow (h := ELe.refl _); (focus ((repeat' first | exact St.find_hd _ _ _ | (apply St.find_tl; (focus (first | assumption | (simp; done) | (simp [*]; done))))); done)); (simp; done)) | (refine VLe.of_eq ?_; simp [*]; done)
      · exact ⟨by simp, ⟨by simp⟩⟩
      · rintro ⟨i, acc⟩ ⟨hi, ha⟩
        simp only at hi ha
        have hal : acc.length ≤ 1000000 := by rw [ha.of]; simp; omega
        by_cases hlt : i < s.meshes.length
        · have hx := hs.mesh _ (List.getElem_mem hlt)
          repeat' first
           |(with_reducible first|apply qa|apply qb|apply qc|apply qd|apply qe|apply qf|apply qg|apply qh|apply qi|apply qj|apply qk|apply ql|apply qm|apply qn|apply qo|apply qp|apply qq|refine blockP_ne (by decide) ?_)
           |((with_reducible refine Pwp.reg fun K hK=>?_);simp[hlt, wrap_succ i (by omega)])
           |((with_reducible refine Pwp.drawn (id := 1) follows_mixed [0, 1, 3, 0, 8, 31, 0, 127] [false, false, false, false, false, false, false, true] ?_ fun K hK => ?_); focus kernel_rfl
             simp [hlt, wrap_succ i (by omega)])
           |((with_reducible refine Pwp.drawn (id := 5) follows_mixed [0, 1, 0, 4, 12, 31, 63, 127] [false, false, false, false, false, true, false, true] ?_ fun K hK => ?_); focus kernel_rfl
             simp [hlt, wrap_succ i (by omega)])
           |((with_reducible refine Pwp.drawn (id := 10) follows_mixed [0, 1, 0, 4, 12, 31, 63, 127] [false, false, false, false, false, true, false, true] ?_ fun K hK => ?_); focus kernel_rfl
             simp [hlt, wrap_succ i (by omega)])
           |((with_reducible refine Pwp.drawn (id := 15) follows_mixed [0, 1, 0, 4, 12, 31, 63, 127] [false, false, false, false, false, true, false, true] ?_ fun K hK => ?_); focus kernel_rfl
             simp [hlt, wrap_succ i (by omega)])
           |((with_reducible refine Hid.go hK ?_);clear hK K)|((with_reducible apply Pwp.condG);rfl)|((with_reducible first|apply qqj|apply qqk);simp[hlt, wrap_succ i (by omega)];done)|((with_reducible first|apply qr|apply qs|apply qt|apply qu|apply qv|apply qw)<;>intro h)
           |((with_reducible first|apply qx|apply qy|apply qz|apply qqa|apply qqb|apply qqc|apply qqd|apply qqe|apply qqf|apply qqg|apply qqh|apply qqi)<;>intro h<;>try simp[h, hlt, wrap_succ i (by omega)])
           |((with_reducible refine and_go ?_ fun hs=>?_);focus omega
             try simp[hlt, wrap_succ i (by omega)])
           |((with_reducible first|apply qql|apply qqn|apply qqp|apply qqm|apply qqo|apply qqq);simp[hlt, wrap_succ i (by omega)])
          refine dcallk_pure (runs124 _ s.meshes[i] hx.verts hx.uv hx.prims hx.index) ?_
          repeat' first
           |(with_reducible first|apply qa|apply qb|apply qc|apply qd|apply qe|apply qf|apply qg|apply qh|apply qi|apply qj|apply qk|apply ql|apply qm|apply qn|apply qo|apply qp|apply qq|refine blockP_ne (by decide) ?_)
           |((with_reducible refine Pwp.reg fun K hK=>?_);simp[hlt, wrap_succ i (by omega)])
           |((with_reducible refine Pwp.drawn (id := 1) follows_mixed [0, 1, 3, 0, 8, 31, 0, 127] [false, false, false, false, false, false, false, true] ?_ fun K hK => ?_); focus kernel_rfl
             simp [hlt, wrap_succ i (by omega)])
           |((with_reducible refine Pwp.drawn (id := 5) follows_mixed [0, 1, 0, 4, 12, 31, 63, 127] [false, false, false, false, false, true, false, true] ?_ fun K hK => ?_); focus kernel_rfl
             simp [hlt, wrap_succ i (by omega)])
           |((with_reducible refine Pwp.drawn (id := 10) follows_mixed [0, 1, 0, 4, 12, 31, 63, 127] [false, false, false, false, false, true, false, true] ?_ fun K hK => ?_); focus kernel_rfl
             simp [hlt, wrap_succ i (by omega)])
           |((with_reducible refine Pwp.drawn (id := 15) follows_mixed [0, 1, 0, 4, 12, 31, 63, 127] [false, false, false, false, false, true, false, true] ?_ fun K hK => ?_); focus kernel_rfl
             simp [hlt, wrap_succ i (by omega)])
           |((with_reducible refine Hid.go hK ?_);clear hK K)|((with_reducible apply Pwp.condG);rfl)|((with_reducible first|apply qqj|apply qqk);simp[hlt, wrap_succ i (by omega)];done)|((with_reducible first|apply qr|apply qs|apply qt|apply qu|apply qv|apply qw)<;>intro h)
           |((with_reducible first|apply qx|apply qy|apply qz|apply qqa|apply qqb|apply qqc|apply qqd|apply qqe|apply qqf|apply qqg|apply qqh|apply qqi)<;>intro h<;>try simp[h, hlt, wrap_succ i (by omega)])
           |((with_reducible refine and_go ?_ fun hs=>?_);focus omega
             try simp[hlt, wrap_succ i (by omega)])
           |((with_reducible first|apply qql|apply qqn|apply qqp|apply qqm|apply qqo|apply qqq);simp[hlt, wrap_succ i (by omega)])
          refine roundN_go (i + 1, acc ++ [s.meshes[i]]) ?_ ⟨hlt, ⟨by rw [List.take_succ_eq_append_getElem hlt, ha.of]⟩⟩ (by simp only; omega)
          refine PLe.tellNextG (pre := []) [] (by simp) ?_ ?_ ?_
          · repeat' first | exact Sub.nil _ | refine Sub.cons (by simp [St.find, *]) ?_
          · repeat' first | exact StLe.nil | (apply StLe.cons; (focus (first | (simp [St.find]; done) | (simp [St.find, *]; done))); (focus ((repeat' first | exact St.find_hd _ _ _ | (apply St.find_tl; (focus (first | assumption | (simp; done) | (simp [*]; done))))); done)))
            all_goals first | exact ObLe.refl _ | (refine ObLe.of_eq ?_; simp [*]; done) | (refine ObLe.row _ _ _ (ELe.one ?_ ?_); (focus (simp; done)))
            all_goals repeat' first | exact VLeL.nil | refine VLeL.cons ?_ ?_
            all_goals first | exact VLe.refl _ | exact VLe.any _ | exact VLe.cap _ _ | (refine VLe.ghost1 ?_ ?_ <;> omega) | (apply VLe.row (h := ELe.refl _); (focus ((repeat' first | exact St.find_hd _ _ _ | (apply St.find_tl; (focus (first | assumption | (simp; done) | (simp [*]; done))))); done)); (simp [*]; done)) | (apply VLe.prow (h := ELe.refl _); (focus ((repeat' first | exact St.find_hd _ _ _ | (apply St.find_tl; (focus (first | assumption | (simp; done) | (simp [*]; done))))); done)); (simp; done)) | (refine VLe.of_eq ?_; simp [*]; done)
          · repeat' first | exact VLeL.nil | refine VLeL.cons ?_ ?_
            all_goals first | exact VLe.refl _ | exact VLe.any _ | exact VLe.cap _ _ | (refine VLe.ghost1 ?_ ?_ <;> omega) | (apply VLe.row (h := ELe.refl _); (focus ((repeat' first | exact St.find_hd _ _ _ | (apply St.find_tl; (focus (first | assumption | (simp; done) | (simp [*]; done))))); done)); (simp [*]; done)) | (apply VLe.prow (h := ELe.refl _); (focus ((repeat' first | exact St.find_hd _ _ _ | (apply St.find_tl; (focus (first | assumption | (simp; done) | (simp [*]; done))))); done)); (simp; done)) | (refine VLe.of_eq ?_; simp [*]; done)
        · obtain rfl : acc = s.meshes := by rw [ha.of]; exact List.take_of_length_le (by omega)
          have hie : i = s.meshes.length := by omega
          subst hie
          clear ha
          repeat' first
           |(with_reducible first|apply qa|apply qb|apply qc|apply qd|apply qe|apply qf|apply qg|apply qh|apply qi|apply qj|apply qk|apply ql|apply qm|apply qn|apply qo|apply qp|apply qq|refine blockP_ne (by decide) ?_)
           |((with_reducible refine Pwp.reg fun K hK=>?_);simp[hlt])
           |((with_reducible refine Pwp.drawn (id := 1) follows_mixed [0, 1, 3, 0, 8, 31, 0, 127] [false, false, false, false, false, false, false, true] ?_ fun K hK => ?_); focus kernel_rfl
             simp [hlt])
           |((with_reducible refine Pwp.drawn (id := 5) follows_mixed [0, 1, 0, 4, 12, 31, 63, 127] [false, false, false, false, false, true, false, true] ?_ fun K hK => ?_); focus kernel_rfl
             simp [hlt])
           |((with_reducible refine Pwp.drawn (id := 10) follows_mixed [0, 1, 0, 4, 12, 31, 63, 127] [false, false, false, false, false, true, false, true] ?_ fun K hK => ?_); focus kernel_rfl
             simp [hlt])
           |((with_reducible refine Pwp.drawn (id := 15) follows_mixed [0, 1, 0, 4, 12, 31, 63, 127] [false, false, false, false, false, true, false, true] ?_ fun K hK => ?_); focus kernel_rfl
             simp [hlt])
           |((with_reducible refine Hid.go hK ?_);clear hK K)|((with_reducible apply Pwp.condG);rfl)|((with_reducible first|apply qqj|apply qqk);simp[hlt];done)|((with_reducible first|apply qr|apply qs|apply qt|apply qu|apply qv|apply qw)<;>intro h)
           |((with_reducible first|apply qx|apply qy|apply qz|apply qqa|apply qqb|apply qqc|apply qqd|apply qqe|apply qqf|apply qqg|apply qqh|apply qqi)<;>intro h<;>try simp[h, hlt])
           |((with_reducible refine and_go ?_ fun hs=>?_);focus omega
             try simp[hlt])
           |((with_reducible first|apply qql|apply qqn|apply qqp|apply qqm|apply qqo|apply qqq);simp[hlt])
          refine Pwp.loopN (ι := Nat × List Texture) (S := fun x => ⟨[.any, .ptr (0 :: A) 1 0 0, .ptr (1 :: A) 1 0 0, .ptr (8 :: A) 1 0 0, .any, .any, .any, .any, .any, .any, .any, .any, .any, .any, .any, .any, .any, .any, .any, .any, .any, .any, .any, .any, .any, .any, .any, .any, .any, .any, .any, .any, .any, .any, .any, .any, .any, .any, .any, .any, .any, .any, .any, .any, .any, .any, .any, texturesPv s.textures, .int .i64 s.textures.length, .int .i64 x.1, .any, .any, .any, .any, .any, .any, .any, .any, .any, .any, .any, .any], [(0 :: A, .row 7 [s.pv]), (1 :: A, .row 7 [.agg [.islice (some 0) [], .islice (some 0) [], .islice (some 0) [], .islice (some 0) [], .islice (some 0) [], .int .i64 0, .int .i64 0]]), (8 :: A, .row 7 [.agg [slotsPv s.graph.slots, kidsPv s.graph.kids, .slice (14 :: A) s.nodes.length, .slice (15 :: A) s.meshes.length, .slice (16 :: A) x.2.length, .int .i64 s.root.slot, .int .i64 s.root.gen]]), (14 :: A, .row 33 (s.nodes.map Node.pv)), (15 :: A, .row 3 (s.meshes.map Mesh.pv)), (16 :: A, .row 3 (x.2.map Texture.pv))], x.1 :: 5 :: s.meshes.length :: 5 :: s.nodes.length :: 17 :: A, 0⟩)
            (C := fun x => x.1 ≤ s.textures.length ∧ Hid (x.2 = s.textures.take x.1)) (μ := fun x => s.textures.length - x.1) (0, []) ?_ ?_ ?_
          · refine PLe.tellInG [] (by simp) ?_ ?_ ?_
            · repeat' first | exact Sub.nil _ | refine Sub.cons (by simp [St.find, *]) ?_
            · repeat' first | exact StLeG.nil | (apply StLeG.old; (focus (simp [St.find]; done)); (focus ((repeat' first | exact St.find_hd _ _ _ | (apply St.find_tl; (focus (first | assumption | (simp; done) | (simp [*]; done))))); done))) | (refine StLeG.new ?_ ?_ ?_ ?_; (focus (simp [St.find]; done)); (focus omega); (focus omega))
              all_goals first | exact ObLe.refl _ | (refine ObLe.of_eq ?_; simp [*]; done) | (refine ObLe.row _ _ _ (ELe.one ?_ ?_); (focus (simp; done)))
              all_goals repeat' first | exact VLeL.nil | refine VLeL.cons ?_ ?_
              all_goals first | exact VLe.refl _ | exact VLe.any _ | exact VLe.cap _ _ | (refine VLe.ghost1 ?_ ?_ <;> omega) | (apply VLe.row (h := ELe.refl _); (focus ((repeat' first | exact St.find_hd _ _ _ | (apply St.find_tl; (focus (first | assumption | (simp; done) | (simp [*]; done))))); done)); (simp [*]; done)) | (apply VLe.prow (h := ELe.refl _); (focus ((repeat' first | exact St.find_hd _ _ _ | (apply St.find_tl; (focus (first | assumption | (simp; done) | (simp [*]; done))))); done)); (simp; done)) | (refine VLe.of_eq ?_; simp [*]; done)
            · repeat' first | exact VLeL.nil | refine VLeL.cons ?_ ?_
              all_goals first | exact VLe.refl _ | exact VLe.any _ | exact VLe.cap _ _ | (refine VLe.ghost1 ?_ ?_ <;> omega) | (apply VLe.row (h := ELe.refl _); (focus ((repeat' first | exact St.find_hd _ _ _ | (apply St.find_tl; (focus (first | assumption | (simp; done) | (simp [*]; done))))); done)); (simp [*]; done)) | (apply VLe.prow (h := ELe.refl _); (focus ((repeat' first | exact St.find_hd _ _ _ | (apply St.find_tl; (focus (first | assumption | (simp; done) | (simp [*]; done))))); done)); (simp; done)) | (refine VLe.of_eq ?_; simp [*]; done)
          · exact ⟨by simp, ⟨by simp⟩⟩
          · rintro ⟨i, acc⟩ ⟨hi, ha⟩
            simp only at hi ha
            have hal : acc.length ≤ 1000000 := by rw [ha.of]; simp; omega
            by_cases hlt : i < s.textures.length
            · have hx := hs.texels _ (List.getElem_mem hlt)
              repeat' first
               |(with_reducible first|apply qa|apply qb|apply qc|apply qd|apply qe|apply qf|apply qg|apply qh|apply qi|apply qj|apply qk|apply ql|apply qm|apply qn|apply qo|apply qp|apply qq|refine blockP_ne (by decide) ?_)
               |((with_reducible refine Pwp.reg fun K hK=>?_);simp[hlt, wrap_succ i (by omega)])
               |((with_reducible refine Pwp.drawn (id := 1) follows_mixed [0, 1, 3, 0, 8, 31, 0, 127] [false, false, false, false, false, false, false, true] ?_ fun K hK => ?_); focus kernel_rfl
                 simp [hlt, wrap_succ i (by omega)])
               |((with_reducible refine Pwp.drawn (id := 5) follows_mixed [0, 1, 0, 4, 12, 31, 63, 127] [false, false, false, false, false, true, false, true] ?_ fun K hK => ?_); focus kernel_rfl
                 simp [hlt, wrap_succ i (by omega)])
               |((with_reducible refine Pwp.drawn (id := 10) follows_mixed [0, 1, 0, 4, 12, 31, 63, 127] [false, false, false, false, false, true, false, true] ?_ fun K hK => ?_); focus kernel_rfl
                 simp [hlt, wrap_succ i (by omega)])
               |((with_reducible refine Pwp.drawn (id := 15) follows_mixed [0, 1, 0, 4, 12, 31, 63, 127] [false, false, false, false, false, true, false, true] ?_ fun K hK => ?_); focus kernel_rfl
                 simp [hlt, wrap_succ i (by omega)])
               |((with_reducible refine Hid.go hK ?_);clear hK K)|((with_reducible apply Pwp.condG);rfl)|((with_reducible first|apply qqj|apply qqk);simp[hlt, wrap_succ i (by omega)];done)|((with_reducible first|apply qr|apply qs|apply qt|apply qu|apply qv|apply qw)<;>intro h)
               |((with_reducible first|apply qx|apply qy|apply qz|apply qqa|apply qqb|apply qqc|apply qqd|apply qqe|apply qqf|apply qqg|apply qqh|apply qqi)<;>intro h<;>try simp[h, hlt, wrap_succ i (by omega)])
               |((with_reducible refine and_go ?_ fun hs=>?_);focus omega
                 try simp[hlt, wrap_succ i (by omega)])
               |((with_reducible first|apply qql|apply qqn|apply qqp|apply qqm|apply qqo|apply qqq);simp[hlt, wrap_succ i (by omega)])
              refine dcallk_pure (runs125 _ s.textures[i] hx) ?_
              repeat' first
               |(with_reducible first|apply qa|apply qb|apply qc|apply qd|apply qe|apply qf|apply qg|apply qh|apply qi|apply qj|apply qk|apply ql|apply qm|apply qn|apply qo|apply qp|apply qq|refine blockP_ne (by decide) ?_)
               |((with_reducible refine Pwp.reg fun K hK=>?_);simp[hlt, wrap_succ i (by omega)])
               |((with_reducible refine Pwp.drawn (id := 1) follows_mixed [0, 1, 3, 0, 8, 31, 0, 127] [false, false, false, false, false, false, false, true] ?_ fun K hK => ?_); focus kernel_rfl
                 simp [hlt, wrap_succ i (by omega)])
               |((with_reducible refine Pwp.drawn (id := 5) follows_mixed [0, 1, 0, 4, 12, 31, 63, 127] [false, false, false, false, false, true, false, true] ?_ fun K hK => ?_); focus kernel_rfl
                 simp [hlt, wrap_succ i (by omega)])
               |((with_reducible refine Pwp.drawn (id := 10) follows_mixed [0, 1, 0, 4, 12, 31, 63, 127] [false, false, false, false, false, true, false, true] ?_ fun K hK => ?_); focus kernel_rfl
                 simp [hlt, wrap_succ i (by omega)])
               |((with_reducible refine Pwp.drawn (id := 15) follows_mixed [0, 1, 0, 4, 12, 31, 63, 127] [false, false, false, false, false, true, false, true] ?_ fun K hK => ?_); focus kernel_rfl
                 simp [hlt, wrap_succ i (by omega)])
               |((with_reducible refine Hid.go hK ?_);clear hK K)|((with_reducible apply Pwp.condG);rfl)|((with_reducible first|apply qqj|apply qqk);simp[hlt, wrap_succ i (by omega)];done)|((with_reducible first|apply qr|apply qs|apply qt|apply qu|apply qv|apply qw)<;>intro h)
               |((with_reducible first|apply qx|apply qy|apply qz|apply qqa|apply qqb|apply qqc|apply qqd|apply qqe|apply qqf|apply qqg|apply qqh|apply qqi)<;>intro h<;>try simp[h, hlt, wrap_succ i (by omega)])
               |((with_reducible refine and_go ?_ fun hs=>?_);focus omega
                 try simp[hlt, wrap_succ i (by omega)])
               |((with_reducible first|apply qql|apply qqn|apply qqp|apply qqm|apply qqo|apply qqq);simp[hlt, wrap_succ i (by omega)])
              refine roundN_go (i + 1, acc ++ [s.textures[i]]) ?_ ⟨hlt, ⟨by rw [List.take_succ_eq_append_getElem hlt, ha.of]⟩⟩ (by simp only; omega)
              refine PLe.tellNextG (pre := []) [] (by simp) ?_ ?_ ?_
              · repeat' first | exact Sub.nil _ | refine Sub.cons (by simp [St.find, *]) ?_
              · repeat' first | exact StLe.nil | (apply StLe.cons; (focus (first | (simp [St.find]; done) | (simp [St.find, *]; done))); (focus ((repeat' first | exact St.find_hd _ _ _ | (apply St.find_tl; (focus (first | assumption | (simp; done) | (simp [*]; done))))); done)))
                all_goals first | exact ObLe.refl _ | (refine ObLe.of_eq ?_; simp [*]; done) | (refine ObLe.row _ _ _ (ELe.one ?_ ?_); (focus (simp; done)))
                all_goals repeat' first | exact VLeL.nil | refine VLeL.cons ?_ ?_
                all_goals first | exact VLe.refl _ | exact VLe.any _ | exact VLe.cap _ _ | (refine VLe.ghost1 ?_ ?_ <;> omega) | (apply VLe.row (h := ELe.refl _); (focus ((repeat' first | exact St.find_hd _ _ _ | (apply St.find_tl; (focus (first | assumption | (simp; done) | (simp [*]; done))))); done)); (simp [*]; done)) | (apply VLe.prow (h := ELe.refl _); (focus ((repeat' first | exact St.find_hd _ _ _ | (apply St.find_tl; (focus (first | assumption | (simp; done) | (simp [*]; done))))); done)); (simp; done)) | (refine VLe.of_eq ?_; simp [*]; done)
              · repeat' first | exact VLeL.nil | refine VLeL.cons ?_ ?_
                all_goals first | exact VLe.refl _ | exact VLe.any _ | exact VLe.cap _ _ | (refine VLe.ghost1 ?_ ?_ <;> omega) | (apply VLe.row (h := ELe.refl _); (focus ((repeat' first | exact St.find_hd _ _ _ | (apply St.find_tl; (focus (first | assumption | (simp; done) | (simp [*]; done))))); done)); (simp [*]; done)) | (apply VLe.prow (h := ELe.refl _); (focus ((repeat' first | exact St.find_hd _ _ _ | (apply St.find_tl; (focus (first | assumption | (simp; done) | (simp [*]; done))))); done)); (simp; done)) | (refine VLe.of_eq ?_; simp [*]; done)
            · obtain rfl : acc = s.textures := by rw [ha.of]; exact List.take_of_length_le (by omega)
              have hie : i = s.textures.length := by omega
              subst hie
              clear ha
              repeat' first
               |(with_reducible first|apply qa|apply qb|apply qc|apply qd|apply qe|apply qf|apply qg|apply qh|apply qi|apply qj|apply qk|apply ql|apply qm|apply qn|apply qo|apply qp|apply qq|refine blockP_ne (by decide) ?_)
               |((with_reducible refine Pwp.reg fun K hK=>?_);simp[hlt])
               |((with_reducible refine Pwp.drawn (id := 1) follows_mixed [0, 1, 3, 0, 8, 31, 0, 127] [false, false, false, false, false, false, false, true] ?_ fun K hK => ?_); focus kernel_rfl
                 simp [hlt])
               |((with_reducible refine Pwp.drawn (id := 5) follows_mixed [0, 1, 0, 4, 12, 31, 63, 127] [false, false, false, false, false, true, false, true] ?_ fun K hK => ?_); focus kernel_rfl
                 simp [hlt])
               |((with_reducible refine Pwp.drawn (id := 10) follows_mixed [0, 1, 0, 4, 12, 31, 63, 127] [false, false, false, false, false, true, false, true] ?_ fun K hK => ?_); focus kernel_rfl
                 simp [hlt])
               |((with_reducible refine Pwp.drawn (id := 15) follows_mixed [0, 1, 0, 4, 12, 31, 63, 127] [false, false, false, false, false, true, false, true] ?_ fun K hK => ?_); focus kernel_rfl
                 simp [hlt])
               |((with_reducible refine Hid.go hK ?_);clear hK K)|((with_reducible apply Pwp.condG);rfl)|((with_reducible first|apply qqj|apply qqk);simp[hlt];done)|((with_reducible first|apply qr|apply qs|apply qt|apply qu|apply qv|apply qw)<;>intro h)
               |((with_reducible first|apply qx|apply qy|apply qz|apply qqa|apply qqb|apply qqc|apply qqd|apply qqe|apply qqf|apply qqg|apply qqh|apply qqi)<;>intro h<;>try simp[h, hlt])
               |((with_reducible refine and_go ?_ fun hs=>?_);focus omega
                 try simp[hlt])
               |((with_reducible first|apply qql|apply qqn|apply qqp|apply qqm|apply qqo|apply qqq);simp[hlt])
              refine endP_mem (by first | exact .inl rfl | exact .inr rfl) [] [(1 :: A, .row 7 [.agg [slotsPv s.graph.slots, kidsPv s.graph.kids, .slice (14 :: A) s.nodes.length, .slice (15 :: A) s.meshes.length, .slice (16 :: A) s.textures.length, .int .i64 s.root.slot, .int .i64 s.root.gen]]), (14 :: A, .row 33 (s.nodes.map Node.pv)), (15 :: A, .row 3 (s.meshes.map Mesh.pv)), (16 :: A, .row 3 (s.textures.map Texture.pv))] ?_ ?_ ?_ ?_
              · repeat' first | exact Sub.nil _ | refine Sub.cons (by simp [St.find]) ?_
              · repeat' first | exact StLe.nil | (apply StLe.cons; (focus (simp [St.find]; done)))
                all_goals try ((((repeat' first | exact St.find_hd _ _ _ | (apply St.find_tl; (focus (first | assumption | (simp; done) | (simp [*]; done))))); done)); done)
                all_goals first | exact ObLe.refl _ | (refine ObLe.of_eq ?_; simp [*]; done) | (refine ObLe.row _ _ _ (ELe.one ?_ ?_); (focus (simp; done)))
                all_goals repeat' first | exact VLeL.nil | refine VLeL.cons ?_ ?_
                all_goals first | exact VLe.refl _ | exact VLe.cap _ _ | exact VLe.any _ | (apply VLe.row (h := ELe.refl _); (focus (((repeat' first | exact St.find_hd _ _ _ | (apply St.find_tl; (focus (first | assumption | (simp; done) | (simp [*]; done))))); done))); (simp [*]; done)) | (refine VLe.of_eq ?_; simp [*]; done)
              · simp [*]
              · repeat' first | exact Sub.nil _ | refine Sub.cons (by simp [St.find]) ?_
end Go.Pv

set_option linter.unusedVariables false
set_option linter.unusedSimpArgs false
set_option maxRecDepth 100000
namespace Go.Pv
open Go Go.Proofs

@[simp] theorem fl5 : flatT Tryz.prog 5 = some [.i] := by kernel_rfl
@[simp] theorem ag5 : aggOf Tryz.prog 5 = false := by kernel_rfl

def editEnts : List (PV × PV) := [(.int .u8 1, .func (.func 114) [] []), (.int .u8 2, .func (.func 115) [] []), (.int .u8 3, .func (.func 116) [] []), (.int .u8 4, .func (.func 117) [] []), (.int .u8 5, .func (.func 118) [] []), (.int .u8 6, .func (.func 119) [] []), (.int .u8 7, .func (.func 120) [] []), (.int .u8 8, .func (.func 121) [] [])]

theorem ent53 : enters Tryz.prog 53 = true := by kernel_rfl
theorem runs53 (A : Key) : Runs Tryz.prog A 53 [] [] (.map (1 :: A)) [(1 :: A, some (.mp editEnts))] := by
  refine Runs.body (rs := [.tmp 0]) ent53 Tryz.func53 rfl Tryz.ntmps53 rfl (by simp) ?_
  repeat' first
   |(with_reducible first|apply qa|apply qb|apply qc|apply qd|apply qe|apply qf|apply qg|apply qh|apply qi|apply qj|apply qk|apply ql|apply qm|apply qn|apply qo|apply qp|apply qq|refine blockP_ne (by decide) ?_)
   |((with_reducible refine Pwp.reg fun K hK=>?_);simp[pfind, pEqT])
   |((with_reducible refine Hid.go hK ?_);clear hK K)|((with_reducible apply Pwp.condG);rfl)|((with_reducible first|apply qqj|apply qqk);simp[pfind, pEqT];done)|((with_reducible first|apply qr|apply qs|apply qt|apply qu|apply qv|apply qw)<;>intro h)
   |((with_reducible first|apply qx|apply qy|apply qz|apply qqa|apply qqb|apply qqc)<;>intro h<;>try simp[h, pfind, pEqT])
   |((with_reducible refine and_go ?_ fun hs=>?_);focus omega
     try simp[pfind, pEqT])
   |((with_reducible first|apply qql|apply qqn|apply qqp);simp[pfind, pEqT])
  refine endP_ret PLe.refl (by simp) (Sub.cons (by simp [St.find, editEnts]) (Sub.nil _))

theorem ent210 : enters Tryz.prog 210 = true := by kernel_rfl
theorem runs210 (A kx : Key) (g : Graph) (e : Int) (c0 c1 c2 c3 c4 c5 c6 : PV) : Runs Tryz.prog A 210 [.ptr kx 1 0 0, g.pv, .int .i64 e] [(kx, .row 7 [.agg [c0, c1, c2, c3, c4, c5, c6]])] (.int .i64 e) [(kx, some (.row 7 [.agg (if e = 0 then g.cs ++ [c2, c3, c4, c5, c6] else [c0, c1, c2, c3, c4, c5, c6])]))] := by
  refine Runs.fresh ent210 (fun x hx => by rw [List.mem_singleton.1 hx]; exact .inr ⟨_, St.find_hd _ _ _⟩) fun hfr => ?_
  have m1 := fresh1 (hfr kx _ (St.find_hd _ _ _))
  have m2 := fresh1' (hfr kx _ (St.find_hd _ _ _))
  clear hfr
  refine Runs.body (rs := [.tmp 6]) ent210 Tryz.func210 rfl Tryz.ntmps210 rfl (fun x hx => by rw [List.mem_singleton.1 hx]; exact .inr ⟨_, St.find_hd _ _ _⟩) ?_
  by_cases he : e = 0
  · repeat' first
     |(with_reducible first|apply qa|apply qb|apply qc|apply qd|apply qe|apply qf|apply qg|apply qh|apply qi|apply qj|apply qk|apply ql|apply qm|apply qn|apply qo|apply qp|apply qq|refine blockP_ne (by decide) ?_)
     |((with_reducible refine Pwp.reg fun K hK=>?_);simp[he, m1, m2])
     |((with_reducible refine Hid.go hK ?_);clear hK K)|((with_reducible apply Pwp.condG);rfl)|((with_reducible first|apply qqj|apply qqk);simp[he, m1, m2];done)|((with_reducible first|apply qr|apply qs|apply qt|apply qu|apply qv|apply qw)<;>intro h)
     |((with_reducible first|apply qx|apply qy|apply qz|apply qqa|apply qqb|apply qqc)<;>intro h<;>try simp[h, he, m1, m2])
     |((with_reducible refine and_go ?_ fun hs=>?_);focus omega
       try simp[he, m1, m2])
     |((with_reducible first|apply qql|apply qqn|apply qqp);simp[he, m1, m2])
    refine endP_ret PLe.refl (by simp [he]) ?_
    refine Sub.upd1 ?_
    simp [St.find, he, m1, m2]
  · repeat' first
     |(with_reducible first|apply qa|apply qb|apply qc|apply qd|apply qe|apply qf|apply qg|apply qh|apply qi|apply qj|apply qk|apply ql|apply qm|apply qn|apply qo|apply qp|apply qq|refine blockP_ne (by decide) ?_)
     |((with_reducible refine Pwp.reg fun K hK=>?_);simp[he, m1, m2])
     |((with_reducible refine Hid.go hK ?_);clear hK K)|((with_reducible apply Pwp.condG);rfl)|((with_reducible first|apply qqj|apply qqk);simp[he, m1, m2];done)|((with_reducible first|apply qr|apply qs|apply qt|apply qu|apply qv|apply qw)<;>intro h)
     |((with_reducible first|apply qx|apply qy|apply qz|apply qqa|apply qqb|apply qqc)<;>intro h<;>try simp[h, he, m1, m2])
     |((with_reducible refine and_go ?_ fun hs=>?_);focus omega
       try simp[he, m1, m2])
     |((with_reducible first|apply qql|apply qqn|apply qqp);simp[he, m1, m2])
    refine endP_ret PLe.refl (by simp [he]) ?_
    refine Sub.upd1 ?_
    simp [St.find, he, m1, m2]
end Go.Pv

set_option linter.unusedVariables false
set_option linter.unusedSimpArgs false
set_option maxRecDepth 100000
namespace Go.Pv
open Go Go.Proofs

theorem zeroE {fs : St} {gs : Key → Prop} : ELe fs gs [zeroNodeV] [zeroN.pv] := by
  refine ELe.one rfl ?_
  repeat' first | exact VLeL.nil | refine VLeL.cons ?_ ?_
  all_goals first | exact VLe.refl _ | exact VLe.cap _ _

theorem sceneV_le (C : Key) (s : Scene) : VLe [(14 :: C, .row 33 (s.nodes.map Node.pv)), (15 :: C, .row 3 (s.meshes.map Mesh.pv)), (16 :: C, .row 3 (s.textures.map Texture.pv))] (fun _ => False) (sceneV (14 :: C) (15 :: C) (16 :: C) s) s.pv := by
  refine VLe.aggL ?_
  repeat' first | exact VLeL.nil | refine VLeL.cons ?_ ?_
  all_goals first | exact VLe.refl _ | (refine VLe.row (sz := 33) ?_ ?_ (ELe.refl _) <;> simp [St.find]; done) | (refine VLe.row (sz := 3) ?_ ?_ (ELe.refl _) <;> simp [St.find]; done)

def sceneMake (s : Scene) (n : Node) : Scene × Handle × Int :=
  if nodeOk s.meshes.length s.textures.length n = true then
    if (nodesMake s.graph).2.2 = 0 then
      ({ s with graph := (nodesMake s.graph).1, nodes := (s.nodes ++ List.replicate ((nodesMake s.graph).1.kids.length - s.nodes.length) zeroN).set (nodesMake s.graph).2.1.slot.toNat n }, (nodesMake s.graph).2.1, 0)
    else (s, ⟨0, 0⟩, (nodesMake s.graph).2.2)
  else (s, ⟨0, 0⟩, 8)

theorem nodeOk_far {nm nt : Nat} {n : Node} (h : nodeOk nm nt n = true) : n.far.length ≤ 1000000 := by
  simp only [nodeOk, Bool.and_eq_true, decide_eq_true_eq] at h
  obtain ⟨h1, h2, _⟩ := h
  by_cases k : n.kind = 4
  · simp [plainOk, k, farOk] at h1
    omega
  · have e : (plainN n).far = n.far := by rw [h2]
    simp [plainN, k] at e
    rw [e]; simp

theorem arenaMake_slot {l : List Slot} (h : (arenaMake l).2.2 = 0) : 0 ≤ (arenaMake l).2.1.slot ∧ (arenaMake l).2.1.slot.toNat < (arenaMake l).1.length := by
  unfold arenaMake at h ⊢
  split at h
  · cases h
  · split at h
    · rename_i i hi
      obtain ⟨hi, _⟩ := List.findIdx?_eq_some_iff_getElem.1 hi
      simp [*]
    · split at h
      · cases h
      · simp [*]

theorem nodesMake_facts {g : Graph} (h : (nodesMake g).2.2 = 0) : 0 ≤ (nodesMake g).2.1.slot ∧ (nodesMake g).2.1.slot.toNat < (nodesMake g).1.kids.length ∧ g.kids.length ≤ (nodesMake g).1.kids.length ∧ (nodesMake g).1.kids.length ≤ g.kids.length + 1 := by
  unfold nodesMake at h ⊢
  by_cases hg : graphOk g = true
  · have hkl : g.kids.length = g.slots.length := by simp only [graphOk, Bool.and_eq_true, decide_eq_true_eq] at hg; exact hg.2.1
    by_cases he : (arenaMake g.slots).2.2 = 0
    · have h1 := arenaMake_slot he
      have h2 := arenaMake_len g.slots
      simp only [hg, he, if_true, List.length_append, List.length_replicate]
      omega
    · simp [hg, he] at h
  · simp [hg] at h

/-- What the scene of a twin looks like in memory. -/
def sceneSt (B : Key) (s : Scene) : St := [(24 :: B, .row 7 [sceneV (14 :: 22 :: B) (15 :: 22 :: B) (16 :: 22 :: B) s]), (14 :: 22 :: B, .row 33 (s.nodes.map Node.pv)), (15 :: 22 :: B, .row 3 (s.meshes.map Mesh.pv)), (16 :: 22 :: B, .row 3 (s.textures.map Texture.pv))]
def sceneUp (B : Key) (s : Scene) : Ups := [(24 :: B, some (.row 7 [sceneV (14 :: 22 :: B) (15 :: 22 :: B) (16 :: 22 :: B) s])), (14 :: 22 :: B, some (.row 33 (s.nodes.map Node.pv)))]

set_option maxHeartbeats 8000000
theorem ent114 : enters Tryz.prog 114 = true := by kernel_rfl
theorem runs114 (B : Key) (s : Scene) (e : Edit) (hs : s.Caps) (hfar : e.node.far.length < 4611686018427387904) (hk : s.nodes.length = s.graph.kids.length) : Runs Tryz.prog (29 :: B) 114 [.ptr (24 :: B) 1 0 0, e.pv] (sceneSt B s)
    (.tup [Took.pv ⟨(sceneMake s e.node).2.1, 0⟩, .int .i64 (sceneMake s e.node).2.2]) (sceneUp B (sceneMake s e.node).1) := by
  have hups : ∀ t, ∀ x ∈ sceneUp B t, 29 :: B <:+ x.1 ∨ ∃ ob, St.find (sceneSt B s) x.1 = some ob := by
    intro t x hx
    simp only [sceneUp, List.mem_cons, List.not_mem_nil, or_false] at hx
    rcases hx with rfl | rfl
    · exact .inr ⟨_, St.find_hd _ _ _⟩
    · exact .inr ⟨_, St.find_tl (by simp) (St.find_hd _ _ _)⟩
  cases hn : nodeOk s.meshes.length s.textures.length e.node with
  | false =>
    have hm : sceneMake s e.node = (s, ⟨0, 0⟩, 8) := by simp [sceneMake, hn]
    rw [hm]
    refine Runs.body (rs := [.cell 4 66, .tmp 5]) ent114 Tryz.func114 rfl Tryz.ntmps114 rfl (hups _) ?_
    clear hups hm hk
    unfold sceneSt sceneUp
    repeat' first
     |(with_reducible first|apply qa|apply qb|apply qc|apply qd|apply qe|apply qf|apply qg|apply qh|apply qi|apply qj|apply qk|apply ql|apply qm|apply qn|apply qo|apply qp|apply qq|refine blockP_ne (by decide) ?_)
     |((with_reducible refine Pwp.reg fun K hK=>?_);simp[*])
     |((with_reducible refine Pwp.drawn (id := 1) follows_mixed [0, 1, 3, 7, 0, 16, 63, 127] [false, false, false, false, false, false, true, false] ?_ fun K hK => ?_); focus kernel_rfl
       simp [*])
     |((with_reducible refine Pwp.drawn (id := 7) follows_mixed [0, 1, 3, 7, 15, 31, 0, 64, 192, 511] [false, false, false, false, false, false, false, false, false, false] ?_ fun K hK => ?_); focus kernel_rfl
       simp [*])
     |((with_reducible refine Pwp.drawn (id := 9) follows_mixed [0, 1, 3, 7, 15, 0, 32, 0, 128, 384, 1023, 2047] [false, false, false, false, false, false, false, false, false, false, true, true] ?_ fun K hK => ?_); focus kernel_rfl
       simp [*])
     |((with_reducible refine Hid.go hK ?_);clear hK K)|((with_reducible apply Pwp.condG);rfl)|((with_reducible first|apply qqj|apply qqk);simp[*];done)|((with_reducible first|apply qr|apply qs|apply qt|apply qu|apply qv|apply qw)<;>intro h)
     |((with_reducible first|apply qx|apply qy|apply qz|apply qqa|apply qqb|apply qqc|apply qqd|apply qqe|apply qqf|apply qqg|apply qqh|apply qqi)<;>intro h<;>try simp[h, *])
     |((with_reducible refine and_go ?_ fun hs=>?_);focus omega
       try simp[*])
     |((with_reducible first|apply qql|apply qqn|apply qqp|apply qqm|apply qqo|apply qqq);simp[*])
    refine dcallk_new (Runs.borrow [(14 :: 22 :: B, .row 33 (s.nodes.map Node.pv)), (15 :: 22 :: B, .row 3 (s.meshes.map Mesh.pv)), (16 :: 22 :: B, .row 3 (s.textures.map Texture.pv))] (runs70 _ s e.node hfar) (VLeL.cons (sceneV_le (22 :: B) s) (VLeL.cons (VLe.refl _) VLeL.nil)) rfl) (Sub.cons (by simp [St.find]) (Sub.cons (by simp [St.find]) (Sub.cons (by simp [St.find]) (Sub.nil _)))) (by simp) ?_
    repeat' first
     |(with_reducible first|apply qa|apply qb|apply qc|apply qd|apply qe|apply qf|apply qg|apply qh|apply qi|apply qj|apply qk|apply ql|apply qm|apply qn|apply qo|apply qp|apply qq|refine blockP_ne (by decide) ?_)
     |((with_reducible refine Pwp.reg fun K hK=>?_);simp[hn, errIf])
     |((with_reducible refine Pwp.drawn (id := 1) follows_mixed [0, 1, 3, 7, 0, 16, 63, 127] [false, false, false, false, false, false, true, false] ?_ fun K hK => ?_); focus kernel_rfl
       simp [hn, errIf])
     |((with_reducible refine Pwp.drawn (id := 7) follows_mixed [0, 1, 3, 7, 15, 31, 0, 64, 192, 511] [false, false, false, false, false, false, false, false, false, false] ?_ fun K hK => ?_); focus kernel_rfl
       simp [hn, errIf])
     |((with_reducible refine Pwp.drawn (id := 9) follows_mixed [0, 1, 3, 7, 15, 0, 32, 0, 128, 384, 1023, 2047] [false, false, false, false, false, false, false, false, false, false, true, true] ?_ fun K hK => ?_); focus kernel_rfl
       simp [hn, errIf])
     |((with_reducible refine Hid.go hK ?_);clear hK K)|((with_reducible apply Pwp.condG);rfl)|((with_reducible first|apply qqj|apply qqk);simp[hn, errIf];done)|((with_reducible first|apply qr|apply qs|apply qt|apply qu|apply qv|apply qw)<;>intro h)
     |((with_reducible first|apply qx|apply qy|apply qz|apply qqa|apply qqb|apply qqc|apply qqd|apply qqe|apply qqf|apply qqg|apply qqh|apply qqi)<;>intro h<;>try simp[h, hn, errIf])
     |((with_reducible refine and_go ?_ fun hs=>?_);focus omega
       try simp[hn, errIf])
     |((with_reducible first|apply qql|apply qqn|apply qqp|apply qqm|apply qqo|apply qqq);simp[hn, errIf])
    refine endP_mem (by first | exact .inl rfl | exact .inr rfl) [] [(1 :: 29 :: B, .row 3 [Took.pv ⟨⟨0, 0⟩, 0⟩]), (24 :: B, .row 7 [sceneV (14 :: 22 :: B) (15 :: 22 :: B) (16 :: 22 :: B) s]), (14 :: 22 :: B, .row 33 (s.nodes.map Node.pv)), (15 :: 22 :: B, .row 3 (s.meshes.map Mesh.pv)), (16 :: 22 :: B, .row 3 (s.textures.map Texture.pv))] ?_ ?_ ?_ ?_
    · repeat' first | exact Sub.nil _ | refine Sub.cons (by simp [St.find]) ?_
    · repeat' first | exact StLe.nil | (apply StLe.cons; (focus (simp [St.find]; done)))
      all_goals try ((((repeat' first | exact St.find_hd _ _ _ | (apply St.find_tl; (focus (first | assumption | (simp; done) | (simp [*]; done))))); done)); done)
      all_goals first | exact ObLe.refl _ | (refine ObLe.of_eq ?_; simp [*]; done) | (simp only [List.map_set]; exact ObLe.row _ _ _ zeroSet) | (simp only [List.map_append, List.map_cons, List.map_nil]; exact ObLe.row _ _ _ (ELe.append (ELe.refl _) zeroE)) | (refine ObLe.row _ _ _ (ELe.one ?_ ?_); (focus (simp; done)))
      all_goals repeat' first | exact VLeL.nil | refine VLeL.cons ?_ ?_
      all_goals first | exact VLe.refl _ | exact VLe.cap _ _ | exact VLe.any _ | (apply VLe.row (h := ELe.refl _); (focus (((repeat' first | exact St.find_hd _ _ _ | (apply St.find_tl; (focus (first | assumption | (simp; done) | (simp [*]; done))))); done))); (simp [*]; done)) | (refine VLe.of_eq ?_; simp [*]; done)
    · simp [*]
    · try simp [St.apply, St.set]
      repeat' first | exact Sub.nil _ | refine Sub.cons (by simp [St.find]) ?_
  | true =>
    by_cases he : (nodesMake s.graph).2.2 = 0
    rotate_left
    · have hm : sceneMake s e.node = (s, ⟨0, 0⟩, (nodesMake s.graph).2.2) := by simp [sceneMake, hn, he]
      rw [hm]
      refine Runs.body (rs := [.cell 4 66, .tmp 5]) ent114 Tryz.func114 rfl Tryz.ntmps114 rfl (hups _) ?_
      clear hups hm hk
      unfold sceneSt sceneUp
      repeat' first
       |(with_reducible first|apply qa|apply qb|apply qc|apply qd|apply qe|apply qf|apply qg|apply qh|apply qi|apply qj|apply qk|apply ql|apply qm|apply qn|apply qo|apply qp|apply qq|refine blockP_ne (by decide) ?_)
       |((with_reducible refine Pwp.reg fun K hK=>?_);simp[*])
       |((with_reducible refine Pwp.drawn (id := 1) follows_mixed [0, 1, 3, 7, 0, 16, 63, 127] [false, false, false, false, false, false, true, false] ?_ fun K hK => ?_); focus kernel_rfl
         simp [*])
       |((with_reducible refine Pwp.drawn (id := 7) follows_mixed [0, 1, 3, 7, 15, 31, 0, 64, 192, 511] [false, false, false, false, false, false, false, false, false, false] ?_ fun K hK => ?_); focus kernel_rfl
         simp [*])
       |((with_reducible refine Pwp.drawn (id := 9) follows_mixed [0, 1, 3, 7, 15, 0, 32, 0, 128, 384, 1023, 2047] [false, false, false, false, false, false, false, false, false, false, true, true] ?_ fun K hK => ?_); focus kernel_rfl
         simp [*])
       |((with_reducible refine Hid.go hK ?_);clear hK K)|((with_reducible apply Pwp.condG);rfl)|((with_reducible first|apply qqj|apply qqk);simp[*];done)|((with_reducible first|apply qr|apply qs|apply qt|apply qu|apply qv|apply qw)<;>intro h)
       |((with_reducible first|apply qx|apply qy|apply qz|apply qqa|apply qqb|apply qqc|apply qqd|apply qqe|apply qqf|apply qqg|apply qqh|apply qqi)<;>intro h<;>try simp[h, *])
       |((with_reducible refine and_go ?_ fun hs=>?_);focus omega
         try simp[*])
       |((with_reducible first|apply qql|apply qqn|apply qqp|apply qqm|apply qqo|apply qqq);simp[*])
      refine dcallk_new (Runs.borrow [(14 :: 22 :: B, .row 33 (s.nodes.map Node.pv)), (15 :: 22 :: B, .row 3 (s.meshes.map Mesh.pv)), (16 :: 22 :: B, .row 3 (s.textures.map Texture.pv))] (runs70 _ s e.node hfar) (VLeL.cons (sceneV_le (22 :: B) s) (VLeL.cons (VLe.refl _) VLeL.nil)) rfl) (Sub.cons (by simp [St.find]) (Sub.cons (by simp [St.find]) (Sub.cons (by simp [St.find]) (Sub.nil _)))) (by simp) ?_
      repeat' first
       |(with_reducible first|apply qa|apply qb|apply qc|apply qd|apply qe|apply qf|apply qg|apply qh|apply qi|apply qj|apply qk|apply ql|apply qm|apply qn|apply qo|apply qp|apply qq|refine blockP_ne (by decide) ?_)
       |((with_reducible refine Pwp.reg fun K hK=>?_);simp[hn, errIf])
       |((with_reducible refine Pwp.drawn (id := 1) follows_mixed [0, 1, 3, 7, 0, 16, 63, 127] [false, false, false, false, false, false, true, false] ?_ fun K hK => ?_); focus kernel_rfl
         simp [hn, errIf])
       |((with_reducible refine Pwp.drawn (id := 7) follows_mixed [0, 1, 3, 7, 15, 31, 0, 64, 192, 511] [false, false, false, false, false, false, false, false, false, false] ?_ fun K hK => ?_); focus kernel_rfl
         simp [hn, errIf])
       |((with_reducible refine Pwp.drawn (id := 9) follows_mixed [0, 1, 3, 7, 15, 0, 32, 0, 128, 384, 1023, 2047] [false, false, false, false, false, false, false, false, false, false, true, true] ?_ fun K hK => ?_); focus kernel_rfl
         simp [hn, errIf])
       |((with_reducible refine Hid.go hK ?_);clear hK K)|((with_reducible apply Pwp.condG);rfl)|((with_reducible first|apply qqj|apply qqk);simp[hn, errIf];done)|((with_reducible first|apply qr|apply qs|apply qt|apply qu|apply qv|apply qw)<;>intro h)
       |((with_reducible first|apply qx|apply qy|apply qz|apply qqa|apply qqb|apply qqc|apply qqd|apply qqe|apply qqf|apply qqg|apply qqh|apply qqi)<;>intro h<;>try simp[h, hn, errIf])
       |((with_reducible refine and_go ?_ fun hs=>?_);focus omega
         try simp[hn, errIf])
       |((with_reducible first|apply qql|apply qqn|apply qqp|apply qqm|apply qqo|apply qqq);simp[hn, errIf])
      refine vcallk_pure (runs209 _ s.graph hs.graph) ?_
      repeat' first
       |(with_reducible first|apply qa|apply qb|apply qc|apply qd|apply qe|apply qf|apply qg|apply qh|apply qi|apply qj|apply qk|apply ql|apply qm|apply qn|apply qo|apply qp|apply qq|refine blockP_ne (by decide) ?_)
       |((with_reducible refine Pwp.reg fun K hK=>?_);simp[*])
       |((with_reducible refine Pwp.drawn (id := 1) follows_mixed [0, 1, 3, 7, 0, 16, 63, 127] [false, false, false, false, false, false, true, false] ?_ fun K hK => ?_); focus kernel_rfl
         simp [*])
       |((with_reducible refine Pwp.drawn (id := 7) follows_mixed [0, 1, 3, 7, 15, 31, 0, 64, 192, 511] [false, false, false, false, false, false, false, false, false, false] ?_ fun K hK => ?_); focus kernel_rfl
         simp [*])
       |((with_reducible refine Pwp.drawn (id := 9) follows_mixed [0, 1, 3, 7, 15, 0, 32, 0, 128, 384, 1023, 2047] [false, false, false, false, false, false, false, false, false, false, true, true] ?_ fun K hK => ?_); focus kernel_rfl
         simp [*])
       |((with_reducible refine Hid.go hK ?_);clear hK K)|((with_reducible apply Pwp.condG);rfl)|((with_reducible first|apply qqj|apply qqk);simp[*];done)|((with_reducible first|apply qr|apply qs|apply qt|apply qu|apply qv|apply qw)<;>intro h)
       |((with_reducible first|apply qx|apply qy|apply qz|apply qqa|apply qqb|apply qqc|apply qqd|apply qqe|apply qqf|apply qqg|apply qqh|apply qqi)<;>intro h<;>try simp[h, *])
       |((with_reducible refine and_go ?_ fun hs=>?_);focus omega
         try simp[*])
       |((with_reducible first|apply qql|apply qqn|apply qqp|apply qqm|apply qqo|apply qqq);simp[*])
      refine vcallk_new (runs210 _ (24 :: B) (nodesMake s.graph).1 (nodesMake s.graph).2.2 (slotsPv s.graph.slots) (kidsPv s.graph.kids) (.slice (14 :: 22 :: B) s.nodes.length) (.slice (15 :: 22 :: B) s.meshes.length) (.slice (16 :: 22 :: B) s.textures.length) (.int .i64 s.root.slot) (.int .i64 s.root.gen)) (Sub.one (by simp [St.find])) ?_
      repeat' first
       |(with_reducible first|apply qa|apply qb|apply qc|apply qd|apply qe|apply qf|apply qg|apply qh|apply qi|apply qj|apply qk|apply ql|apply qm|apply qn|apply qo|apply qp|apply qq|refine blockP_ne (by decide) ?_)
       |((with_reducible refine Pwp.reg fun K hK=>?_);simp[he])
       |((with_reducible refine Pwp.drawn (id := 1) follows_mixed [0, 1, 3, 7, 0, 16, 63, 127] [false, false, false, false, false, false, true, false] ?_ fun K hK => ?_); focus kernel_rfl
         simp [he])
       |((with_reducible refine Pwp.drawn (id := 7) follows_mixed [0, 1, 3, 7, 15, 31, 0, 64, 192, 511] [false, false, false, false, false, false, false, false, false, false] ?_ fun K hK => ?_); focus kernel_rfl
         simp [he])
       |((with_reducible refine Pwp.drawn (id := 9) follows_mixed [0, 1, 3, 7, 15, 0, 32, 0, 128, 384, 1023, 2047] [false, false, false, false, false, false, false, false, false, false, true, true] ?_ fun K hK => ?_); focus kernel_rfl
         simp [he])
       |((with_reducible refine Hid.go hK ?_);clear hK K)|((with_reducible apply Pwp.condG);rfl)|((with_reducible first|apply qqj|apply qqk);simp[he];done)|((with_reducible first|apply qr|apply qs|apply qt|apply qu|apply qv|apply qw)<;>intro h)
       |((with_reducible first|apply qx|apply qy|apply qz|apply qqa|apply qqb|apply qqc|apply qqd|apply qqe|apply qqf|apply qqg|apply qqh|apply qqi)<;>intro h<;>try simp[h, he])
       |((with_reducible refine and_go ?_ fun hs=>?_);focus omega
         try simp[he])
       |((with_reducible first|apply qql|apply qqn|apply qqp|apply qqm|apply qqo|apply qqq);simp[he])
      refine endP_mem (by first | exact .inl rfl | exact .inr rfl) [] [(1 :: 29 :: B, .row 3 [Took.pv ⟨⟨0, 0⟩, 0⟩]), (24 :: B, .row 7 [sceneV (14 :: 22 :: B) (15 :: 22 :: B) (16 :: 22 :: B) s]), (14 :: 22 :: B, .row 33 (s.nodes.map Node.pv)), (15 :: 22 :: B, .row 3 (s.meshes.map Mesh.pv)), (16 :: 22 :: B, .row 3 (s.textures.map Texture.pv))] ?_ ?_ ?_ ?_
      · repeat' first | exact Sub.nil _ | refine Sub.cons (by simp [St.find]) ?_
      · repeat' first | exact StLe.nil | (apply StLe.cons; (focus (simp [St.find]; done)))
        all_goals try ((((repeat' first | exact St.find_hd _ _ _ | (apply St.find_tl; (focus (first | assumption | (simp; done) | (simp [*]; done))))); done)); done)
        all_goals first | exact ObLe.refl _ | (refine ObLe.of_eq ?_; simp [*]; done) | (simp only [List.map_set]; exact ObLe.row _ _ _ zeroSet) | (simp only [List.map_append, List.map_cons, List.map_nil]; exact ObLe.row _ _ _ (ELe.append (ELe.refl _) zeroE)) | (refine ObLe.row _ _ _ (ELe.one ?_ ?_); (focus (simp; done)))
        all_goals repeat' first | exact VLeL.nil | refine VLeL.cons ?_ ?_
        all_goals first | exact VLe.refl _ | exact VLe.cap _ _ | exact VLe.any _ | (apply VLe.row (h := ELe.refl _); (focus (((repeat' first | exact St.find_hd _ _ _ | (apply St.find_tl; (focus (first | assumption | (simp; done) | (simp [*]; done))))); done))); (simp [*]; done)) | (refine VLe.of_eq ?_; simp [*]; done)
      · simp [*]
      · try simp [St.apply, St.set]
        repeat' first | exact Sub.nil _ | refine Sub.cons (by simp [St.find]) ?_
    · have hf := nodeOk_far hn
      obtain ⟨f1, f2, f3, f4⟩ := nodesMake_facts he
      have hnn : s.nodes.length ≤ 1000000 := hs.nodes
      have hgg := hs.graph
      have hm : sceneMake s e.node = ({ s with graph := (nodesMake s.graph).1, nodes := (s.nodes ++ List.replicate ((nodesMake s.graph).1.kids.length - s.nodes.length) zeroN).set (nodesMake s.graph).2.1.slot.toNat e.node }, (nodesMake s.graph).2.1, 0) := by simp [sceneMake, hn, he]
      rw [hm]
      refine Runs.body (rs := [.cell 4 66, .tmp 5]) ent114 Tryz.func114 rfl Tryz.ntmps114 rfl (hups _) ?_
      clear hups hm
      rw [← hk] at f3 f4
      have hnm := runs209 (18 :: 29 :: B) s.graph hgg
      generalize nodesMake s.graph = m at *
      obtain ⟨g', h', e'⟩ := m
      simp only at he f1 f2 f3 f4
      subst he
      clear hk hs
      unfold sceneSt sceneUp
      repeat' first
       |(with_reducible first|apply qa|apply qb|apply qc|apply qd|apply qe|apply qf|apply qg|apply qh|apply qi|apply qj|apply qk|apply ql|apply qm|apply qn|apply qo|apply qp|apply qq|refine blockP_ne (by decide) ?_)
       |((with_reducible refine Pwp.reg fun K hK=>?_);simp[f1])
       |((with_reducible refine Pwp.drawn (id := 1) follows_mixed [0, 1, 3, 7, 0, 16, 63, 127] [false, false, false, false, false, false, true, false] ?_ fun K hK => ?_); focus kernel_rfl
         simp [f1])
       |((with_reducible refine Pwp.drawn (id := 7) follows_mixed [0, 1, 3, 7, 15, 31, 0, 64, 192, 511] [false, false, false, false, false, false, false, false, false, false] ?_ fun K hK => ?_); focus kernel_rfl
         simp [f1])
       |((with_reducible refine Pwp.drawn (id := 9) follows_mixed [0, 1, 3, 7, 15, 0, 32, 0, 128, 384, 1023, 2047] [false, false, false, false, false, false, false, false, false, false, true, true] ?_ fun K hK => ?_); focus kernel_rfl
         simp [f1])
       |((with_reducible refine Hid.go hK ?_);clear hK K)|((with_reducible apply Pwp.condG);rfl)|((with_reducible first|apply qqj|apply qqk);simp[f1];done)|((with_reducible first|apply qr|apply qs|apply qt|apply qu|apply qv|apply qw)<;>intro h)
       |((with_reducible first|apply qx|apply qy|apply qz|apply qqa|apply qqb|apply qqc|apply qqd|apply qqe|apply qqf|apply qqg|apply qqh|apply qqi)<;>intro h<;>try simp[h, f1])
       |((with_reducible refine and_go ?_ fun hs=>?_);focus omega
         try simp[f1])
       |((with_reducible first|apply qql|apply qqn|apply qqp|apply qqm|apply qqo|apply qqq);simp[f1])
      refine dcallk_new (Runs.borrow [(14 :: 22 :: B, .row 33 (s.nodes.map Node.pv)), (15 :: 22 :: B, .row 3 (s.meshes.map Mesh.pv)), (16 :: 22 :: B, .row 3 (s.textures.map Texture.pv))] (runs70 _ s e.node hfar) (VLeL.cons (sceneV_le (22 :: B) s) (VLeL.cons (VLe.refl _) VLeL.nil)) rfl) (Sub.cons (by simp [St.find]) (Sub.cons (by simp [St.find]) (Sub.cons (by simp [St.find]) (Sub.nil _)))) (by simp) ?_
      repeat' first
       |(with_reducible first|apply qa|apply qb|apply qc|apply qd|apply qe|apply qf|apply qg|apply qh|apply qi|apply qj|apply qk|apply ql|apply qm|apply qn|apply qo|apply qp|apply qq|refine blockP_ne (by decide) ?_)
       |((with_reducible refine Pwp.reg fun K hK=>?_);simp[hn, errIf])
       |((with_reducible refine Pwp.drawn (id := 1) follows_mixed [0, 1, 3, 7, 0, 16, 63, 127] [false, false, false, false, false, false, true, false] ?_ fun K hK => ?_); focus kernel_rfl
         simp [hn, errIf])
       |((with_reducible refine Pwp.drawn (id := 7) follows_mixed [0, 1, 3, 7, 15, 31, 0, 64, 192, 511] [false, false, false, false, false, false, false, false, false, false] ?_ fun K hK => ?_); focus kernel_rfl
         simp [hn, errIf])
       |((with_reducible refine Pwp.drawn (id := 9) follows_mixed [0, 1, 3, 7, 15, 0, 32, 0, 128, 384, 1023, 2047] [false, false, false, false, false, false, false, false, false, false, true, true] ?_ fun K hK => ?_); focus kernel_rfl
         simp [hn, errIf])
       |((with_reducible refine Hid.go hK ?_);clear hK K)|((with_reducible apply Pwp.condG);rfl)|((with_reducible first|apply qqj|apply qqk);simp[hn, errIf];done)|((with_reducible first|apply qr|apply qs|apply qt|apply qu|apply qv|apply qw)<;>intro h)
       |((with_reducible first|apply qx|apply qy|apply qz|apply qqa|apply qqb|apply qqc|apply qqd|apply qqe|apply qqf|apply qqg|apply qqh|apply qqi)<;>intro h<;>try simp[h, hn, errIf])
       |((with_reducible refine and_go ?_ fun hs=>?_);focus omega
         try simp[hn, errIf])
       |((with_reducible first|apply qql|apply qqn|apply qqp|apply qqm|apply qqo|apply qqq);simp[hn, errIf])
      refine vcallk_pure hnm ?_
      repeat' first
       |(with_reducible first|apply qa|apply qb|apply qc|apply qd|apply qe|apply qf|apply qg|apply qh|apply qi|apply qj|apply qk|apply ql|apply qm|apply qn|apply qo|apply qp|apply qq|refine blockP_ne (by decide) ?_)
       |((with_reducible refine Pwp.reg fun K hK=>?_);simp[f1])
       |((with_reducible refine Pwp.drawn (id := 1) follows_mixed [0, 1, 3, 7, 0, 16, 63, 127] [false, false, false, false, false, false, true, false] ?_ fun K hK => ?_); focus kernel_rfl
         simp [f1])
       |((with_reducible refine Pwp.drawn (id := 7) follows_mixed [0, 1, 3, 7, 15, 31, 0, 64, 192, 511] [false, false, false, false, false, false, false, false, false, false] ?_ fun K hK => ?_); focus kernel_rfl
         simp [f1])
       |((with_reducible refine Pwp.drawn (id := 9) follows_mixed [0, 1, 3, 7, 15, 0, 32, 0, 128, 384, 1023, 2047] [false, false, false, false, false, false, false, false, false, false, true, true] ?_ fun K hK => ?_); focus kernel_rfl
         simp [f1])
       |((with_reducible refine Hid.go hK ?_);clear hK K)|((with_reducible apply Pwp.condG);rfl)|((with_reducible first|apply qqj|apply qqk);simp[f1];done)|((with_reducible first|apply qr|apply qs|apply qt|apply qu|apply qv|apply qw)<;>intro h)
       |((with_reducible first|apply qx|apply qy|apply qz|apply qqa|apply qqb|apply qqc|apply qqd|apply qqe|apply qqf|apply qqg|apply qqh|apply qqi)<;>intro h<;>try simp[h, f1])
       |((with_reducible refine and_go ?_ fun hs=>?_);focus omega
         try simp[f1])
       |((with_reducible first|apply qql|apply qqn|apply qqp|apply qqm|apply qqo|apply qqq);simp[f1])
      refine vcallk_new (runs210 _ (24 :: B) g' 0 (slotsPv s.graph.slots) (kidsPv s.graph.kids) (.slice (14 :: 22 :: B) s.nodes.length) (.slice (15 :: 22 :: B) s.meshes.length) (.slice (16 :: 22 :: B) s.textures.length) (.int .i64 s.root.slot) (.int .i64 s.root.gen)) (Sub.one (by simp [St.find])) ?_
      repeat' first
       |(with_reducible first|apply qa|apply qb|apply qc|apply qd|apply qe|apply qf|apply qg|apply qh|apply qi|apply qj|apply qk|apply ql|apply qm|apply qn|apply qo|apply qp|apply qq|refine blockP_ne (by decide) ?_)
       |((with_reducible refine Pwp.reg fun K hK=>?_);simp[f1])
       |((with_reducible refine Pwp.drawn (id := 1) follows_mixed [0, 1, 3, 7, 0, 16, 63, 127] [false, false, false, false, false, false, true, false] ?_ fun K hK => ?_); focus kernel_rfl
         simp [f1])
       |((with_reducible refine Pwp.drawn (id := 7) follows_mixed [0, 1, 3, 7, 15, 31, 0, 64, 192, 511] [false, false, false, false, false, false, false, false, false, false] ?_ fun K hK => ?_); focus kernel_rfl
         simp [f1])
       |((with_reducible refine Pwp.drawn (id := 9) follows_mixed [0, 1, 3, 7, 15, 0, 32, 0, 128, 384, 1023, 2047] [false, false, false, false, false, false, false, false, false, false, true, true] ?_ fun K hK => ?_); focus kernel_rfl
         simp [f1])
       |((with_reducible refine Hid.go hK ?_);clear hK K)|((with_reducible apply Pwp.condG);rfl)|((with_reducible first|apply qqj|apply qqk);simp[f1];done)|((with_reducible first|apply qr|apply qs|apply qt|apply qu|apply qv|apply qw)<;>intro h)
       |((with_reducible first|apply qx|apply qy|apply qz|apply qqa|apply qqb|apply qqc|apply qqd|apply qqe|apply qqf|apply qqg|apply qqh|apply qqi)<;>intro h<;>try simp[h, f1])
       |((with_reducible refine and_go ?_ fun hs=>?_);focus omega
         try simp[f1])
       |((with_reducible first|apply qql|apply qqn|apply qqp|apply qqm|apply qqo|apply qqq);simp[f1])
      refine Pwp.loopN (ι := Nat × List Node) (S := fun x => ⟨[.ptr (24 :: B) 1 0 0, .any, .any, .ptr (0 :: 29 :: B) 1 0 0, .ptr (1 :: 29 :: B) 1 0 0, .any, .any, .ptr (23 :: 29 :: B) 1 0 0, .ptr (24 :: 29 :: B) 1 0 0, .any, .any, .any, .any, .any, .any, .any, .any, .any, .any, .any, .any, .any, .any, .any, .any, .any, .any, .any, .any, .any, .any, .any, .any, .any, .any, .any, .any, .any, .any, .any, .any, .any, .any, .any, .any, .any, .any, .any, .any, .any, .any, .any, .any, .any, .any, .any, .any, .any, .any, .any, .any, .any, .any, .any, .any, .any, .any, .any, .any, .any, .any, .any, .any], [(24 :: B, .row 7 [.agg [slotsPv g'.slots, kidsPv g'.kids, .slice (14 :: 22 :: B) x.2.length, .slice (15 :: 22 :: B) s.meshes.length, .slice (16 :: 22 :: B) s.textures.length, .int .i64 s.root.slot, .int .i64 s.root.gen]]), (14 :: 22 :: B, .row 33 (x.2.map Node.pv)), (15 :: 22 :: B, .row 3 (s.meshes.map Mesh.pv)), (16 :: 22 :: B, .row 3 (s.textures.map Texture.pv)), (0 :: 29 :: B, .row 45 [e.pv]), (1 :: 29 :: B, .row 3 [Took.pv ⟨⟨0, 0⟩, 0⟩]), (23 :: 29 :: B, .row 2 [g'.pv]), (24 :: 29 :: B, .row 2 [h'.pv])], x.1 :: 33 :: 29 :: B, 0⟩)
        (C := fun x => x.1 ≤ g'.kids.length - s.nodes.length ∧ Hid (x.2 = s.nodes ++ List.replicate x.1 zeroN)) (μ := fun x => g'.kids.length - x.2.length) (0, s.nodes) ?_ ?_ ?_
      · refine PLe.tellInG [] (by simp) ?_ ?_ ?_
        · repeat' first | exact Sub.nil _ | refine Sub.cons (by simp [St.find, *]) ?_
        · repeat' first | exact StLeG.nil | (apply StLeG.old; (focus (simp [St.find]; done)); (focus ((repeat' first | exact St.find_hd _ _ _ | (apply St.find_tl; (focus (first | assumption | (simp; done) | (simp [*]; done))))); done))) | (refine StLeG.new ?_ ?_ ?_ ?_; (focus (simp [St.find]; done)); (focus omega); (focus omega))
          all_goals first | exact ObLe.refl _ | (refine ObLe.of_eq ?_; simp [*]; done) | (simp only [List.map_set]; exact ObLe.row _ _ _ zeroSet) | (simp only [List.map_append, List.map_cons, List.map_nil]; exact ObLe.row _ _ _ (ELe.append (ELe.refl _) zeroE)) | (refine ObLe.row _ _ _ (ELe.one ?_ ?_); (focus (simp; done)))
          all_goals repeat' first | exact VLeL.nil | refine VLeL.cons ?_ ?_
          all_goals first | exact VLe.refl _ | exact VLe.any _ | exact VLe.cap _ _ | (refine VLe.ghost1 ?_ ?_ <;> omega) | (apply VLe.row (h := ELe.refl _); (focus ((repeat' first | exact St.find_hd _ _ _ | (apply St.find_tl; (focus (first | assumption | (simp; done) | (simp [*]; done))))); done)); (simp [*]; done)) | (apply VLe.prow (h := ELe.refl _); (focus ((repeat' first | exact St.find_hd _ _ _ | (apply St.find_tl; (focus (first | assumption | (simp; done) | (simp [*]; done))))); done)); (simp; done)) | (refine VLe.of_eq ?_; simp [*]; done)
        · repeat' first | exact VLeL.nil | refine VLeL.cons ?_ ?_
          all_goals first | exact VLe.refl _ | exact VLe.any _ | exact VLe.cap _ _ | (refine VLe.ghost1 ?_ ?_ <;> omega) | (apply VLe.row (h := ELe.refl _); (focus ((repeat' first | exact St.find_hd _ _ _ | (apply St.find_tl; (focus (first | assumption | (simp; done) | (simp [*]; done))))); done)); (simp [*]; done)) | (apply VLe.prow (h := ELe.refl _); (focus ((repeat' first | exact St.find_hd _ _ _ | (apply St.find_tl; (focus (first | assumption | (simp; done) | (simp [*]; done))))); done)); (simp; done)) | (refine VLe.of_eq ?_; simp [*]; done)
      · exact ⟨Nat.zero_le _, ⟨by simp⟩⟩
      · rintro ⟨i, acc⟩ ⟨hi, hacc⟩
        simp only at hi hacc
        have hal : acc.length = s.nodes.length + i := by rw [hacc.of]; simp
        by_cases hlt : acc.length < g'.kids.length
        · have c1 : ((acc.length : Int) < (g'.kids.length : Int)) = True := by simp only [eq_iff_iff, iff_true]; omega
          repeat' first
           |(with_reducible first|apply qa|apply qb|apply qc|apply qd|apply qe|apply qf|apply qg|apply qh|apply qi|apply qj|apply qk|apply ql|apply qm|apply qn|apply qo|apply qp|apply qq|refine blockP_ne (by decide) ?_)
           |((with_reducible refine Pwp.reg fun K hK=>?_);simp[c1, hlt])
           |((with_reducible refine Pwp.drawn (id := 1) follows_mixed [0, 1, 3, 7, 0, 16, 63, 127] [false, false, false, false, false, false, true, false] ?_ fun K hK => ?_); focus kernel_rfl
             simp [c1, hlt])
           |((with_reducible refine Pwp.drawn (id := 7) follows_mixed [0, 1, 3, 7, 15, 31, 0, 64, 192, 511] [false, false, false, false, false, false, false, false, false, false] ?_ fun K hK => ?_); focus kernel_rfl
             simp [c1, hlt])
           |((with_reducible refine Pwp.drawn (id := 9) follows_mixed [0, 1, 3, 7, 15, 0, 32, 0, 128, 384, 1023, 2047] [false, false, false, false, false, false, false, false, false, false, true, true] ?_ fun K hK => ?_); focus kernel_rfl
             simp [c1, hlt])
           |((with_reducible refine Hid.go hK ?_);clear hK K)|((with_reducible apply Pwp.condG);rfl)|((with_reducible first|apply qqj|apply qqk);simp[c1, hlt];done)|((with_reducible first|apply qr|apply qs|apply qt|apply qu|apply qv|apply qw)<;>intro h)
           |((with_reducible first|apply qx|apply qy|apply qz|apply qqa|apply qqb|apply qqc|apply qqd|apply qqe|apply qqf|apply qqg|apply qqh|apply qqi)<;>intro h<;>try simp[h, c1, hlt])
           |((with_reducible refine and_go ?_ fun hs=>?_);focus omega
             try simp[c1, hlt])
           |((with_reducible first|apply qql|apply qqn|apply qqp|apply qqm|apply qqo|apply qqq);simp[c1, hlt])
          refine roundN_go (i + 1, acc ++ [zeroN]) ?_ ⟨by simp only; omega, ⟨by simp only [hacc.of]; rw [List.replicate_succ', List.append_assoc]⟩⟩ (by simp only [List.length_append, List.length_cons, List.length_nil]; omega)
          refine PLe.tellNextG (pre := []) [] (by simp) ?_ ?_ ?_
          · repeat' first | exact Sub.nil _ | refine Sub.cons (by simp [St.find, *]) ?_
          · repeat' first | exact StLe.nil | (apply StLe.cons; (focus (first | (simp [St.find]; done) | (simp [St.find, *]; done))); (focus ((repeat' first | exact St.find_hd _ _ _ | (apply St.find_tl; (focus (first | assumption | (simp; done) | (simp [*]; done))))); done)))
            all_goals first | exact ObLe.refl _ | (refine ObLe.of_eq ?_; simp [*]; done) | (simp only [List.map_set]; exact ObLe.row _ _ _ zeroSet) | (simp only [List.map_append, List.map_cons, List.map_nil]; exact ObLe.row _ _ _ (ELe.append (ELe.refl _) zeroE)) | (refine ObLe.row _ _ _ (ELe.one ?_ ?_); (focus (simp; done)))
            all_goals repeat' first | exact VLeL.nil | refine VLeL.cons ?_ ?_
            all_goals first | exact VLe.refl _ | exact VLe.any _ | exact VLe.cap _ _ | (refine VLe.ghost1 ?_ ?_ <;> omega) | (apply VLe.row (h := ELe.refl _); (focus ((repeat' first | exact St.find_hd _ _ _ | (apply St.find_tl; (focus (first | assumption | (simp; done) | (simp [*]; done))))); done)); (simp [*]; done)) | (apply VLe.prow (h := ELe.refl _); (focus ((repeat' first | exact St.find_hd _ _ _ | (apply St.find_tl; (focus (first | assumption | (simp; done) | (simp [*]; done))))); done)); (simp; done)) | (refine VLe.of_eq ?_; simp [*]; done)
          · repeat' first | exact VLeL.nil | refine VLeL.cons ?_ ?_
            all_goals first | exact VLe.refl _ | exact VLe.any _ | exact VLe.cap _ _ | (refine VLe.ghost1 ?_ ?_ <;> omega) | (apply VLe.row (h := ELe.refl _); (focus ((repeat' first | exact St.find_hd _ _ _ | (apply St.find_tl; (focus (first | assumption | (simp; done) | (simp [*]; done))))); done)); (simp [*]; done)) | (apply VLe.prow (h := ELe.refl _); (focus ((repeat' first | exact St.find_hd _ _ _ | (apply St.find_tl; (focus (first | assumption | (simp; done) | (simp [*]; done))))); done)); (simp; done)) | (refine VLe.of_eq ?_; simp [*]; done)
        · have c1 : ((acc.length : Int) < (g'.kids.length : Int)) = False := by simp only [eq_iff_iff, iff_false]; omega
          have hacc2 : Hid (acc = s.nodes ++ List.replicate (g'.kids.length - s.nodes.length) zeroN) := ⟨by rw [hacc.of]; congr 2; omega⟩
          have hidx : h'.slot.toNat < acc.length := by omega
          have hidx2 : (h'.slot < (acc.length : Int)) = True := by simp only [eq_iff_iff, iff_true]; omega
          repeat' first
           |(with_reducible first|apply qa|apply qb|apply qc|apply qd|apply qe|apply qf|apply qg|apply qh|apply qi|apply qj|apply qk|apply ql|apply qm|apply qn|apply qo|apply qp|apply qq|refine blockP_ne (by decide) ?_)
           |((with_reducible refine Pwp.reg fun K hK=>?_);simp[c1, hlt, f1, hidx, hidx2])
           |((with_reducible refine Pwp.drawn (id := 1) follows_mixed [0, 1, 3, 7, 0, 16, 63, 127] [false, false, false, false, false, false, true, false] ?_ fun K hK => ?_); focus kernel_rfl
             simp [c1, hlt, f1, hidx, hidx2])
           |((with_reducible refine Pwp.drawn (id := 7) follows_mixed [0, 1, 3, 7, 15, 31, 0, 64, 192, 511] [false, false, false, false, false, false, false, false, false, false] ?_ fun K hK => ?_); focus kernel_rfl
             simp [c1, hlt, f1, hidx, hidx2])
           |((with_reducible refine Pwp.drawn (id := 9) follows_mixed [0, 1, 3, 7, 15, 0, 32, 0, 128, 384, 1023, 2047] [false, false, false, false, false, false, false, false, false, false, true, true] ?_ fun K hK => ?_); focus kernel_rfl
             simp [c1, hlt, f1, hidx, hidx2])
           |((with_reducible refine Hid.go hK ?_);clear hK K)|((with_reducible apply Pwp.condG);rfl)|((with_reducible first|apply qqj|apply qqk);simp[c1, hlt, f1, hidx, hidx2];done)|((with_reducible first|apply qr|apply qs|apply qt|apply qu|apply qv|apply qw)<;>intro h)
           |((with_reducible first|apply qx|apply qy|apply qz|apply qqa|apply qqb|apply qqc|apply qqd|apply qqe|apply qqf|apply qqg|apply qqh|apply qqi)<;>intro h<;>try simp[h, c1, hlt, f1, hidx, hidx2])
           |((with_reducible refine and_go ?_ fun hs=>?_);focus omega
             try simp[c1, hlt, f1, hidx, hidx2])
           |((with_reducible first|apply qql|apply qqn|apply qqp|apply qqm|apply qqo|apply qqq);simp[c1, hlt, f1, hidx, hidx2])
          refine dcallk_pure (runs123 _ e.node hf) ?_
          repeat' first
           |(with_reducible first|apply qa|apply qb|apply qc|apply qd|apply qe|apply qf|apply qg|apply qh|apply qi|apply qj|apply qk|apply ql|apply qm|apply qn|apply qo|apply qp|apply qq|refine blockP_ne (by decide) ?_)
           |((with_reducible refine Pwp.reg fun K hK=>?_);simp[c1, hlt, f1, hidx, hidx2])
           |((with_reducible refine Pwp.drawn (id := 1) follows_mixed [0, 1, 3, 7, 0, 16, 63, 127] [false, false, false, false, false, false, true, false] ?_ fun K hK => ?_); focus kernel_rfl
             simp [c1, hlt, f1, hidx, hidx2])
           |((with_reducible refine Pwp.drawn (id := 7) follows_mixed [0, 1, 3, 7, 15, 31, 0, 64, 192, 511] [false, false, false, false, false, false, false, false, false, false] ?_ fun K hK => ?_); focus kernel_rfl
             simp [c1, hlt, f1, hidx, hidx2])
           |((with_reducible refine Pwp.drawn (id := 9) follows_mixed [0, 1, 3, 7, 15, 0, 32, 0, 128, 384, 1023, 2047] [false, false, false, false, false, false, false, false, false, false, true, true] ?_ fun K hK => ?_); focus kernel_rfl
             simp [c1, hlt, f1, hidx, hidx2])
           |((with_reducible refine Hid.go hK ?_);clear hK K)|((with_reducible apply Pwp.condG);rfl)|((with_reducible first|apply qqj|apply qqk);simp[c1, hlt, f1, hidx, hidx2];done)|((with_reducible first|apply qr|apply qs|apply qt|apply qu|apply qv|apply qw)<;>intro h)
           |((with_reducible first|apply qx|apply qy|apply qz|apply qqa|apply qqb|apply qqc|apply qqd|apply qqe|apply qqf|apply qqg|apply qqh|apply qqi)<;>intro h<;>try simp[h, c1, hlt, f1, hidx, hidx2])
           |((with_reducible refine and_go ?_ fun hs=>?_);focus omega
             try simp[c1, hlt, f1, hidx, hidx2])
           |((with_reducible first|apply qql|apply qqn|apply qqp|apply qqm|apply qqo|apply qqq);simp[c1, hlt, f1, hidx, hidx2])
          obtain rfl := hacc2.of
          clear hacc hacc2 hal hlt c1 hidx hidx2 f1 f2 f3 f4 hi hnm
          refine endP_mem (by first | exact .inl rfl | exact .inr rfl) [] [(1 :: 29 :: B, .row 3 [Took.pv ⟨h', 0⟩]), (24 :: B, .row 7 [sceneV (14 :: 22 :: B) (15 :: 22 :: B) (16 :: 22 :: B) { s with graph := g', nodes := (s.nodes ++ List.replicate (g'.kids.length - s.nodes.length) zeroN).set h'.slot.toNat e.node }]), (14 :: 22 :: B, .row 33 (((s.nodes ++ List.replicate (g'.kids.length - s.nodes.length) zeroN).set h'.slot.toNat e.node).map Node.pv)), (15 :: 22 :: B, .row 3 (s.meshes.map Mesh.pv)), (16 :: 22 :: B, .row 3 (s.textures.map Texture.pv))] ?_ ?_ ?_ ?_
          · repeat' first | exact Sub.nil _ | refine Sub.cons (by simp [St.find]) ?_
          · repeat' first | exact StLe.nil | (apply StLe.cons; (focus (simp [St.find]; done)))
            all_goals try ((((repeat' first | exact St.find_hd _ _ _ | (apply St.find_tl; (focus (first | assumption | (simp; done) | (simp [*]; done))))); done)); done)
            all_goals first | exact ObLe.refl _ | (refine ObLe.of_eq ?_; simp [*]; done) | (simp only [List.map_set]; exact ObLe.row _ _ _ zeroSet) | (simp only [List.map_append, List.map_cons, List.map_nil]; exact ObLe.row _ _ _ (ELe.append (ELe.refl _) zeroE)) | (refine ObLe.row _ _ _ (ELe.one ?_ ?_); (focus (simp; done)))
            all_goals repeat' first | exact VLeL.nil | refine VLeL.cons ?_ ?_
            all_goals first | exact VLe.refl _ | exact VLe.cap _ _ | exact VLe.any _ | (apply VLe.row (h := ELe.refl _); (focus (((repeat' first | exact St.find_hd _ _ _ | (apply St.find_tl; (focus (first | assumption | (simp; done) | (simp [*]; done))))); done))); (simp [*]; done)) | (refine VLe.of_eq ?_; simp [*]; done)
          · simp [*]
          · try simp [St.apply, St.set]
            repeat' first | exact Sub.nil _ | refine Sub.cons (by simp [St.find]) ?_
end Go.Pv

