/- EditBack: for every scene and node, the law EditBack returns true, and what it was given reads as before. Part 6 of 6. -/
import Derived.Test.YtocechkkeadgkaaGreatT04
import Derived.OpenShut
import Derived.SizedLaws
import Derived.Test.YtocechkkeadgkaaGreatRows
import Derived.ProofKit
import Derived.JoinedCond
import Derived.Carry
set_option linter.unusedVariables false
set_option linter.unusedSimpArgs false
set_option maxRecDepth 100000
namespace Go.Pv
open Go Go.Proofs

theorem zeroSet {fs : St} {gs : Key → Prop} {l : List PV} {i : Nat} : ELe fs gs (l.set i zeroNodeV) (l.set i zeroN.pv) := by
  refine ELe.set i (ELe.refl _) rfl ?_
  repeat' first | exact VLeL.nil | refine VLeL.cons ?_ ?_
  all_goals first | exact VLe.refl _ | exact VLe.cap _ _

def sceneKill (s : Scene) (h : Handle) : Scene × Int :=
  if (nodesKill s.graph h).2 = 0 then
    ({ s with graph := (nodesKill s.graph h).1, nodes := s.nodes.set h.slot.toNat zeroN, root := if s.root = h then ⟨0, 0⟩ else s.root }, 0)
  else (s, (nodesKill s.graph h).2)

theorem askErr_zero {g : Graph} {h : Handle} (ha : askErr g [h] = 0) : graphOk g = true ∧ Held g.slots h ∧ 0 ≤ h.slot ∧ h.slot.toNat < g.kids.length := by
  have hb : graphOk g = true ∧ HoldsB g.slots h = true := by
    unfold askErr at ha
    split at ha
    · refine ⟨‹_›, ?_⟩
      simpa using ha
    · omega
  obtain ⟨hg1, hg2⟩ := hb
  have hab : arenaBad g.slots = false := by simp only [graphOk, Bool.and_eq_true, Bool.not_eq_true'] at hg1; exact hg1.1
  have hkl : g.kids.length = g.slots.length := by simp only [graphOk, Bool.and_eq_true, decide_eq_true_eq] at hg1; exact hg1.2.1
  rw [holdsB_iff hab, decide_eq_true_eq] at hg2
  obtain ⟨h0, hlt⟩ := held_range hg2
  exact ⟨hg1, hg2, h0, by omega⟩

theorem nodesKill_facts {g : Graph} {h : Handle} (hk : (nodesKill g h).2 = 0) : 0 ≤ h.slot ∧ h.slot.toNat < g.kids.length := by
  unfold nodesKill at hk
  split at hk
  · rename_i ha
    exact ⟨(askErr_zero ha).2.2.1, (askErr_zero ha).2.2.2⟩
  · rename_i ha
    exact absurd hk ha

set_option maxHeartbeats 8000000
theorem ent118 : enters Tryz.prog 118 = true := by kernel_rfl
theorem runs118 (B : Key) (s : Scene) (e : Edit) (hs : s.Caps) (hk : s.nodes.length = s.graph.kids.length) (hh : ∀ l ∈ s.graph.kids, e.h ∉ l) : Runs Tryz.prog (29 :: B) 118 [.ptr (24 :: B) 1 0 0, e.pv] (sceneSt B s)
    (.tup [Took.pv ⟨⟨0, 0⟩, 0⟩, .int .i64 (sceneKill s e.h).2]) (sceneUp B (sceneKill s e.h).1) := by
  have hups : ∀ t, ∀ x ∈ sceneUp B t, 29 :: B <:+ x.1 ∨ ∃ ob, St.find (sceneSt B s) x.1 = some ob := by
    intro t x hx
    simp only [sceneUp, List.mem_cons, List.not_mem_nil, or_false] at hx
    rcases hx with rfl | rfl
    · exact .inr ⟨_, St.find_hd _ _ _⟩
    · exact .inr ⟨_, St.find_tl (by simp) (St.find_hd _ _ _)⟩
  have hnm := runs214 (11 :: 29 :: B) s.graph e.h hs.graph hh
  by_cases he : (nodesKill s.graph e.h).2 = 0
  rotate_left
  · have hm : sceneKill s e.h = (s, (nodesKill s.graph e.h).2) := by simp [sceneKill, he]
    rw [hm]
    refine Runs.body (rs := [.cell 4 66, .tmp 5]) ent118 Tryz.func118 rfl Tryz.ntmps118 rfl (hups _) ?_
    clear hups hm hk hh
    generalize nodesKill s.graph e.h = m at *
    obtain ⟨g', er⟩ := m
    simp only at he
    unfold sceneSt sceneUp
    repeat' first
     |(with_reducible first|apply qa|apply qb|apply qc|apply qd|apply qe|apply qf|apply qg|apply qh|apply qi|apply qj|apply qk|apply ql|apply qm|apply qn|apply qo|apply qp|apply qq|refine blockP_ne (by decide) ?_)
     |((with_reducible refine Pwp.reg fun K hK=>?_);simp[he])
     |((with_reducible refine Pwp.drawn (id := 1) follows_mixed [0, 0, 2, 6, 14, 30, 0, 64, 254, 510, 510, 2047, 4095] [false, false, false, false, false, false, false, false, true, false, false, true, false] ?_ fun K hK => ?_); focus kernel_rfl
       simp [he])
     |((with_reducible refine Pwp.drawn (id := 4) follows_mixed [0, 1, 3, 7, 15, 0, 32, 96, 0, 511, 1023] [false, false, false, false, false, false, false, false, false, true, true] ?_ fun K hK => ?_); focus kernel_rfl
       simp [he])
     |((with_reducible refine Pwp.drawn (id := 5) follows_mixed [0, 1, 3, 7, 15, 0, 32, 127] [false, false, false, false, false, false, false, false] ?_ fun K hK => ?_); focus kernel_rfl
       simp [he])
     |((with_reducible refine Hid.go hK ?_);clear hK K)|((with_reducible apply Pwp.condG);rfl)|((with_reducible first|apply qqj|apply qqk);simp[he];done)|((with_reducible first|apply qr|apply qs|apply qt|apply qu|apply qv|apply qw)<;>intro h)
     |((with_reducible first|apply qx|apply qy|apply qz|apply qqa|apply qqb|apply qqc|apply qqd|apply qqe|apply qqf|apply qqg|apply qqh|apply qqi)<;>intro h<;>try simp[h, he])
     |((with_reducible refine and_go ?_ fun hs=>?_);focus omega
       try simp[he])
     |((with_reducible first|apply qql|apply qqn|apply qqp|apply qqm|apply qqo|apply qqq);simp[he])
    refine dcallk_pure hnm ?_
    repeat' first
     |(with_reducible first|apply qa|apply qb|apply qc|apply qd|apply qe|apply qf|apply qg|apply qh|apply qi|apply qj|apply qk|apply ql|apply qm|apply qn|apply qo|apply qp|apply qq|refine blockP_ne (by decide) ?_)
     |((with_reducible refine Pwp.reg fun K hK=>?_);simp[he])
     |((with_reducible refine Pwp.drawn (id := 1) follows_mixed [0, 0, 2, 6, 14, 30, 0, 64, 254, 510, 510, 2047, 4095] [false, false, false, false, false, false, false, false, true, false, false, true, false] ?_ fun K hK => ?_); focus kernel_rfl
       simp [he])
     |((with_reducible refine Pwp.drawn (id := 4) follows_mixed [0, 1, 3, 7, 15, 0, 32, 96, 0, 511, 1023] [false, false, false, false, false, false, false, false, false, true, true] ?_ fun K hK => ?_); focus kernel_rfl
       simp [he])
     |((with_reducible refine Pwp.drawn (id := 5) follows_mixed [0, 1, 3, 7, 15, 0, 32, 127] [false, false, false, false, false, false, false, false] ?_ fun K hK => ?_); focus kernel_rfl
       simp [he])
     |((with_reducible refine Hid.go hK ?_);clear hK K)|((with_reducible apply Pwp.condG);rfl)|((with_reducible first|apply qqj|apply qqk);simp[he];done)|((with_reducible first|apply qr|apply qs|apply qt|apply qu|apply qv|apply qw)<;>intro h)
     |((with_reducible first|apply qx|apply qy|apply qz|apply qqa|apply qqb|apply qqc|apply qqd|apply qqe|apply qqf|apply qqg|apply qqh|apply qqi)<;>intro h<;>try simp[h, he])
     |((with_reducible refine and_go ?_ fun hs=>?_);focus omega
       try simp[he])
     |((with_reducible first|apply qql|apply qqn|apply qqp|apply qqm|apply qqo|apply qqq);simp[he])
    refine dcallk_new (runs210 _ (24 :: B) g' er (slotsPv s.graph.slots) (kidsPv s.graph.kids) (.slice (14 :: 22 :: B) s.nodes.length) (.slice (15 :: 22 :: B) s.meshes.length) (.slice (16 :: 22 :: B) s.textures.length) (.int .i64 s.root.slot) (.int .i64 s.root.gen)) (Sub.one (by simp [St.find])) (by simp) ?_
    repeat' first
     |(with_reducible first|apply qa|apply qb|apply qc|apply qd|apply qe|apply qf|apply qg|apply qh|apply qi|apply qj|apply qk|apply ql|apply qm|apply qn|apply qo|apply qp|apply qq|refine blockP_ne (by decide) ?_)
     |((with_reducible refine Pwp.reg fun K hK=>?_);simp[he])
     |((with_reducible refine Pwp.drawn (id := 1) follows_mixed [0, 0, 2, 6, 14, 30, 0, 64, 254, 510, 510, 2047, 4095] [false, false, false, false, false, false, false, false, true, false, false, true, false] ?_ fun K hK => ?_); focus kernel_rfl
       simp [he])
     |((with_reducible refine Pwp.drawn (id := 4) follows_mixed [0, 1, 3, 7, 15, 0, 32, 96, 0, 511, 1023] [false, false, false, false, false, false, false, false, false, true, true] ?_ fun K hK => ?_); focus kernel_rfl
       simp [he])
     |((with_reducible refine Pwp.drawn (id := 5) follows_mixed [0, 1, 3, 7, 15, 0, 32, 127] [false, false, false, false, false, false, false, false] ?_ fun K hK => ?_); focus kernel_rfl
       simp [he])
     |((with_reducible refine Hid.go hK ?_);clear hK K)|((with_reducible apply Pwp.condG);rfl)|((with_reducible first|apply qqj|apply qqk);simp[he];done)|((with_reducible first|apply qr|apply qs|apply qt|apply qu|apply qv|apply qw)<;>intro h)
     |((with_reducible first|apply qx|apply qy|apply qz|apply qqa|apply qqb|apply qqc|apply qqd|apply qqe|apply qqf|apply qqg|apply qqh|apply qqi)<;>intro h<;>try simp[h, he])
     |((with_reducible refine and_go ?_ fun hs=>?_);focus omega
       try simp[he])
     |((with_reducible first|apply qql|apply qqn|apply qqp|apply qqm|apply qqo|apply qqq);simp[he])
    refine endP_mem (by first | exact .inl rfl | exact .inr rfl) [] [(1 :: 29 :: B, .row 3 [Took.pv ⟨⟨0, 0⟩, 0⟩]), (24 :: B, .row 7 [sceneV (14 :: 22 :: B) (15 :: 22 :: B) (16 :: 22 :: B) s]), (14 :: 22 :: B, .row 33 (s.nodes.map Node.pv)), (15 :: 22 :: B, .row 3 (s.meshes.map Mesh.pv)), (16 :: 22 :: B, .row 3 (s.textures.map Texture.pv))] ?_ ?_ ?_ ?_
    · repeat' first | exact Sub.nil _ | refine Sub.cons (by simp [St.find]) ?_
    · repeat' first | exact StLe.nil | (apply StLe.cons; (focus (simp [St.find]; done)))
      all_goals try ((((repeat' first | exact St.find_hd _ _ _ | (apply St.find_tl; (focus (first | assumption | (simp; done) | (simp [*]; done))))); done)); done)
      all_goals first | exact ObLe.refl _ | (refine ObLe.of_eq ?_; simp [*]; done) | (simp only [List.map_set]; exact ObLe.row _ _ _ zeroSet) | (simp only [List.map_set]; exact ObLe.row _ _ _ (ELe.set _ (ELe.refl _) rfl (VLeL.cons (VLe.cap _ _) VLeL.nil))) | (simp only [List.map_append, List.map_cons, List.map_nil]; exact ObLe.row _ _ _ (ELe.append (ELe.refl _) zeroE)) | (refine ObLe.row _ _ _ (ELe.one ?_ ?_); (focus (simp; done)))
      all_goals repeat' first | exact VLeL.nil | refine VLeL.cons ?_ ?_
      all_goals first | exact VLe.refl _ | exact VLe.cap _ _ | exact VLe.any _ | (apply VLe.row (h := ELe.refl _); (focus (((repeat' first | exact St.find_hd _ _ _ | (apply St.find_tl; (focus (first | assumption | (simp; done) | (simp [*]; done))))); done))); (simp [*]; done)) | (refine VLe.of_eq ?_; simp [*]; done)
    · simp [*]
    · try simp [St.apply, St.set]
      repeat' first | exact Sub.nil _ | refine Sub.cons (by simp [St.find]) ?_
  · obtain ⟨f1, f2⟩ := nodesKill_facts he
    rw [← hk] at f2
    have hm : sceneKill s e.h = ({ s with graph := (nodesKill s.graph e.h).1, nodes := s.nodes.set e.h.slot.toNat zeroN, root := if s.root = e.h then ⟨0, 0⟩ else s.root }, 0) := by simp [sceneKill, he]
    rw [hm]
    refine Runs.body (rs := [.cell 4 66, .tmp 5]) ent118 Tryz.func118 rfl Tryz.ntmps118 rfl (hups _) ?_
    clear hups hm hk hh
    generalize nodesKill s.graph e.h = m at *
    obtain ⟨g', er⟩ := m
    simp only at he
    subst he
    have f3 : (e.h.slot < (s.nodes.length : Int)) = True := by simp only [eq_iff_iff, iff_true]; omega
    unfold sceneSt sceneUp
    repeat' first
     |(with_reducible first|apply qa|apply qb|apply qc|apply qd|apply qe|apply qf|apply qg|apply qh|apply qi|apply qj|apply qk|apply ql|apply qm|apply qn|apply qo|apply qp|apply qq|refine blockP_ne (by decide) ?_)
     |((with_reducible refine Pwp.reg fun K hK=>?_);simp[f1])
     |((with_reducible refine Pwp.drawn (id := 1) follows_mixed [0, 0, 2, 6, 14, 30, 0, 64, 254, 510, 510, 2047, 4095] [false, false, false, false, false, false, false, false, true, false, false, true, false] ?_ fun K hK => ?_); focus kernel_rfl
       simp [f1])
     |((with_reducible refine Pwp.drawn (id := 4) follows_mixed [0, 1, 3, 7, 15, 0, 32, 96, 0, 511, 1023] [false, false, false, false, false, false, false, false, false, true, true] ?_ fun K hK => ?_); focus kernel_rfl
       simp [f1])
     |((with_reducible refine Pwp.drawn (id := 5) follows_mixed [0, 1, 3, 7, 15, 0, 32, 127] [false, false, false, false, false, false, false, false] ?_ fun K hK => ?_); focus kernel_rfl
       simp [f1])
     |((with_reducible refine Hid.go hK ?_);clear hK K)|((with_reducible apply Pwp.condG);rfl)|((with_reducible first|apply qqj|apply qqk);simp[f1];done)|((with_reducible first|apply qr|apply qs|apply qt|apply qu|apply qv|apply qw)<;>intro h)
     |((with_reducible first|apply qx|apply qy|apply qz|apply qqa|apply qqb|apply qqc|apply qqd|apply qqe|apply qqf|apply qqg|apply qqh|apply qqi)<;>intro h<;>try simp[h, f1])
     |((with_reducible refine and_go ?_ fun hs=>?_);focus omega
       try simp[f1])
     |((with_reducible first|apply qql|apply qqn|apply qqp|apply qqm|apply qqo|apply qqq);simp[f1])
    refine dcallk_pure hnm ?_
    repeat' first
     |(with_reducible first|apply qa|apply qb|apply qc|apply qd|apply qe|apply qf|apply qg|apply qh|apply qi|apply qj|apply qk|apply ql|apply qm|apply qn|apply qo|apply qp|apply qq|refine blockP_ne (by decide) ?_)
     |((with_reducible refine Pwp.reg fun K hK=>?_);simp[f1])
     |((with_reducible refine Pwp.drawn (id := 1) follows_mixed [0, 0, 2, 6, 14, 30, 0, 64, 254, 510, 510, 2047, 4095] [false, false, false, false, false, false, false, false, true, false, false, true, false] ?_ fun K hK => ?_); focus kernel_rfl
       simp [f1])
     |((with_reducible refine Pwp.drawn (id := 4) follows_mixed [0, 1, 3, 7, 15, 0, 32, 96, 0, 511, 1023] [false, false, false, false, false, false, false, false, false, true, true] ?_ fun K hK => ?_); focus kernel_rfl
       simp [f1])
     |((with_reducible refine Pwp.drawn (id := 5) follows_mixed [0, 1, 3, 7, 15, 0, 32, 127] [false, false, false, false, false, false, false, false] ?_ fun K hK => ?_); focus kernel_rfl
       simp [f1])
     |((with_reducible refine Hid.go hK ?_);clear hK K)|((with_reducible apply Pwp.condG);rfl)|((with_reducible first|apply qqj|apply qqk);simp[f1];done)|((with_reducible first|apply qr|apply qs|apply qt|apply qu|apply qv|apply qw)<;>intro h)
     |((with_reducible first|apply qx|apply qy|apply qz|apply qqa|apply qqb|apply qqc|apply qqd|apply qqe|apply qqf|apply qqg|apply qqh|apply qqi)<;>intro h<;>try simp[h, f1])
     |((with_reducible refine and_go ?_ fun hs=>?_);focus omega
       try simp[f1])
     |((with_reducible first|apply qql|apply qqn|apply qqp|apply qqm|apply qqo|apply qqq);simp[f1])
    refine dcallk_new (runs210 _ (24 :: B) g' 0 (slotsPv s.graph.slots) (kidsPv s.graph.kids) (.slice (14 :: 22 :: B) s.nodes.length) (.slice (15 :: 22 :: B) s.meshes.length) (.slice (16 :: 22 :: B) s.textures.length) (.int .i64 s.root.slot) (.int .i64 s.root.gen)) (Sub.one (by simp [St.find])) (by simp) ?_
    by_cases hr : s.root.slot = e.h.slot ∧ s.root.gen = e.h.gen
    · obtain ⟨r1, r2⟩ := hr
      have hre : s.root = e.h := by cases h1 : s.root; cases h2 : e.h; simp_all
      repeat' first
       |(with_reducible first|apply qa|apply qb|apply qc|apply qd|apply qe|apply qf|apply qg|apply qh|apply qi|apply qj|apply qk|apply ql|apply qm|apply qn|apply qo|apply qp|apply qq|refine blockP_ne (by decide) ?_)
       |((with_reducible refine Pwp.reg fun K hK=>?_);simp[f1, f2, f3, r1, r2])
       |((with_reducible refine Pwp.drawn (id := 1) follows_mixed [0, 0, 2, 6, 14, 30, 0, 64, 254, 510, 510, 2047, 4095] [false, false, false, false, false, false, false, false, true, false, false, true, false] ?_ fun K hK => ?_); focus kernel_rfl
         simp [f1, f2, f3, r1, r2])
       |((with_reducible refine Pwp.drawn (id := 4) follows_mixed [0, 1, 3, 7, 15, 0, 32, 96, 0, 511, 1023] [false, false, false, false, false, false, false, false, false, true, true] ?_ fun K hK => ?_); focus kernel_rfl
         simp [f1, f2, f3, r1, r2])
       |((with_reducible refine Pwp.drawn (id := 5) follows_mixed [0, 1, 3, 7, 15, 0, 32, 127] [false, false, false, false, false, false, false, false] ?_ fun K hK => ?_); focus kernel_rfl
         simp [f1, f2, f3, r1, r2])
       |((with_reducible refine Hid.go hK ?_);clear hK K)|((with_reducible apply Pwp.condG);rfl)|((with_reducible first|apply qqj|apply qqk);simp[f1, f2, f3, r1, r2];done)|((with_reducible first|apply qr|apply qs|apply qt|apply qu|apply qv|apply qw)<;>intro h)
       |((with_reducible first|apply qx|apply qy|apply qz|apply qqa|apply qqb|apply qqc|apply qqd|apply qqe|apply qqf|apply qqg|apply qqh|apply qqi)<;>intro h<;>try simp[h, f1, f2, f3, r1, r2])
       |((with_reducible refine and_go ?_ fun hs=>?_);focus omega
         try simp[f1, f2, f3, r1, r2])
       |((with_reducible first|apply qql|apply qqn|apply qqp|apply qqm|apply qqo|apply qqq);simp[f1, f2, f3, r1, r2])
      refine endP_mem (by first | exact .inl rfl | exact .inr rfl) [] [(1 :: 29 :: B, .row 3 [Took.pv ⟨⟨0, 0⟩, 0⟩]), (24 :: B, .row 7 [sceneV (14 :: 22 :: B) (15 :: 22 :: B) (16 :: 22 :: B) { s with graph := g', nodes := s.nodes.set e.h.slot.toNat zeroN, root := if s.root = e.h then ⟨0, 0⟩ else s.root }]), (14 :: 22 :: B, .row 33 ((s.nodes.set e.h.slot.toNat zeroN).map Node.pv)), (15 :: 22 :: B, .row 3 (s.meshes.map Mesh.pv)), (16 :: 22 :: B, .row 3 (s.textures.map Texture.pv))] ?_ ?_ ?_ ?_
      · repeat' first | exact Sub.nil _ | refine Sub.cons (by simp [St.find]) ?_
      · repeat' first | exact StLe.nil | (apply StLe.cons; (focus (simp [St.find]; done)))
        all_goals try ((((repeat' first | exact St.find_hd _ _ _ | (apply St.find_tl; (focus (first | assumption | (simp; done) | (simp [*]; done))))); done)); done)
        all_goals first | exact ObLe.refl _ | (refine ObLe.of_eq ?_; simp [*]; done) | (simp only [List.map_set]; exact ObLe.row _ _ _ zeroSet) | (simp only [List.map_set]; exact ObLe.row _ _ _ (ELe.set _ (ELe.refl _) rfl (VLeL.cons (VLe.cap _ _) VLeL.nil))) | (simp only [List.map_append, List.map_cons, List.map_nil]; exact ObLe.row _ _ _ (ELe.append (ELe.refl _) zeroE)) | (refine ObLe.row _ _ _ (ELe.one ?_ ?_); (focus (simp; done)))
        all_goals repeat' first | exact VLeL.nil | refine VLeL.cons ?_ ?_
        all_goals first | exact VLe.refl _ | exact VLe.cap _ _ | exact VLe.any _ | (apply VLe.row (h := ELe.refl _); (focus (((repeat' first | exact St.find_hd _ _ _ | (apply St.find_tl; (focus (first | assumption | (simp; done) | (simp [*]; done))))); done))); (simp [*]; done)) | (refine VLe.of_eq ?_; simp [*]; done)
      · simp [*]
      · try simp [St.apply, St.set]
        repeat' first | exact Sub.nil _ | refine Sub.cons (by simp [St.find]) ?_
    · have hre : ¬ s.root = e.h := fun q => hr (by rw [q]; exact ⟨rfl, rfl⟩)
      have hr2 : (decide (s.root.slot = e.h.slot) && decide (s.root.gen = e.h.gen)) = false := by
        by_cases q : s.root.slot = e.h.slot
        · have q2 : ¬ s.root.gen = e.h.gen := fun q2 => hr ⟨q, q2⟩
          simp [q2]
        · simp [q]
      repeat' first
       |(with_reducible first|apply qa|apply qb|apply qc|apply qd|apply qe|apply qf|apply qg|apply qh|apply qi|apply qj|apply qk|apply ql|apply qm|apply qn|apply qo|apply qp|apply qq|refine blockP_ne (by decide) ?_)
       |((with_reducible refine Pwp.reg fun K hK=>?_);simp[f1, f2, f3, hr2])
       |((with_reducible refine Pwp.drawn (id := 1) follows_mixed [0, 0, 2, 6, 14, 30, 0, 64, 254, 510, 510, 2047, 4095] [false, false, false, false, false, false, false, false, true, false, false, true, false] ?_ fun K hK => ?_); focus kernel_rfl
         simp [f1, f2, f3, hr2])
       |((with_reducible refine Pwp.drawn (id := 4) follows_mixed [0, 1, 3, 7, 15, 0, 32, 96, 0, 511, 1023] [false, false, false, false, false, false, false, false, false, true, true] ?_ fun K hK => ?_); focus kernel_rfl
         simp [f1, f2, f3, hr2])
       |((with_reducible refine Pwp.drawn (id := 5) follows_mixed [0, 1, 3, 7, 15, 0, 32, 127] [false, false, false, false, false, false, false, false] ?_ fun K hK => ?_); focus kernel_rfl
         simp [f1, f2, f3, hr2])
       |((with_reducible refine Hid.go hK ?_);clear hK K)|((with_reducible apply Pwp.condG);rfl)|((with_reducible first|apply qqj|apply qqk);simp[f1, f2, f3, hr2];done)|((with_reducible first|apply qr|apply qs|apply qt|apply qu|apply qv|apply qw)<;>intro h)
       |((with_reducible first|apply qx|apply qy|apply qz|apply qqa|apply qqb|apply qqc|apply qqd|apply qqe|apply qqf|apply qqg|apply qqh|apply qqi)<;>intro h<;>try simp[h, f1, f2, f3, hr2])
       |((with_reducible refine and_go ?_ fun hs=>?_);focus omega
         try simp[f1, f2, f3, hr2])
       |((with_reducible first|apply qql|apply qqn|apply qqp|apply qqm|apply qqo|apply qqq);simp[f1, f2, f3, hr2])
      refine endP_mem (by first | exact .inl rfl | exact .inr rfl) [] [(1 :: 29 :: B, .row 3 [Took.pv ⟨⟨0, 0⟩, 0⟩]), (24 :: B, .row 7 [sceneV (14 :: 22 :: B) (15 :: 22 :: B) (16 :: 22 :: B) { s with graph := g', nodes := s.nodes.set e.h.slot.toNat zeroN, root := if s.root = e.h then ⟨0, 0⟩ else s.root }]), (14 :: 22 :: B, .row 33 ((s.nodes.set e.h.slot.toNat zeroN).map Node.pv)), (15 :: 22 :: B, .row 3 (s.meshes.map Mesh.pv)), (16 :: 22 :: B, .row 3 (s.textures.map Texture.pv))] ?_ ?_ ?_ ?_
      · repeat' first | exact Sub.nil _ | refine Sub.cons (by simp [St.find]) ?_
      · repeat' first | exact StLe.nil | (apply StLe.cons; (focus (simp [St.find]; done)))
        all_goals try ((((repeat' first | exact St.find_hd _ _ _ | (apply St.find_tl; (focus (first | assumption | (simp; done) | (simp [*]; done))))); done)); done)
        all_goals first | exact ObLe.refl _ | (refine ObLe.of_eq ?_; simp [*]; done) | (simp only [List.map_set]; exact ObLe.row _ _ _ zeroSet) | (simp only [List.map_set]; exact ObLe.row _ _ _ (ELe.set _ (ELe.refl _) rfl (VLeL.cons (VLe.cap _ _) VLeL.nil))) | (simp only [List.map_append, List.map_cons, List.map_nil]; exact ObLe.row _ _ _ (ELe.append (ELe.refl _) zeroE)) | (refine ObLe.row _ _ _ (ELe.one ?_ ?_); (focus (simp; done)))
        all_goals repeat' first | exact VLeL.nil | refine VLeL.cons ?_ ?_
        all_goals first | exact VLe.refl _ | exact VLe.cap _ _ | exact VLe.any _ | (apply VLe.row (h := ELe.refl _); (focus (((repeat' first | exact St.find_hd _ _ _ | (apply St.find_tl; (focus (first | assumption | (simp; done) | (simp [*]; done))))); done))); (simp [*]; done)) | (refine VLe.of_eq ?_; simp [*]; done)
      · simp [*]
      · try simp [St.apply, St.set]
        repeat' first | exact Sub.nil _ | refine Sub.cons (by simp [St.find]) ?_
end Go.Pv

set_option linter.unusedVariables false
set_option linter.unusedSimpArgs false
set_option maxRecDepth 100000
namespace Go.Pv
open Go Go.Proofs

theorem caps_of_ok {s : Scene} (h : sceneOk s = true) : s.Caps ∧ s.nodes.length = s.graph.kids.length := by
  simp only [sceneOk, Bool.and_eq_true, decide_eq_true_eq, Bool.not_eq_true'] at h
  obtain ⟨hg, hn, hm, hm2, ht, ht2, hng, hr⟩ := h
  have hg2 := hg
  simp only [graphOk, Bool.and_eq_true, decide_eq_true_eq, Bool.not_eq_true'] at hg2
  obtain ⟨ha, hk, hrow, hloop⟩ := hg2
  have h128 := arena_len ha
  refine ⟨⟨⟨by omega, by omega, fun l hl => ?_⟩, by omega, fun n hnn => ?_, by omega, fun m hmm => ?_, by omega, fun t htt => ?_⟩, hn⟩
  · obtain ⟨i, hi, rfl⟩ := List.getElem_of_mem hl
    have := hrow i hi
    simp only [rowBad, Bool.or_eq_false_iff, decide_eq_false_iff_not] at this
    omega
  · obtain ⟨i, hi, rfl⟩ := List.getElem_of_mem hnn
    have := hng i hi
    unfold nodeBad at this
    split at this
    · simp only [Bool.or_eq_false_iff, Bool.not_eq_false'] at this
      exact nodeOk_far this.1
    · simp only [Bool.not_eq_false', decide_eq_true_eq] at this
      rw [this]
      simp [zeroN]
  · rw [List.any_eq_false] at hm2
    have := hm2 m hmm
    simp only [decide_eq_true_eq, ne_eq, Decidable.not_not] at this
    unfold meshErr at this
    split at this
    · omega
    rename_i h1
    split at this
    · omega
    split at this
    · rename_i h3
      refine ⟨by omega, by omega, by omega, fun p hp => ?_⟩
      simp only [trisOk, Bool.and_eq_true, List.all_eq_true] at h3
      have := h3.1 p hp
      simp only [primGood, Bool.and_eq_true, decide_eq_true_eq] at this
      have := this.1
      unfold primErr at this
      split at this
      · omega
      split at this
      · omega
      omega
    · omega
  · rw [List.any_eq_false] at ht2
    have := ht2 t htt
    simp only [texBad, Bool.or_eq_true, not_or, Bool.not_eq_true, Bool.not_eq_false', sideOk, decide_eq_true_eq, decide_eq_false_iff_not] at this
    obtain ⟨⟨h1, h2⟩, h3⟩ := this
    have h4 : t.w * t.h ≤ 16 * 16 := Int.mul_le_mul h1.2 h2.2 (by omega) (by omega)
    omega

def zeroS : Scene := ⟨⟨[], []⟩, [], [], [], ⟨0, 0⟩⟩
def doMake (s : Scene) (n : Node) : Scene × Handle × Int :=
  if sceneOk s = true then (if (sceneMake s n).2.2 = 0 then sceneMake s n else (zeroS, ⟨0, 0⟩, (sceneMake s n).2.2)) else (zeroS, ⟨0, 0⟩, 8)
def doKill (s : Scene) (h : Handle) : Scene × Int :=
  if sceneOk s = true then (if (sceneKill s h).2 = 0 then sceneKill s h else (zeroS, (sceneKill s h).2)) else (zeroS, 8)

set_option maxHeartbeats 8000000
theorem ent16 : enters Tryz.prog 16 = true := by kernel_rfl
theorem runs16bad (A : Key) (s : Scene) (e : Edit) (hs : s.Lens) (hok : sceneOk s = false) : Runs Tryz.prog A 16 [s.pv, e.pv] [] (.tup [zeroS.pv, Took.pv ⟨⟨0, 0⟩, 0⟩, .int .i64 8]) [] := by
  refine Runs.body (rs := [.cell 4 34, .cell 5 66, .tmp 6]) ent16 Tryz.func16 rfl Tryz.ntmps16 rfl (fun x h => by cases h) ?_
  repeat' first
   |(with_reducible first|apply qa|apply qb|apply qc|apply qd|apply qe|apply qf|apply qg|apply qh|apply qi|apply qj|apply qk|apply ql|apply qm|apply qn|apply qo|apply qp|apply qq|refine blockP_ne (by decide) ?_)
   |((with_reducible refine Pwp.reg fun K hK=>?_);simp[*])
   |((with_reducible refine Pwp.drawn (id := 4) follows_mixed [0, 0, 2, 7, 15, 31, 31, 63, 255] [false, false, false, true, false, false, false, false, false] ?_ fun K hK => ?_); focus kernel_rfl
     simp [*])
   |((with_reducible refine Pwp.drawnOw (id := 11) follows_mixed [0, 1, 3, 7, 0, 15, 63, 127] [false, false, false, false, false, false, true, false] (2 :: A) 5 (by simp [St.find]) ?_ fun K hK => ?_); focus kernel_rfl
     simp [*])
   |((with_reducible refine Hid.go hK ?_);clear hK K)|((with_reducible apply Pwp.condG);rfl)|((with_reducible first|apply qqj|apply qqk);simp[*];done)|((with_reducible first|apply qr|apply qs|apply qt|apply qu|apply qv|apply qw)<;>intro h)
   |((with_reducible first|apply qx|apply qy|apply qz|apply qqa|apply qqb|apply qqc|apply qqd|apply qqe|apply qqf|apply qqg|apply qqh|apply qqi)<;>intro h<;>try simp[h, *])
   |((with_reducible refine and_go ?_ fun hs=>?_);focus omega
     try simp[*])
   |((with_reducible first|apply qql|apply qqn|apply qqp|apply qqm|apply qqo|apply qqq);simp[*])
  refine vcallk_pure (runs23 _ s hs) ?_
  repeat' first
   |(with_reducible first|apply qa|apply qb|apply qc|apply qd|apply qe|apply qf|apply qg|apply qh|apply qi|apply qj|apply qk|apply ql|apply qm|apply qn|apply qo|apply qp|apply qq|refine blockP_ne (by decide) ?_)
   |((with_reducible refine Pwp.reg fun K hK=>?_);simp[hok, errIf])
   |((with_reducible refine Pwp.drawn (id := 4) follows_mixed [0, 0, 2, 7, 15, 31, 31, 63, 255] [false, false, false, true, false, false, false, false, false] ?_ fun K hK => ?_); focus kernel_rfl
     simp [hok, errIf])
   |((with_reducible refine Pwp.drawnOw (id := 11) follows_mixed [0, 1, 3, 7, 0, 15, 63, 127] [false, false, false, false, false, false, true, false] (2 :: A) 5 (by simp [St.find]) ?_ fun K hK => ?_); focus kernel_rfl
     simp [hok, errIf])
   |((with_reducible refine Hid.go hK ?_);clear hK K)|((with_reducible apply Pwp.condG);rfl)|((with_reducible first|apply qqj|apply qqk);simp[hok, errIf];done)|((with_reducible first|apply qr|apply qs|apply qt|apply qu|apply qv|apply qw)<;>intro h)
   |((with_reducible first|apply qx|apply qy|apply qz|apply qqa|apply qqb|apply qqc|apply qqd|apply qqe|apply qqf|apply qqg|apply qqh|apply qqi)<;>intro h<;>try simp[h, hok, errIf])
   |((with_reducible refine and_go ?_ fun hs=>?_);focus omega
     try simp[hok, errIf])
   |((with_reducible first|apply qql|apply qqn|apply qqp|apply qqm|apply qqo|apply qqq);simp[hok, errIf])
  refine endP_mem (by first | exact .inl rfl | exact .inr rfl) [] [(2 :: A, .row 7 [zeroS.pv]), (3 :: A, .row 3 [Took.pv ⟨⟨0, 0⟩, 0⟩])] ?_ ?_ ?_ ?_
  · repeat' first | exact Sub.nil _ | refine Sub.cons (by simp [St.find]) ?_
  · repeat' first | exact StLe.nil | (apply StLe.cons; (focus (simp [St.find]; done)))
    all_goals try ((((repeat' first | exact St.find_hd _ _ _ | (apply St.find_tl; (focus (first | assumption | (simp; done) | (simp [*]; done))))); done)); done)
    all_goals first | exact ObLe.refl _ | (refine ObLe.of_eq ?_; simp [*]; done) | (refine ObLe.row _ _ _ (ELe.one ?_ ?_); (focus (simp; done)))
    all_goals repeat' first | exact VLeL.nil | refine VLeL.cons ?_ ?_
    all_goals first | exact VLe.refl _ | exact VLe.cap _ _ | exact VLe.any _ | (apply VLe.row (h := ELe.refl _); (focus (((repeat' first | exact St.find_hd _ _ _ | (apply St.find_tl; (focus (first | assumption | (simp; done) | (simp [*]; done))))); done))); (simp [*]; done)) | (refine VLe.of_eq ?_; simp [*]; done)
  · simp [*]
  · repeat' first | exact Sub.nil _ | refine Sub.cons (by simp [St.find]) ?_

theorem sceneSt_sub {A : Key} {s : Scene} {T : St} (h0 : St.find T (24 :: A) = some (.row 7 [sceneV (14 :: 22 :: A) (15 :: 22 :: A) (16 :: 22 :: A) s])) (h1 : St.find T (14 :: 22 :: A) = some (.row 33 (s.nodes.map Node.pv))) (h2 : St.find T (15 :: 22 :: A) = some (.row 3 (s.meshes.map Mesh.pv))) (h3 : St.find T (16 :: 22 :: A) = some (.row 3 (s.textures.map Texture.pv))) : Sub (sceneSt A s) T :=
  Sub.cons h0 (Sub.cons h1 (Sub.cons h2 (Sub.cons h3 (Sub.nil _))))

theorem runs16make (A : Key) (s : Scene) (e : Edit) (hs : s.Lens) (hk : e.kind = 1) (hfar : e.node.far.length < 4611686018427387904) : Runs Tryz.prog A 16 [s.pv, e.pv] [] (.tup [(doMake s e.node).1.pv, Took.pv ⟨(doMake s e.node).2.1, 0⟩, .int .i64 (doMake s e.node).2.2]) [] := by
  obtain ⟨ek, eh, ec, ea, en, em, et⟩ := e
  simp only at hk
  subst hk
  simp only at *
  cases hok : sceneOk s with
  | false =>
    have hm : doMake s en = (zeroS, ⟨0, 0⟩, 8) := by simp [doMake, hok]
    rw [hm]
    exact runs16bad A s _ hs hok
  | true =>
    obtain ⟨hc, hnk⟩ := caps_of_ok hok
    have hmk := runs114 A s ⟨1, eh, ec, ea, en, em, et⟩ hc hfar hnk
    have htw := runs54 (22 :: A) s hc
    simp only at hmk
    by_cases he : (sceneMake s en).2.2 = 0
    · have hm : doMake s en = sceneMake s en := by simp [doMake, hok, he]
      rw [hm]
      have q1 : (sceneMake s en).1.meshes = s.meshes := by unfold sceneMake; (repeat' split) <;> rfl
      have q2 : (sceneMake s en).1.textures = s.textures := by unfold sceneMake; (repeat' split) <;> rfl
      generalize sceneMake s en = m at *
      obtain ⟨s', h', e'⟩ := m
      simp only at he q1 q2
      subst he
      clear hnk hm
      refine Runs.body (rs := [.cell 4 34, .cell 5 66, .tmp 6]) ent16 Tryz.func16 rfl Tryz.ntmps16 rfl (fun x h => by cases h) ?_
      repeat' first
       |(with_reducible first|apply qa|apply qb|apply qc|apply qd|apply qe|apply qf|apply qg|apply qh|apply qi|apply qj|apply qk|apply ql|apply qm|apply qn|apply qo|apply qp|apply qq|refine blockP_ne (by decide) ?_)
       |((with_reducible refine Pwp.reg fun K hK=>?_);simp[*])
       |((with_reducible refine Pwp.drawn (id := 4) follows_mixed [0, 0, 2, 7, 15, 31, 31, 63, 255] [false, false, false, true, false, false, false, false, false] ?_ fun K hK => ?_); focus kernel_rfl
         simp [*])
       |((with_reducible refine Pwp.drawnOw (id := 11) follows_mixed [0, 1, 3, 7, 0, 15, 63, 127] [false, false, false, false, false, false, true, false] (2 :: A) 5 (by simp [St.find]) ?_ fun K hK => ?_); focus kernel_rfl
         simp [*])
       |((with_reducible refine Hid.go hK ?_);clear hK K)|((with_reducible apply Pwp.condG);rfl)|((with_reducible first|apply qqj|apply qqk);simp[*];done)|((with_reducible first|apply qr|apply qs|apply qt|apply qu|apply qv|apply qw)<;>intro h)
       |((with_reducible first|apply qx|apply qy|apply qz|apply qqa|apply qqb|apply qqc|apply qqd|apply qqe|apply qqf|apply qqg|apply qqh|apply qqi)<;>intro h<;>try simp[h, *])
       |((with_reducible refine and_go ?_ fun hs=>?_);focus omega
         try simp[*])
       |((with_reducible first|apply qql|apply qqn|apply qqp|apply qqm|apply qqo|apply qqq);simp[*])
      refine vcallk_pure (runs23 _ s hs) ?_
      repeat' first
       |(with_reducible first|apply qa|apply qb|apply qc|apply qd|apply qe|apply qf|apply qg|apply qh|apply qi|apply qj|apply qk|apply ql|apply qm|apply qn|apply qo|apply qp|apply qq|refine blockP_ne (by decide) ?_)
       |((with_reducible refine Pwp.reg fun K hK=>?_);simp[hok, errIf])
       |((with_reducible refine Pwp.drawn (id := 4) follows_mixed [0, 0, 2, 7, 15, 31, 31, 63, 255] [false, false, false, true, false, false, false, false, false] ?_ fun K hK => ?_); focus kernel_rfl
         simp [hok, errIf])
       |((with_reducible refine Pwp.drawnOw (id := 11) follows_mixed [0, 1, 3, 7, 0, 15, 63, 127] [false, false, false, false, false, false, true, false] (2 :: A) 5 (by simp [St.find]) ?_ fun K hK => ?_); focus kernel_rfl
         simp [hok, errIf])
       |((with_reducible refine Hid.go hK ?_);clear hK K)|((with_reducible apply Pwp.condG);rfl)|((with_reducible first|apply qqj|apply qqk);simp[hok, errIf];done)|((with_reducible first|apply qr|apply qs|apply qt|apply qu|apply qv|apply qw)<;>intro h)
       |((with_reducible first|apply qx|apply qy|apply qz|apply qqa|apply qqb|apply qqc|apply qqd|apply qqe|apply qqf|apply qqg|apply qqh|apply qqi)<;>intro h<;>try simp[h, hok, errIf])
       |((with_reducible refine and_go ?_ fun hs=>?_);focus omega
         try simp[hok, errIf])
       |((with_reducible first|apply qql|apply qqn|apply qqp|apply qqm|apply qqo|apply qqq);simp[hok, errIf])
      refine dcallk_new (runs53 _) (Sub.nil _) (by simp) ?_
      repeat' first
       |(with_reducible first|apply qa|apply qb|apply qc|apply qd|apply qe|apply qf|apply qg|apply qh|apply qi|apply qj|apply qk|apply ql|apply qm|apply qn|apply qo|apply qp|apply qq|refine blockP_ne (by decide) ?_)
       |((with_reducible refine Pwp.reg fun K hK=>?_);simp[editEnts, pfind, pEqT])
       |((with_reducible refine Pwp.drawn (id := 4) follows_mixed [0, 0, 2, 7, 15, 31, 31, 63, 255] [false, false, false, true, false, false, false, false, false] ?_ fun K hK => ?_); focus kernel_rfl
         simp [editEnts, pfind, pEqT])
       |((with_reducible refine Pwp.drawnOw (id := 11) follows_mixed [0, 1, 3, 7, 0, 15, 63, 127] [false, false, false, false, false, false, true, false] (2 :: A) 5 (by simp [St.find]) ?_ fun K hK => ?_); focus kernel_rfl
         simp [editEnts, pfind, pEqT])
       |((with_reducible refine Hid.go hK ?_);clear hK K)|((with_reducible apply Pwp.condG);rfl)|((with_reducible first|apply qqj|apply qqk);simp[editEnts, pfind, pEqT];done)|((with_reducible first|apply qr|apply qs|apply qt|apply qu|apply qv|apply qw)<;>intro h)
       |((with_reducible first|apply qx|apply qy|apply qz|apply qqa|apply qqb|apply qqc|apply qqd|apply qqe|apply qqf|apply qqg|apply qqh|apply qqi)<;>intro h<;>try simp[h, editEnts, pfind, pEqT])
       |((with_reducible refine and_go ?_ fun hs=>?_);focus omega
         try simp[editEnts, pfind, pEqT])
       |((with_reducible first|apply qql|apply qqn|apply qqp|apply qqm|apply qqo|apply qqq);simp[editEnts, pfind, pEqT])
      refine vcallk_new htw (Sub.nil _) ?_
      repeat' first
       |(with_reducible first|apply qa|apply qb|apply qc|apply qd|apply qe|apply qf|apply qg|apply qh|apply qi|apply qj|apply qk|apply ql|apply qm|apply qn|apply qo|apply qp|apply qq|refine blockP_ne (by decide) ?_)
       |((with_reducible refine Pwp.reg fun K hK=>?_);simp[*])
       |((with_reducible refine Pwp.drawn (id := 4) follows_mixed [0, 0, 2, 7, 15, 31, 31, 63, 255] [false, false, false, true, false, false, false, false, false] ?_ fun K hK => ?_); focus kernel_rfl
         simp [*])
       |((with_reducible refine Pwp.drawnOw (id := 11) follows_mixed [0, 1, 3, 7, 0, 15, 63, 127] [false, false, false, false, false, false, true, false] (2 :: A) 5 (by simp [St.find]) ?_ fun K hK => ?_); focus kernel_rfl
         simp [*])
       |((with_reducible refine Hid.go hK ?_);clear hK K)|((with_reducible apply Pwp.condG);rfl)|((with_reducible first|apply qqj|apply qqk);simp[*];done)|((with_reducible first|apply qr|apply qs|apply qt|apply qu|apply qv|apply qw)<;>intro h)
       |((with_reducible first|apply qx|apply qy|apply qz|apply qqa|apply qqb|apply qqc|apply qqd|apply qqe|apply qqf|apply qqg|apply qqh|apply qqi)<;>intro h<;>try simp[h, *])
       |((with_reducible refine and_go ?_ fun hs=>?_);focus omega
         try simp[*])
       |((with_reducible first|apply qql|apply qqn|apply qqp|apply qqm|apply qqo|apply qqq);simp[*])
      refine vcallk_new hmk (sceneSt_sub (by simp [St.find]) (by simp [St.find]) (by simp [St.find]) (by simp [St.find])) ?_
      unfold sceneUp
      repeat' first
       |(with_reducible first|apply qa|apply qb|apply qc|apply qd|apply qe|apply qf|apply qg|apply qh|apply qi|apply qj|apply qk|apply ql|apply qm|apply qn|apply qo|apply qp|apply qq|refine blockP_ne (by decide) ?_)
       |((with_reducible refine Pwp.reg fun K hK=>?_);simp[*])
       |((with_reducible refine Pwp.drawn (id := 4) follows_mixed [0, 0, 2, 7, 15, 31, 31, 63, 255] [false, false, false, true, false, false, false, false, false] ?_ fun K hK => ?_); focus kernel_rfl
         simp [*])
       |((with_reducible refine Pwp.drawnOw (id := 11) follows_mixed [0, 1, 3, 7, 0, 15, 63, 127] [false, false, false, false, false, false, true, false] (2 :: A) 5 (by simp [St.find]) ?_ fun K hK => ?_); focus kernel_rfl
         simp [*])
       |((with_reducible refine Hid.go hK ?_);clear hK K)|((with_reducible apply Pwp.condG);rfl)|((with_reducible first|apply qqj|apply qqk);simp[*];done)|((with_reducible first|apply qr|apply qs|apply qt|apply qu|apply qv|apply qw)<;>intro h)
       |((with_reducible first|apply qx|apply qy|apply qz|apply qqa|apply qqb|apply qqc|apply qqd|apply qqe|apply qqf|apply qqg|apply qqh|apply qqi)<;>intro h<;>try simp[h, *])
       |((with_reducible refine and_go ?_ fun hs=>?_);focus omega
         try simp[*])
       |((with_reducible first|apply qql|apply qqn|apply qqp|apply qqm|apply qqo|apply qqq);simp[*])
      refine endP_mem (by first | exact .inl rfl | exact .inr rfl) [(14 :: 22 :: A, .row 33 (s'.nodes.map Node.pv)), (15 :: 22 :: A, .row 3 (s.meshes.map Mesh.pv)), (16 :: 22 :: A, .row 3 (s.textures.map Texture.pv))] [(2 :: A, .row 7 [({ s' with meshes := s.meshes, textures := s.textures } : Scene).pv]), (3 :: A, .row 3 [Took.pv ⟨h', 0⟩])] ?_ ?_ ?_ ?_
      · repeat' first | exact Sub.nil _ | refine Sub.cons (by simp [St.find]) ?_
      · repeat' first | exact StLe.nil | (apply StLe.cons; (focus (simp [St.find]; done)))
        all_goals try ((((repeat' first | exact St.find_hd _ _ _ | (apply St.find_tl; (focus (first | assumption | (simp; done) | (simp [*]; done))))); done)); done)
        all_goals first | exact ObLe.refl _ | (refine ObLe.of_eq ?_; simp [*]; done) | (refine ObLe.row _ _ _ (ELe.one ?_ ?_); (focus (simp; done)))
        all_goals repeat' first | exact VLeL.nil | refine VLeL.cons ?_ ?_
        all_goals first | exact VLe.refl _ | exact VLe.cap _ _ | exact VLe.any _ | (apply VLe.row (h := ELe.refl _); (focus (((repeat' first | exact St.find_hd _ _ _ | (apply St.find_tl; (focus (first | assumption | (simp; done) | (simp [*]; done))))); done))); (simp [*]; done)) | (refine VLe.of_eq ?_; simp [*]; done)
      · simp [*]
      · repeat' first | exact Sub.nil _ | refine Sub.cons (by simp [St.find]) ?_
    · have hm : doMake s en = (zeroS, ⟨0, 0⟩, (sceneMake s en).2.2) := by simp [doMake, hok, he]
      rw [hm]
      generalize sceneMake s en = m at *
      obtain ⟨s', h', e'⟩ := m
      simp only at he
      clear hnk hm
      refine Runs.body (rs := [.cell 4 34, .cell 5 66, .tmp 6]) ent16 Tryz.func16 rfl Tryz.ntmps16 rfl (fun x h => by cases h) ?_
      repeat' first
       |(with_reducible first|apply qa|apply qb|apply qc|apply qd|apply qe|apply qf|apply qg|apply qh|apply qi|apply qj|apply qk|apply ql|apply qm|apply qn|apply qo|apply qp|apply qq|refine blockP_ne (by decide) ?_)
       |((with_reducible refine Pwp.reg fun K hK=>?_);simp[*])
       |((with_reducible refine Pwp.drawn (id := 4) follows_mixed [0, 0, 2, 7, 15, 31, 31, 63, 255] [false, false, false, true, false, false, false, false, false] ?_ fun K hK => ?_); focus kernel_rfl
         simp [*])
       |((with_reducible refine Pwp.drawnOw (id := 11) follows_mixed [0, 1, 3, 7, 0, 15, 63, 127] [false, false, false, false, false, false, true, false] (2 :: A) 5 (by simp [St.find]) ?_ fun K hK => ?_); focus kernel_rfl
         simp [*])
       |((with_reducible refine Hid.go hK ?_);clear hK K)|((with_reducible apply Pwp.condG);rfl)|((with_reducible first|apply qqj|apply qqk);simp[*];done)|((with_reducible first|apply qr|apply qs|apply qt|apply qu|apply qv|apply qw)<;>intro h)
       |((with_reducible first|apply qx|apply qy|apply qz|apply qqa|apply qqb|apply qqc|apply qqd|apply qqe|apply qqf|apply qqg|apply qqh|apply qqi)<;>intro h<;>try simp[h, *])
       |((with_reducible refine and_go ?_ fun hs=>?_);focus omega
         try simp[*])
       |((with_reducible first|apply qql|apply qqn|apply qqp|apply qqm|apply qqo|apply qqq);simp[*])
      refine vcallk_pure (runs23 _ s hs) ?_
      repeat' first
       |(with_reducible first|apply qa|apply qb|apply qc|apply qd|apply qe|apply qf|apply qg|apply qh|apply qi|apply qj|apply qk|apply ql|apply qm|apply qn|apply qo|apply qp|apply qq|refine blockP_ne (by decide) ?_)
       |((with_reducible refine Pwp.reg fun K hK=>?_);simp[hok, errIf])
       |((with_reducible refine Pwp.drawn (id := 4) follows_mixed [0, 0, 2, 7, 15, 31, 31, 63, 255] [false, false, false, true, false, false, false, false, false] ?_ fun K hK => ?_); focus kernel_rfl
         simp [hok, errIf])
       |((with_reducible refine Pwp.drawnOw (id := 11) follows_mixed [0, 1, 3, 7, 0, 15, 63, 127] [false, false, false, false, false, false, true, false] (2 :: A) 5 (by simp [St.find]) ?_ fun K hK => ?_); focus kernel_rfl
         simp [hok, errIf])
       |((with_reducible refine Hid.go hK ?_);clear hK K)|((with_reducible apply Pwp.condG);rfl)|((with_reducible first|apply qqj|apply qqk);simp[hok, errIf];done)|((with_reducible first|apply qr|apply qs|apply qt|apply qu|apply qv|apply qw)<;>intro h)
       |((with_reducible first|apply qx|apply qy|apply qz|apply qqa|apply qqb|apply qqc|apply qqd|apply qqe|apply qqf|apply qqg|apply qqh|apply qqi)<;>intro h<;>try simp[h, hok, errIf])
       |((with_reducible refine and_go ?_ fun hs=>?_);focus omega
         try simp[hok, errIf])
       |((with_reducible first|apply qql|apply qqn|apply qqp|apply qqm|apply qqo|apply qqq);simp[hok, errIf])
      refine dcallk_new (runs53 _) (Sub.nil _) (by simp) ?_
      repeat' first
       |(with_reducible first|apply qa|apply qb|apply qc|apply qd|apply qe|apply qf|apply qg|apply qh|apply qi|apply qj|apply qk|apply ql|apply qm|apply qn|apply qo|apply qp|apply qq|refine blockP_ne (by decide) ?_)
       |((with_reducible refine Pwp.reg fun K hK=>?_);simp[editEnts, pfind, pEqT])
       |((with_reducible refine Pwp.drawn (id := 4) follows_mixed [0, 0, 2, 7, 15, 31, 31, 63, 255] [false, false, false, true, false, false, false, false, false] ?_ fun K hK => ?_); focus kernel_rfl
         simp [editEnts, pfind, pEqT])
       |((with_reducible refine Pwp.drawnOw (id := 11) follows_mixed [0, 1, 3, 7, 0, 15, 63, 127] [false, false, false, false, false, false, true, false] (2 :: A) 5 (by simp [St.find]) ?_ fun K hK => ?_); focus kernel_rfl
         simp [editEnts, pfind, pEqT])
       |((with_reducible refine Hid.go hK ?_);clear hK K)|((with_reducible apply Pwp.condG);rfl)|((with_reducible first|apply qqj|apply qqk);simp[editEnts, pfind, pEqT];done)|((with_reducible first|apply qr|apply qs|apply qt|apply qu|apply qv|apply qw)<;>intro h)
       |((with_reducible first|apply qx|apply qy|apply qz|apply qqa|apply qqb|apply qqc|apply qqd|apply qqe|apply qqf|apply qqg|apply qqh|apply qqi)<;>intro h<;>try simp[h, editEnts, pfind, pEqT])
       |((with_reducible refine and_go ?_ fun hs=>?_);focus omega
         try simp[editEnts, pfind, pEqT])
       |((with_reducible first|apply qql|apply qqn|apply qqp|apply qqm|apply qqo|apply qqq);simp[editEnts, pfind, pEqT])
      refine vcallk_new htw (Sub.nil _) ?_
      repeat' first
       |(with_reducible first|apply qa|apply qb|apply qc|apply qd|apply qe|apply qf|apply qg|apply qh|apply qi|apply qj|apply qk|apply ql|apply qm|apply qn|apply qo|apply qp|apply qq|refine blockP_ne (by decide) ?_)
       |((with_reducible refine Pwp.reg fun K hK=>?_);simp[*])
       |((with_reducible refine Pwp.drawn (id := 4) follows_mixed [0, 0, 2, 7, 15, 31, 31, 63, 255] [false, false, false, true, false, false, false, false, false] ?_ fun K hK => ?_); focus kernel_rfl
         simp [*])
       |((with_reducible refine Pwp.drawnOw (id := 11) follows_mixed [0, 1, 3, 7, 0, 15, 63, 127] [false, false, false, false, false, false, true, false] (2 :: A) 5 (by simp [St.find]) ?_ fun K hK => ?_); focus kernel_rfl
         simp [*])
       |((with_reducible refine Hid.go hK ?_);clear hK K)|((with_reducible apply Pwp.condG);rfl)|((with_reducible first|apply qqj|apply qqk);simp[*];done)|((with_reducible first|apply qr|apply qs|apply qt|apply qu|apply qv|apply qw)<;>intro h)
       |((with_reducible first|apply qx|apply qy|apply qz|apply qqa|apply qqb|apply qqc|apply qqd|apply qqe|apply qqf|apply qqg|apply qqh|apply qqi)<;>intro h<;>try simp[h, *])
       |((with_reducible refine and_go ?_ fun hs=>?_);focus omega
         try simp[*])
       |((with_reducible first|apply qql|apply qqn|apply qqp|apply qqm|apply qqo|apply qqq);simp[*])
      refine vcallk_new hmk (sceneSt_sub (by simp [St.find]) (by simp [St.find]) (by simp [St.find]) (by simp [St.find])) ?_
      unfold sceneUp
      repeat' first
       |(with_reducible first|apply qa|apply qb|apply qc|apply qd|apply qe|apply qf|apply qg|apply qh|apply qi|apply qj|apply qk|apply ql|apply qm|apply qn|apply qo|apply qp|apply qq|refine blockP_ne (by decide) ?_)
       |((with_reducible refine Pwp.reg fun K hK=>?_);simp[he])
       |((with_reducible refine Pwp.drawn (id := 4) follows_mixed [0, 0, 2, 7, 15, 31, 31, 63, 255] [false, false, false, true, false, false, false, false, false] ?_ fun K hK => ?_); focus kernel_rfl
         simp [he])
       |((with_reducible refine Pwp.drawnOw (id := 11) follows_mixed [0, 1, 3, 7, 0, 15, 63, 127] [false, false, false, false, false, false, true, false] (2 :: A) 5 (by simp [St.find]) ?_ fun K hK => ?_); focus kernel_rfl
         simp [he])
       |((with_reducible refine Hid.go hK ?_);clear hK K)|((with_reducible apply Pwp.condG);rfl)|((with_reducible first|apply qqj|apply qqk);simp[he];done)|((with_reducible first|apply qr|apply qs|apply qt|apply qu|apply qv|apply qw)<;>intro h)
       |((with_reducible first|apply qx|apply qy|apply qz|apply qqa|apply qqb|apply qqc|apply qqd|apply qqe|apply qqf|apply qqg|apply qqh|apply qqi)<;>intro h<;>try simp[h, he])
       |((with_reducible refine and_go ?_ fun hs=>?_);focus omega
         try simp[he])
       |((with_reducible first|apply qql|apply qqn|apply qqp|apply qqm|apply qqo|apply qqq);simp[he])
      refine endP_mem (by first | exact .inl rfl | exact .inr rfl) [] [(2 :: A, .row 7 [zeroS.pv]), (3 :: A, .row 3 [Took.pv ⟨⟨0, 0⟩, 0⟩])] ?_ ?_ ?_ ?_
      · repeat' first | exact Sub.nil _ | refine Sub.cons (by simp [St.find]) ?_
      · repeat' first | exact StLe.nil | (apply StLe.cons; (focus (simp [St.find]; done)))
        all_goals try ((((repeat' first | exact St.find_hd _ _ _ | (apply St.find_tl; (focus (first | assumption | (simp; done) | (simp [*]; done))))); done)); done)
        all_goals first | exact ObLe.refl _ | (refine ObLe.of_eq ?_; simp [*]; done) | (refine ObLe.row _ _ _ (ELe.one ?_ ?_); (focus (simp; done)))
        all_goals repeat' first | exact VLeL.nil | refine VLeL.cons ?_ ?_
        all_goals first | exact VLe.refl _ | exact VLe.cap _ _ | exact VLe.any _ | (apply VLe.row (h := ELe.refl _); (focus (((repeat' first | exact St.find_hd _ _ _ | (apply St.find_tl; (focus (first | assumption | (simp; done) | (simp [*]; done))))); done))); (simp [*]; done)) | (refine VLe.of_eq ?_; simp [*]; done)
      · simp [*]
      · repeat' first | exact Sub.nil _ | refine Sub.cons (by simp [St.find]) ?_
theorem runs16kill (A : Key) (s : Scene) (e : Edit) (hs : s.Lens) (hk : e.kind = 5) (hh : ∀ l ∈ s.graph.kids, e.h ∉ l) : Runs Tryz.prog A 16 [s.pv, e.pv] [] (.tup [(doKill s e.h).1.pv, Took.pv ⟨⟨0, 0⟩, 0⟩, .int .i64 (doKill s e.h).2]) [] := by
  obtain ⟨ek, eh, ec, ea, en, em, et⟩ := e
  simp only at hk
  subst hk
  simp only at *
  cases hok : sceneOk s with
  | false =>
    have hm : doKill s eh = (zeroS, 8) := by simp [doKill, hok]
    rw [hm]
    exact runs16bad A s _ hs hok
  | true =>
    obtain ⟨hc, hnk⟩ := caps_of_ok hok
    have hmk := runs118 A s ⟨5, eh, ec, ea, en, em, et⟩ hc hnk hh
    have htw := runs54 (22 :: A) s hc
    simp only at hmk
    by_cases he : (sceneKill s eh).2 = 0
    · have hm : doKill s eh = sceneKill s eh := by simp [doKill, hok, he]
      rw [hm]
      have q1 : (sceneKill s eh).1.meshes = s.meshes := by unfold sceneKill; (repeat' split) <;> rfl
      have q2 : (sceneKill s eh).1.textures = s.textures := by unfold sceneKill; (repeat' split) <;> rfl
      generalize sceneKill s eh = m at *
      obtain ⟨s', e'⟩ := m
      simp only at he q1 q2
      subst he
      clear hnk hm
      refine Runs.body (rs := [.cell 4 34, .cell 5 66, .tmp 6]) ent16 Tryz.func16 rfl Tryz.ntmps16 rfl (fun x h => by cases h) ?_
      repeat' first
       |(with_reducible first|apply qa|apply qb|apply qc|apply qd|apply qe|apply qf|apply qg|apply qh|apply qi|apply qj|apply qk|apply ql|apply qm|apply qn|apply qo|apply qp|apply qq|refine blockP_ne (by decide) ?_)
       |((with_reducible refine Pwp.reg fun K hK=>?_);simp[*])
       |((with_reducible refine Pwp.drawn (id := 4) follows_mixed [0, 0, 2, 7, 15, 31, 31, 63, 255] [false, false, false, true, false, false, false, false, false] ?_ fun K hK => ?_); focus kernel_rfl
         simp [*])
       |((with_reducible refine Pwp.drawnOw (id := 11) follows_mixed [0, 1, 3, 7, 0, 15, 63, 127] [false, false, false, false, false, false, true, false] (2 :: A) 5 (by simp [St.find]) ?_ fun K hK => ?_); focus kernel_rfl
         simp [*])
       |((with_reducible refine Hid.go hK ?_);clear hK K)|((with_reducible apply Pwp.condG);rfl)|((with_reducible first|apply qqj|apply qqk);simp[*];done)|((with_reducible first|apply qr|apply qs|apply qt|apply qu|apply qv|apply qw)<;>intro h)
       |((with_reducible first|apply qx|apply qy|apply qz|apply qqa|apply qqb|apply qqc|apply qqd|apply qqe|apply qqf|apply qqg|apply qqh|apply qqi)<;>intro h<;>try simp[h, *])
       |((with_reducible refine and_go ?_ fun hs=>?_);focus omega
         try simp[*])
       |((with_reducible first|apply qql|apply qqn|apply qqp|apply qqm|apply qqo|apply qqq);simp[*])
      refine vcallk_pure (runs23 _ s hs) ?_
      repeat' first
       |(with_reducible first|apply qa|apply qb|apply qc|apply qd|apply qe|apply qf|apply qg|apply qh|apply qi|apply qj|apply qk|apply ql|apply qm|apply qn|apply qo|apply qp|apply qq|refine blockP_ne (by decide) ?_)
       |((with_reducible refine Pwp.reg fun K hK=>?_);simp[hok, errIf])
       |((with_reducible refine Pwp.drawn (id := 4) follows_mixed [0, 0, 2, 7, 15, 31, 31, 63, 255] [false, false, false, true, false, false, false, false, false] ?_ fun K hK => ?_); focus kernel_rfl
         simp [hok, errIf])
       |((with_reducible refine Pwp.drawnOw (id := 11) follows_mixed [0, 1, 3, 7, 0, 15, 63, 127] [false, false, false, false, false, false, true, false] (2 :: A) 5 (by simp [St.find]) ?_ fun K hK => ?_); focus kernel_rfl
         simp [hok, errIf])
       |((with_reducible refine Hid.go hK ?_);clear hK K)|((with_reducible apply Pwp.condG);rfl)|((with_reducible first|apply qqj|apply qqk);simp[hok, errIf];done)|((with_reducible first|apply qr|apply qs|apply qt|apply qu|apply qv|apply qw)<;>intro h)
       |((with_reducible first|apply qx|apply qy|apply qz|apply qqa|apply qqb|apply qqc|apply qqd|apply qqe|apply qqf|apply qqg|apply qqh|apply qqi)<;>intro h<;>try simp[h, hok, errIf])
       |((with_reducible refine and_go ?_ fun hs=>?_);focus omega
         try simp[hok, errIf])
       |((with_reducible first|apply qql|apply qqn|apply qqp|apply qqm|apply qqo|apply qqq);simp[hok, errIf])
      refine dcallk_new (runs53 _) (Sub.nil _) (by simp) ?_
      repeat' first
       |(with_reducible first|apply qa|apply qb|apply qc|apply qd|apply qe|apply qf|apply qg|apply qh|apply qi|apply qj|apply qk|apply ql|apply qm|apply qn|apply qo|apply qp|apply qq|refine blockP_ne (by decide) ?_)
       |((with_reducible refine Pwp.reg fun K hK=>?_);simp[editEnts, pfind, pEqT])
       |((with_reducible refine Pwp.drawn (id := 4) follows_mixed [0, 0, 2, 7, 15, 31, 31, 63, 255] [false, false, false, true, false, false, false, false, false] ?_ fun K hK => ?_); focus kernel_rfl
         simp [editEnts, pfind, pEqT])
       |((with_reducible refine Pwp.drawnOw (id := 11) follows_mixed [0, 1, 3, 7, 0, 15, 63, 127] [false, false, false, false, false, false, true, false] (2 :: A) 5 (by simp [St.find]) ?_ fun K hK => ?_); focus kernel_rfl
         simp [editEnts, pfind, pEqT])
       |((with_reducible refine Hid.go hK ?_);clear hK K)|((with_reducible apply Pwp.condG);rfl)|((with_reducible first|apply qqj|apply qqk);simp[editEnts, pfind, pEqT];done)|((with_reducible first|apply qr|apply qs|apply qt|apply qu|apply qv|apply qw)<;>intro h)
       |((with_reducible first|apply qx|apply qy|apply qz|apply qqa|apply qqb|apply qqc|apply qqd|apply qqe|apply qqf|apply qqg|apply qqh|apply qqi)<;>intro h<;>try simp[h, editEnts, pfind, pEqT])
       |((with_reducible refine and_go ?_ fun hs=>?_);focus omega
         try simp[editEnts, pfind, pEqT])
       |((with_reducible first|apply qql|apply qqn|apply qqp|apply qqm|apply qqo|apply qqq);simp[editEnts, pfind, pEqT])
      refine vcallk_new htw (Sub.nil _) ?_
      repeat' first
       |(with_reducible first|apply qa|apply qb|apply qc|apply qd|apply qe|apply qf|apply qg|apply qh|apply qi|apply qj|apply qk|apply ql|apply qm|apply qn|apply qo|apply qp|apply qq|refine blockP_ne (by decide) ?_)
       |((with_reducible refine Pwp.reg fun K hK=>?_);simp[*])
       |((with_reducible refine Pwp.drawn (id := 4) follows_mixed [0, 0, 2, 7, 15, 31, 31, 63, 255] [false, false, false, true, false, false, false, false, false] ?_ fun K hK => ?_); focus kernel_rfl
         simp [*])
       |((with_reducible refine Pwp.drawnOw (id := 11) follows_mixed [0, 1, 3, 7, 0, 15, 63, 127] [false, false, false, false, false, false, true, false] (2 :: A) 5 (by simp [St.find]) ?_ fun K hK => ?_); focus kernel_rfl
         simp [*])
       |((with_reducible refine Hid.go hK ?_);clear hK K)|((with_reducible apply Pwp.condG);rfl)|((with_reducible first|apply qqj|apply qqk);simp[*];done)|((with_reducible first|apply qr|apply qs|apply qt|apply qu|apply qv|apply qw)<;>intro h)
       |((with_reducible first|apply qx|apply qy|apply qz|apply qqa|apply qqb|apply qqc|apply qqd|apply qqe|apply qqf|apply qqg|apply qqh|apply qqi)<;>intro h<;>try simp[h, *])
       |((with_reducible refine and_go ?_ fun hs=>?_);focus omega
         try simp[*])
       |((with_reducible first|apply qql|apply qqn|apply qqp|apply qqm|apply qqo|apply qqq);simp[*])
      refine vcallk_new hmk (sceneSt_sub (by simp [St.find]) (by simp [St.find]) (by simp [St.find]) (by simp [St.find])) ?_
      unfold sceneUp
      repeat' first
       |(with_reducible first|apply qa|apply qb|apply qc|apply qd|apply qe|apply qf|apply qg|apply qh|apply qi|apply qj|apply qk|apply ql|apply qm|apply qn|apply qo|apply qp|apply qq|refine blockP_ne (by decide) ?_)
       |((with_reducible refine Pwp.reg fun K hK=>?_);simp[*])
       |((with_reducible refine Pwp.drawn (id := 4) follows_mixed [0, 0, 2, 7, 15, 31, 31, 63, 255] [false, false, false, true, false, false, false, false, false] ?_ fun K hK => ?_); focus kernel_rfl
         simp [*])
       |((with_reducible refine Pwp.drawnOw (id := 11) follows_mixed [0, 1, 3, 7, 0, 15, 63, 127] [false, false, false, false, false, false, true, false] (2 :: A) 5 (by simp [St.find]) ?_ fun K hK => ?_); focus kernel_rfl
         simp [*])
       |((with_reducible refine Hid.go hK ?_);clear hK K)|((with_reducible apply Pwp.condG);rfl)|((with_reducible first|apply qqj|apply qqk);simp[*];done)|((with_reducible first|apply qr|apply qs|apply qt|apply qu|apply qv|apply qw)<;>intro h)
       |((with_reducible first|apply qx|apply qy|apply qz|apply qqa|apply qqb|apply qqc|apply qqd|apply qqe|apply qqf|apply qqg|apply qqh|apply qqi)<;>intro h<;>try simp[h, *])
       |((with_reducible refine and_go ?_ fun hs=>?_);focus omega
         try simp[*])
       |((with_reducible first|apply qql|apply qqn|apply qqp|apply qqm|apply qqo|apply qqq);simp[*])
      refine endP_mem (by first | exact .inl rfl | exact .inr rfl) [(14 :: 22 :: A, .row 33 (s'.nodes.map Node.pv)), (15 :: 22 :: A, .row 3 (s.meshes.map Mesh.pv)), (16 :: 22 :: A, .row 3 (s.textures.map Texture.pv))] [(2 :: A, .row 7 [({ s' with meshes := s.meshes, textures := s.textures } : Scene).pv]), (3 :: A, .row 3 [Took.pv ⟨⟨0, 0⟩, 0⟩])] ?_ ?_ ?_ ?_
      · repeat' first | exact Sub.nil _ | refine Sub.cons (by simp [St.find]) ?_
      · repeat' first | exact StLe.nil | (apply StLe.cons; (focus (simp [St.find]; done)))
        all_goals try ((((repeat' first | exact St.find_hd _ _ _ | (apply St.find_tl; (focus (first | assumption | (simp; done) | (simp [*]; done))))); done)); done)
        all_goals first | exact ObLe.refl _ | (refine ObLe.of_eq ?_; simp [*]; done) | (refine ObLe.row _ _ _ (ELe.one ?_ ?_); (focus (simp; done)))
        all_goals repeat' first | exact VLeL.nil | refine VLeL.cons ?_ ?_
        all_goals first | exact VLe.refl _ | exact VLe.cap _ _ | exact VLe.any _ | (apply VLe.row (h := ELe.refl _); (focus (((repeat' first | exact St.find_hd _ _ _ | (apply St.find_tl; (focus (first | assumption | (simp; done) | (simp [*]; done))))); done))); (simp [*]; done)) | (refine VLe.of_eq ?_; simp [*]; done)
      · simp [*]
      · repeat' first | exact Sub.nil _ | refine Sub.cons (by simp [St.find]) ?_
    · have hm : doKill s eh = (zeroS, (sceneKill s eh).2) := by simp [doKill, hok, he]
      rw [hm]
      generalize sceneKill s eh = m at *
      obtain ⟨s', e'⟩ := m
      simp only at he
      clear hnk hm
      refine Runs.body (rs := [.cell 4 34, .cell 5 66, .tmp 6]) ent16 Tryz.func16 rfl Tryz.ntmps16 rfl (fun x h => by cases h) ?_
      repeat' first
       |(with_reducible first|apply qa|apply qb|apply qc|apply qd|apply qe|apply qf|apply qg|apply qh|apply qi|apply qj|apply qk|apply ql|apply qm|apply qn|apply qo|apply qp|apply qq|refine blockP_ne (by decide) ?_)
       |((with_reducible refine Pwp.reg fun K hK=>?_);simp[*])
       |((with_reducible refine Pwp.drawn (id := 4) follows_mixed [0, 0, 2, 7, 15, 31, 31, 63, 255] [false, false, false, true, false, false, false, false, false] ?_ fun K hK => ?_); focus kernel_rfl
         simp [*])
       |((with_reducible refine Pwp.drawnOw (id := 11) follows_mixed [0, 1, 3, 7, 0, 15, 63, 127] [false, false, false, false, false, false, true, false] (2 :: A) 5 (by simp [St.find]) ?_ fun K hK => ?_); focus kernel_rfl
         simp [*])
       |((with_reducible refine Hid.go hK ?_);clear hK K)|((with_reducible apply Pwp.condG);rfl)|((with_reducible first|apply qqj|apply qqk);simp[*];done)|((with_reducible first|apply qr|apply qs|apply qt|apply qu|apply qv|apply qw)<;>intro h)
       |((with_reducible first|apply qx|apply qy|apply qz|apply qqa|apply qqb|apply qqc|apply qqd|apply qqe|apply qqf|apply qqg|apply qqh|apply qqi)<;>intro h<;>try simp[h, *])
       |((with_reducible refine and_go ?_ fun hs=>?_);focus omega
         try simp[*])
       |((with_reducible first|apply qql|apply qqn|apply qqp|apply qqm|apply qqo|apply qqq);simp[*])
      refine vcallk_pure (runs23 _ s hs) ?_
      repeat' first
       |(with_reducible first|apply qa|apply qb|apply qc|apply qd|apply qe|apply qf|apply qg|apply qh|apply qi|apply qj|apply qk|apply ql|apply qm|apply qn|apply qo|apply qp|apply qq|refine blockP_ne (by decide) ?_)
       |((with_reducible refine Pwp.reg fun K hK=>?_);simp[hok, errIf])
       |((with_reducible refine Pwp.drawn (id := 4) follows_mixed [0, 0, 2, 7, 15, 31, 31, 63, 255] [false, false, false, true, false, false, false, false, false] ?_ fun K hK => ?_); focus kernel_rfl
         simp [hok, errIf])
       |((with_reducible refine Pwp.drawnOw (id := 11) follows_mixed [0, 1, 3, 7, 0, 15, 63, 127] [false, false, false, false, false, false, true, false] (2 :: A) 5 (by simp [St.find]) ?_ fun K hK => ?_); focus kernel_rfl
         simp [hok, errIf])
       |((with_reducible refine Hid.go hK ?_);clear hK K)|((with_reducible apply Pwp.condG);rfl)|((with_reducible first|apply qqj|apply qqk);simp[hok, errIf];done)|((with_reducible first|apply qr|apply qs|apply qt|apply qu|apply qv|apply qw)<;>intro h)
       |((with_reducible first|apply qx|apply qy|apply qz|apply qqa|apply qqb|apply qqc|apply qqd|apply qqe|apply qqf|apply qqg|apply qqh|apply qqi)<;>intro h<;>try simp[h, hok, errIf])
       |((with_reducible refine and_go ?_ fun hs=>?_);focus omega
         try simp[hok, errIf])
       |((with_reducible first|apply qql|apply qqn|apply qqp|apply qqm|apply qqo|apply qqq);simp[hok, errIf])
      refine dcallk_new (runs53 _) (Sub.nil _) (by simp) ?_
      repeat' first
       |(with_reducible first|apply qa|apply qb|apply qc|apply qd|apply qe|apply qf|apply qg|apply qh|apply qi|apply qj|apply qk|apply ql|apply qm|apply qn|apply qo|apply qp|apply qq|refine blockP_ne (by decide) ?_)
       |((with_reducible refine Pwp.reg fun K hK=>?_);simp[editEnts, pfind, pEqT])
       |((with_reducible refine Pwp.drawn (id := 4) follows_mixed [0, 0, 2, 7, 15, 31, 31, 63, 255] [false, false, false, true, false, false, false, false, false] ?_ fun K hK => ?_); focus kernel_rfl
         simp [editEnts, pfind, pEqT])
       |((with_reducible refine Pwp.drawnOw (id := 11) follows_mixed [0, 1, 3, 7, 0, 15, 63, 127] [false, false, false, false, false, false, true, false] (2 :: A) 5 (by simp [St.find]) ?_ fun K hK => ?_); focus kernel_rfl
         simp [editEnts, pfind, pEqT])
       |((with_reducible refine Hid.go hK ?_);clear hK K)|((with_reducible apply Pwp.condG);rfl)|((with_reducible first|apply qqj|apply qqk);simp[editEnts, pfind, pEqT];done)|((with_reducible first|apply qr|apply qs|apply qt|apply qu|apply qv|apply qw)<;>intro h)
       |((with_reducible first|apply qx|apply qy|apply qz|apply qqa|apply qqb|apply qqc|apply qqd|apply qqe|apply qqf|apply qqg|apply qqh|apply qqi)<;>intro h<;>try simp[h, editEnts, pfind, pEqT])
       |((with_reducible refine and_go ?_ fun hs=>?_);focus omega
         try simp[editEnts, pfind, pEqT])
       |((with_reducible first|apply qql|apply qqn|apply qqp|apply qqm|apply qqo|apply qqq);simp[editEnts, pfind, pEqT])
      refine vcallk_new htw (Sub.nil _) ?_
      repeat' first
       |(with_reducible first|apply qa|apply qb|apply qc|apply qd|apply qe|apply qf|apply qg|apply qh|apply qi|apply qj|apply qk|apply ql|apply qm|apply qn|apply qo|apply qp|apply qq|refine blockP_ne (by decide) ?_)
       |((with_reducible refine Pwp.reg fun K hK=>?_);simp[*])
       |((with_reducible refine Pwp.drawn (id := 4) follows_mixed [0, 0, 2, 7, 15, 31, 31, 63, 255] [false, false, false, true, false, false, false, false, false] ?_ fun K hK => ?_); focus kernel_rfl
         simp [*])
       |((with_reducible refine Pwp.drawnOw (id := 11) follows_mixed [0, 1, 3, 7, 0, 15, 63, 127] [false, false, false, false, false, false, true, false] (2 :: A) 5 (by simp [St.find]) ?_ fun K hK => ?_); focus kernel_rfl
         simp [*])
       |((with_reducible refine Hid.go hK ?_);clear hK K)|((with_reducible apply Pwp.condG);rfl)|((with_reducible first|apply qqj|apply qqk);simp[*];done)|((with_reducible first|apply qr|apply qs|apply qt|apply qu|apply qv|apply qw)<;>intro h)
       |((with_reducible first|apply qx|apply qy|apply qz|apply qqa|apply qqb|apply qqc|apply qqd|apply qqe|apply qqf|apply qqg|apply qqh|apply qqi)<;>intro h<;>try simp[h, *])
       |((with_reducible refine and_go ?_ fun hs=>?_);focus omega
         try simp[*])
       |((with_reducible first|apply qql|apply qqn|apply qqp|apply qqm|apply qqo|apply qqq);simp[*])
      refine vcallk_new hmk (sceneSt_sub (by simp [St.find]) (by simp [St.find]) (by simp [St.find]) (by simp [St.find])) ?_
      unfold sceneUp
      repeat' first
       |(with_reducible first|apply qa|apply qb|apply qc|apply qd|apply qe|apply qf|apply qg|apply qh|apply qi|apply qj|apply qk|apply ql|apply qm|apply qn|apply qo|apply qp|apply qq|refine blockP_ne (by decide) ?_)
       |((with_reducible refine Pwp.reg fun K hK=>?_);simp[he])
       |((with_reducible refine Pwp.drawn (id := 4) follows_mixed [0, 0, 2, 7, 15, 31, 31, 63, 255] [false, false, false, true, false, false, false, false, false] ?_ fun K hK => ?_); focus kernel_rfl
         simp [he])
       |((with_reducible refine Pwp.drawnOw (id := 11) follows_mixed [0, 1, 3, 7, 0, 15, 63, 127] [false, false, false, false, false, false, true, false] (2 :: A) 5 (by simp [St.find]) ?_ fun K hK => ?_); focus kernel_rfl
         simp [he])
       |((with_reducible refine Hid.go hK ?_);clear hK K)|((with_reducible apply Pwp.condG);rfl)|((with_reducible first|apply qqj|apply qqk);simp[he];done)|((with_reducible first|apply qr|apply qs|apply qt|apply qu|apply qv|apply qw)<;>intro h)
       |((with_reducible first|apply qx|apply qy|apply qz|apply qqa|apply qqb|apply qqc|apply qqd|apply qqe|apply qqf|apply qqg|apply qqh|apply qqi)<;>intro h<;>try simp[h, he])
       |((with_reducible refine and_go ?_ fun hs=>?_);focus omega
         try simp[he])
       |((with_reducible first|apply qql|apply qqn|apply qqp|apply qqm|apply qqo|apply qqq);simp[he])
      refine endP_mem (by first | exact .inl rfl | exact .inr rfl) [] [(2 :: A, .row 7 [zeroS.pv]), (3 :: A, .row 3 [Took.pv ⟨⟨0, 0⟩, 0⟩])] ?_ ?_ ?_ ?_
      · repeat' first | exact Sub.nil _ | refine Sub.cons (by simp [St.find]) ?_
      · repeat' first | exact StLe.nil | (apply StLe.cons; (focus (simp [St.find]; done)))
        all_goals try ((((repeat' first | exact St.find_hd _ _ _ | (apply St.find_tl; (focus (first | assumption | (simp; done) | (simp [*]; done))))); done)); done)
        all_goals first | exact ObLe.refl _ | (refine ObLe.of_eq ?_; simp [*]; done) | (refine ObLe.row _ _ _ (ELe.one ?_ ?_); (focus (simp; done)))
        all_goals repeat' first | exact VLeL.nil | refine VLeL.cons ?_ ?_
        all_goals first | exact VLe.refl _ | exact VLe.cap _ _ | exact VLe.any _ | (apply VLe.row (h := ELe.refl _); (focus (((repeat' first | exact St.find_hd _ _ _ | (apply St.find_tl; (focus (first | assumption | (simp; done) | (simp [*]; done))))); done))); (simp [*]; done)) | (refine VLe.of_eq ?_; simp [*]; done)
      · simp [*]
      · repeat' first | exact Sub.nil _ | refine Sub.cons (by simp [St.find]) ?_
end Go.Pv

set_option linter.unusedVariables false
set_option linter.unusedSimpArgs false
set_option maxRecDepth 100000
namespace Go.Pv
open Go Go.Proofs


def zMesh : Mesh := ⟨[], [], []⟩
def zTex : Texture := ⟨0, 0, []⟩
def groupN : Node := { zeroN with kind := 1 }
def makeE (n : Node) : Edit := ⟨1, ⟨0, 0⟩, ⟨0, 0⟩, 0, n, zMesh, zTex⟩
def killE (h : Handle) : Edit := ⟨5, h, ⟨0, 0⟩, 0, zeroN, zMesh, zTex⟩

theorem ent60 : enters Tryz.prog 60 = true := by kernel_rfl
theorem runs60 (A : Key) : Runs Tryz.prog A 60 [] [] (makeE groupN).pv [] := by
  refine Runs.body (rs := [.cell 0 61]) ent60 Tryz.func60 rfl Tryz.ntmps60 rfl (fun x h => by cases h) ?_
  repeat' first
   |(with_reducible first|apply qa|apply qb|apply qc|apply qd|apply qe|apply qf|apply qg|apply qh|apply qi|apply qj|apply qk|apply ql|apply qm|apply qn|apply qo|apply qp|apply qq|refine blockP_ne (by decide) ?_)
   |((with_reducible refine Pwp.reg fun K hK=>?_);simp[*])
   |((with_reducible refine Hid.go hK ?_);clear hK K)|((with_reducible apply Pwp.condG);rfl)|((with_reducible first|apply qqj|apply qqk);simp[*];done)|((with_reducible first|apply qr|apply qs|apply qt|apply qu|apply qv|apply qw)<;>intro h)
   |((with_reducible first|apply qx|apply qy|apply qz|apply qqa|apply qqb|apply qqc)<;>intro h<;>try simp[h, *])
   |((with_reducible refine and_go ?_ fun hs=>?_);focus omega
     try simp[*])
   |((with_reducible first|apply qql|apply qqn|apply qqp);simp[*])
  refine endP_mem (by first | exact .inl rfl | exact .inr rfl) [] [(0 :: A, .row 45 [(makeE groupN).pv])] ?_ ?_ ?_ ?_
  · repeat' first | exact Sub.nil _ | refine Sub.cons (by simp [St.find]) ?_
  · repeat' first | exact StLe.nil | (apply StLe.cons; (focus (simp [St.find]; done)))
    all_goals try ((((repeat' first | exact St.find_hd _ _ _ | (apply St.find_tl; (focus (first | assumption | (simp; done) | (simp [*]; done))))); done)); done)
    all_goals first | exact ObLe.refl _ | (refine ObLe.of_eq ?_; simp [*]; done) | (refine ObLe.row _ _ _ (ELe.one ?_ ?_); (focus (simp; done)))
    all_goals repeat' first | exact VLeL.nil | refine VLeL.cons ?_ ?_
    all_goals first | exact VLe.refl _ | exact VLe.cap _ _ | exact VLe.any _ | (apply VLe.row (h := ELe.refl _); (focus (((repeat' first | exact St.find_hd _ _ _ | (apply St.find_tl; (focus (first | assumption | (simp; done) | (simp [*]; done))))); done))); (simp [*]; done)) | (refine VLe.of_eq ?_; simp [*]; done)
  · simp [*]
  · repeat' first | exact Sub.nil _ | refine Sub.cons (by simp [St.find]) ?_

theorem ent21 : enters Tryz.prog 21 = true := by kernel_rfl
theorem runs21 (A : Key) (a b : Node) (hl : a.far.length < 4611686018427387904) : Runs Tryz.prog A 21 [a.pv, b.pv] [] (.bool (decide (a = b))) [] := by
  refine Runs.body (rs := [.tmp 4]) ent21 Tryz.func21 rfl Tryz.ntmps21 rfl (fun x h => by cases h) ?_
  repeat' first
   |(with_reducible first|apply qa|apply qb|apply qc|apply qd|apply qe|apply qf|apply qg|apply qh|apply qi|apply qj|apply qk|apply ql|apply qm|apply qn|apply qo|apply qp|apply qq|refine blockP_ne (by decide) ?_)
   |((with_reducible refine Pwp.reg fun K hK=>?_);simp[*])
   |((with_reducible refine Hid.go hK ?_);clear hK K)|((with_reducible apply Pwp.condG);rfl)|((with_reducible first|apply qqj|apply qqk);simp[*];done)|((with_reducible first|apply qr|apply qs|apply qt|apply qu|apply qv|apply qw)<;>intro h)
   |((with_reducible first|apply qx|apply qy|apply qz|apply qqa|apply qqb|apply qqc)<;>intro h<;>try simp[h, *])
   |((with_reducible refine and_go ?_ fun hs=>?_);focus omega
     try simp[*])
   |((with_reducible first|apply qql|apply qqn|apply qqp);simp[*])
  all_goals try (refine endP_ret0 ?_; simp [Node.eq_iff, *]; done)
  refine vcallk_pure (runs61 _ a.far b.far hl) ?_
  repeat' first
   |(with_reducible first|apply qa|apply qb|apply qc|apply qd|apply qe|apply qf|apply qg|apply qh|apply qi|apply qj|apply qk|apply ql|apply qm|apply qn|apply qo|apply qp|apply qq|refine blockP_ne (by decide) ?_)
   |((with_reducible refine Pwp.reg fun K hK=>?_);simp[*])
   |((with_reducible refine Hid.go hK ?_);clear hK K)|((with_reducible apply Pwp.condG);rfl)|((with_reducible first|apply qqj|apply qqk);simp[*];done)|((with_reducible first|apply qr|apply qs|apply qt|apply qu|apply qv|apply qw)<;>intro h)
   |((with_reducible first|apply qx|apply qy|apply qz|apply qqa|apply qqb|apply qqc)<;>intro h<;>try simp[h, *])
   |((with_reducible refine and_go ?_ fun hs=>?_);focus omega
     try simp[*])
   |((with_reducible first|apply qql|apply qqn|apply qqp);simp[*])
  all_goals (refine endP_ret0 ?_; simp [Node.eq_iff, *])
end Go.Pv

set_option linter.unusedVariables false
set_option linter.unusedSimpArgs false
set_option maxRecDepth 100000
namespace Go.Pv
open Go Go.Proofs

def aliveS : Scene := ⟨⟨[⟨1, true⟩], [[]]⟩, [groupN], [], [], ⟨0, 0⟩⟩
theorem alive1 : doMake zeroS groupN = (aliveS, ⟨0, 1⟩, 0) := by decide +kernel
theorem alive2 : doMake aliveS zeroN = (zeroS, ⟨0, 0⟩, 8) := by decide +kernel
theorem alive3 : doMake aliveS { zeroN with kind := 5 } = (zeroS, ⟨0, 0⟩, 8) := by decide +kernel
theorem lens0 : zeroS.Lens := by
  refine ⟨⟨?_, ?_, ?_⟩, ?_, ?_, ?_, ?_, ?_⟩ <;> simp [zeroS]
theorem lens1 : aliveS.Lens := by
  refine ⟨⟨?_, ?_, ?_⟩, ?_, ?_, ?_, ?_, ?_⟩ <;> simp [aliveS, groupN, zeroN]

set_option maxHeartbeats 8000000
theorem ent20 : enters Tryz.prog 20 = true := by kernel_rfl
theorem runs20 (A : Key) : Runs Tryz.prog A 20 [] [] (.bool true) [] := by
  have m1 := fun B => runs16make B zeroS (makeE groupN) lens0 rfl (by simp [makeE, groupN, zeroN])
  have m2 := fun B => runs16make B aliveS (makeE zeroN) lens1 rfl (by simp [makeE, zeroN])
  have m3 := fun B => runs16make B aliveS (makeE { zeroN with kind := 5 }) lens1 rfl (by simp [makeE, zeroN])
  have e1 : (makeE groupN).node = groupN := rfl
  have e2 : (makeE zeroN).node = zeroN := rfl
  have e3 : (makeE { zeroN with kind := 5 }).node = { zeroN with kind := 5 } := rfl
  rw [e1] at m1
  rw [e2] at m2
  rw [e3] at m3
  simp only [alive1] at m1
  simp only [alive2] at m2
  simp only [alive3] at m3
  clear e1 e2 e3
  refine Runs.body (rs := [.tmp 0]) ent20 Tryz.func20 rfl Tryz.ntmps20 rfl (fun x h => by cases h) ?_
  repeat' first
   |(with_reducible first|apply qa|apply qb|apply qc|apply qd|apply qe|apply qf|apply qg|apply qh|apply qi|apply qj|apply qk|apply ql|apply qm|apply qn|apply qo|apply qp|apply qq|refine blockP_ne (by decide) ?_)
   |((with_reducible refine Pwp.reg fun K hK=>?_);simp[m1])
   |((with_reducible refine Hid.go hK ?_);clear hK K)|((with_reducible apply Pwp.condG);rfl)|((with_reducible first|apply qqj|apply qqk);simp[m1];done)|((with_reducible first|apply qr|apply qs|apply qt|apply qu|apply qv|apply qw)<;>intro h)
   |((with_reducible first|apply qx|apply qy|apply qz|apply qqa|apply qqb|apply qqc)<;>intro h<;>try simp[h, m1])
   |((with_reducible refine and_go ?_ fun hs=>?_);focus omega
     try simp[m1])
   |((with_reducible first|apply qql|apply qqn|apply qqp);simp[m1])
  refine vcallk_pure (runs60 _) ?_
  repeat' first
   |(with_reducible first|apply qa|apply qb|apply qc|apply qd|apply qe|apply qf|apply qg|apply qh|apply qi|apply qj|apply qk|apply ql|apply qm|apply qn|apply qo|apply qp|apply qq|refine blockP_ne (by decide) ?_)
   |((with_reducible refine Pwp.reg fun K hK=>?_);simp[m1])
   |((with_reducible refine Hid.go hK ?_);clear hK K)|((with_reducible apply Pwp.condG);rfl)|((with_reducible first|apply qqj|apply qqk);simp[m1];done)|((with_reducible first|apply qr|apply qs|apply qt|apply qu|apply qv|apply qw)<;>intro h)
   |((with_reducible first|apply qx|apply qy|apply qz|apply qqa|apply qqb|apply qqc)<;>intro h<;>try simp[h, m1])
   |((with_reducible refine and_go ?_ fun hs=>?_);focus omega
     try simp[m1])
   |((with_reducible first|apply qql|apply qqn|apply qqp);simp[m1])
  refine vcallk_pure (Runs.args (m1 _) (by (repeat' first|exact VLeL.nil|refine VLeL.cons ?_ ?_|exact VLe.refl _|exact VLe.cap _ _|refine VLe.aggL ?_))) ?_
  repeat' first
   |(with_reducible first|apply qa|apply qb|apply qc|apply qd|apply qe|apply qf|apply qg|apply qh|apply qi|apply qj|apply qk|apply ql|apply qm|apply qn|apply qo|apply qp|apply qq|refine blockP_ne (by decide) ?_)
   |((with_reducible refine Pwp.reg fun K hK=>?_);simp[m1])
   |((with_reducible refine Hid.go hK ?_);clear hK K)|((with_reducible apply Pwp.condG);rfl)|((with_reducible first|apply qqj|apply qqk);simp[m1];done)|((with_reducible first|apply qr|apply qs|apply qt|apply qu|apply qv|apply qw)<;>intro h)
   |((with_reducible first|apply qx|apply qy|apply qz|apply qqa|apply qqb|apply qqc)<;>intro h<;>try simp[h, m1])
   |((with_reducible refine and_go ?_ fun hs=>?_);focus omega
     try simp[m1])
   |((with_reducible first|apply qql|apply qqn|apply qqp);simp[m1])
  refine vcallk_pure (Runs.args (m2 _) (by (repeat' first|exact VLeL.nil|refine VLeL.cons ?_ ?_|exact VLe.refl _|exact VLe.cap _ _|refine VLe.aggL ?_))) ?_
  repeat' first
   |(with_reducible first|apply qa|apply qb|apply qc|apply qd|apply qe|apply qf|apply qg|apply qh|apply qi|apply qj|apply qk|apply ql|apply qm|apply qn|apply qo|apply qp|apply qq|refine blockP_ne (by decide) ?_)
   |((with_reducible refine Pwp.reg fun K hK=>?_);simp[m1])
   |((with_reducible refine Hid.go hK ?_);clear hK K)|((with_reducible apply Pwp.condG);rfl)|((with_reducible first|apply qqj|apply qqk);simp[m1];done)|((with_reducible first|apply qr|apply qs|apply qt|apply qu|apply qv|apply qw)<;>intro h)
   |((with_reducible first|apply qx|apply qy|apply qz|apply qqa|apply qqb|apply qqc)<;>intro h<;>try simp[h, m1])
   |((with_reducible refine and_go ?_ fun hs=>?_);focus omega
     try simp[m1])
   |((with_reducible first|apply qql|apply qqn|apply qqp);simp[m1])
  refine vcallk_pure (Runs.args (m3 _) (by (repeat' first|exact VLeL.nil|refine VLeL.cons ?_ ?_|exact VLe.refl _|exact VLe.cap _ _|refine VLe.aggL ?_))) ?_
  repeat' first
   |(with_reducible first|apply qa|apply qb|apply qc|apply qd|apply qe|apply qf|apply qg|apply qh|apply qi|apply qj|apply qk|apply ql|apply qm|apply qn|apply qo|apply qp|apply qq|refine blockP_ne (by decide) ?_)
   |((with_reducible refine Pwp.reg fun K hK=>?_);simp[m1])
   |((with_reducible refine Hid.go hK ?_);clear hK K)|((with_reducible apply Pwp.condG);rfl)|((with_reducible first|apply qqj|apply qqk);simp[m1];done)|((with_reducible first|apply qr|apply qs|apply qt|apply qu|apply qv|apply qw)<;>intro h)
   |((with_reducible first|apply qx|apply qy|apply qz|apply qqa|apply qqb|apply qqc)<;>intro h<;>try simp[h, m1])
   |((with_reducible refine and_go ?_ fun hs=>?_);focus omega
     try simp[m1])
   |((with_reducible first|apply qql|apply qqn|apply qqp);simp[m1])
end Go.Pv

set_option linter.unusedVariables false
set_option linter.unusedSimpArgs false
set_option maxRecDepth 100000
namespace Go.Pv
open Go Go.Proofs

def bulky (s : Scene) : Bool := graphGreat s.graph || (decide (200 < s.nodes.length) || (decide (60 < s.meshes.length) || (decide (60 < s.textures.length) || texGreat s.textures)))
def greatB (s : Scene) : Bool := waysB s.graph || (bulky s || (s.nodes.any (fun n => decide (200 < n.far.length)) || s.meshes.any meshGreat))

set_option maxHeartbeats 8000000
theorem ent13 : enters Tryz.prog 13 = true := by kernel_rfl
theorem runs13 (A : Key) (s : Scene) (hs : s.Lens) : Runs Tryz.prog A 13 [s.pv] [] (.bool (greatB s)) [] := by
  have h45 := fun B => runs45 B s hs.graph.row hs.graph.kids
  have h46 := fun B => runs46 B s.graph hs.graph.row
  have h47 := fun B => runs47 B s.textures hs.textures
  have hnl := hs.nodes
  have hml := hs.meshes
  have htl := hs.textures
  refine Runs.body (rs := [.tmp 2]) ent13 Tryz.func13 rfl Tryz.ntmps13 rfl (fun x h => by cases h) ?_
  repeat' first
   |(with_reducible first|apply qa|apply qb|apply qc|apply qd|apply qe|apply qf|apply qg|apply qh|apply qi|apply qj|apply qk|apply ql|apply qm|apply qn|apply qo|apply qp|apply qq|refine blockP_ne (by decide) ?_)
   |((with_reducible refine Pwp.reg fun K hK=>?_);simp[*])
   |((with_reducible refine Hid.go hK ?_);clear hK K)|((with_reducible apply Pwp.condG);rfl)|((with_reducible first|apply qqj|apply qqk);simp[*];done)|((with_reducible first|apply qr|apply qs|apply qt|apply qu|apply qv|apply qw)<;>intro h)
   |((with_reducible first|apply qx|apply qy|apply qz|apply qqa|apply qqb|apply qqc)<;>intro h<;>try simp[h, *])
   |((with_reducible refine and_go ?_ fun hs=>?_);focus omega
     try simp[*])
   |((with_reducible first|apply qql|apply qqn|apply qqp);simp[*])
  refine vcallk_pure (h45 _) ?_
  cases hw : waysB s.graph with
  | true =>
    have hv : greatB s = true := by simp [greatB, hw]
    repeat' first
     |(with_reducible first|apply qa|apply qb|apply qc|apply qd|apply qe|apply qf|apply qg|apply qh|apply qi|apply qj|apply qk|apply ql|apply qm|apply qn|apply qo|apply qp|apply qq|refine blockP_ne (by decide) ?_)
     |((with_reducible refine Pwp.reg fun K hK=>?_);simp[hw])
     |((with_reducible refine Hid.go hK ?_);clear hK K)|((with_reducible apply Pwp.condG);rfl)|((with_reducible first|apply qqj|apply qqk);simp[hw];done)|((with_reducible first|apply qr|apply qs|apply qt|apply qu|apply qv|apply qw)<;>intro h)
     |((with_reducible first|apply qx|apply qy|apply qz|apply qqa|apply qqb|apply qqc)<;>intro h<;>try simp[h, hw])
     |((with_reducible refine and_go ?_ fun hs=>?_);focus omega
       try simp[hw])
     |((with_reducible first|apply qql|apply qqn|apply qqp);simp[hw])
    all_goals (refine endP_ret0 ?_; simp [hv])
  | false =>
    repeat' first
     |(with_reducible first|apply qa|apply qb|apply qc|apply qd|apply qe|apply qf|apply qg|apply qh|apply qi|apply qj|apply qk|apply ql|apply qm|apply qn|apply qo|apply qp|apply qq|refine blockP_ne (by decide) ?_)
     |((with_reducible refine Pwp.reg fun K hK=>?_);simp[hw])
     |((with_reducible refine Hid.go hK ?_);clear hK K)|((with_reducible apply Pwp.condG);rfl)|((with_reducible first|apply qqj|apply qqk);simp[hw];done)|((with_reducible first|apply qr|apply qs|apply qt|apply qu|apply qv|apply qw)<;>intro h)
     |((with_reducible first|apply qx|apply qy|apply qz|apply qqa|apply qqb|apply qqc)<;>intro h<;>try simp[h, hw])
     |((with_reducible refine and_go ?_ fun hs=>?_);focus omega
       try simp[hw])
     |((with_reducible first|apply qql|apply qqn|apply qqp);simp[hw])
    refine vcallk_pure (h46 _) ?_
    cases hb : bulky s with
    | true =>
      have hv : greatB s = true := by simp [greatB, hb]
      unfold bulky at hb
      cases hg : graphGreat s.graph with
      | true =>
        repeat' first
         |(with_reducible first|apply qa|apply qb|apply qc|apply qd|apply qe|apply qf|apply qg|apply qh|apply qi|apply qj|apply qk|apply ql|apply qm|apply qn|apply qo|apply qp|apply qq|refine blockP_ne (by decide) ?_)
         |((with_reducible refine Pwp.reg fun K hK=>?_);simp[hw, hg])
         |((with_reducible refine Hid.go hK ?_);clear hK K)|((with_reducible apply Pwp.condG);rfl)|((with_reducible first|apply qqj|apply qqk);simp[hw, hg];done)|((with_reducible first|apply qr|apply qs|apply qt|apply qu|apply qv|apply qw)<;>intro h)
         |((with_reducible first|apply qx|apply qy|apply qz|apply qqa|apply qqb|apply qqc)<;>intro h<;>try simp[h, hw, hg])
         |((with_reducible refine and_go ?_ fun hs=>?_);focus omega
           try simp[hw, hg])
         |((with_reducible first|apply qql|apply qqn|apply qqp);simp[hw, hg])
        all_goals (refine endP_ret0 ?_; simp [hv])
      | false =>
        by_cases h1 : 200 < s.nodes.length
        · have c1 : (200 < (s.nodes.length : Int)) = True := by simp only [eq_iff_iff, iff_true]; omega
          repeat' first
           |(with_reducible first|apply qa|apply qb|apply qc|apply qd|apply qe|apply qf|apply qg|apply qh|apply qi|apply qj|apply qk|apply ql|apply qm|apply qn|apply qo|apply qp|apply qq|refine blockP_ne (by decide) ?_)
           |((with_reducible refine Pwp.reg fun K hK=>?_);simp[hw, hg, c1])
           |((with_reducible refine Hid.go hK ?_);clear hK K)|((with_reducible apply Pwp.condG);rfl)|((with_reducible first|apply qqj|apply qqk);simp[hw, hg, c1];done)|((with_reducible first|apply qr|apply qs|apply qt|apply qu|apply qv|apply qw)<;>intro h)
           |((with_reducible first|apply qx|apply qy|apply qz|apply qqa|apply qqb|apply qqc)<;>intro h<;>try simp[h, hw, hg, c1])
           |((with_reducible refine and_go ?_ fun hs=>?_);focus omega
             try simp[hw, hg, c1])
           |((with_reducible first|apply qql|apply qqn|apply qqp);simp[hw, hg, c1])
          all_goals (refine endP_ret0 ?_; simp [hv])
        have c1 : (200 < (s.nodes.length : Int)) = False := by simp only [eq_iff_iff, iff_false]; omega
        by_cases h2 : 60 < s.meshes.length
        · have c2 : (60 < (s.meshes.length : Int)) = True := by simp only [eq_iff_iff, iff_true]; omega
          repeat' first
           |(with_reducible first|apply qa|apply qb|apply qc|apply qd|apply qe|apply qf|apply qg|apply qh|apply qi|apply qj|apply qk|apply ql|apply qm|apply qn|apply qo|apply qp|apply qq|refine blockP_ne (by decide) ?_)
           |((with_reducible refine Pwp.reg fun K hK=>?_);simp[hw, hg, c1, c2])
           |((with_reducible refine Hid.go hK ?_);clear hK K)|((with_reducible apply Pwp.condG);rfl)|((with_reducible first|apply qqj|apply qqk);simp[hw, hg, c1, c2];done)|((with_reducible first|apply qr|apply qs|apply qt|apply qu|apply qv|apply qw)<;>intro h)
           |((with_reducible first|apply qx|apply qy|apply qz|apply qqa|apply qqb|apply qqc)<;>intro h<;>try simp[h, hw, hg, c1, c2])
           |((with_reducible refine and_go ?_ fun hs=>?_);focus omega
             try simp[hw, hg, c1, c2])
           |((with_reducible first|apply qql|apply qqn|apply qqp);simp[hw, hg, c1, c2])
          all_goals (refine endP_ret0 ?_; simp [hv])
        have c2 : (60 < (s.meshes.length : Int)) = False := by simp only [eq_iff_iff, iff_false]; omega
        by_cases h3 : 60 < s.textures.length
        · have c3 : (60 < (s.textures.length : Int)) = True := by simp only [eq_iff_iff, iff_true]; omega
          repeat' first
           |(with_reducible first|apply qa|apply qb|apply qc|apply qd|apply qe|apply qf|apply qg|apply qh|apply qi|apply qj|apply qk|apply ql|apply qm|apply qn|apply qo|apply qp|apply qq|refine blockP_ne (by decide) ?_)
           |((with_reducible refine Pwp.reg fun K hK=>?_);simp[hw, hg, c1, c2, c3])
           |((with_reducible refine Hid.go hK ?_);clear hK K)|((with_reducible apply Pwp.condG);rfl)|((with_reducible first|apply qqj|apply qqk);simp[hw, hg, c1, c2, c3];done)|((with_reducible first|apply qr|apply qs|apply qt|apply qu|apply qv|apply qw)<;>intro h)
           |((with_reducible first|apply qx|apply qy|apply qz|apply qqa|apply qqb|apply qqc)<;>intro h<;>try simp[h, hw, hg, c1, c2, c3])
           |((with_reducible refine and_go ?_ fun hs=>?_);focus omega
             try simp[hw, hg, c1, c2, c3])
           |((with_reducible first|apply qql|apply qqn|apply qqp);simp[hw, hg, c1, c2, c3])
          all_goals (refine endP_ret0 ?_; simp [hv])
        have c3 : (60 < (s.textures.length : Int)) = False := by simp only [eq_iff_iff, iff_false]; omega
        have ht : texGreat s.textures = true := by simpa [hg, h1, h2, h3] using hb
        repeat' first
         |(with_reducible first|apply qa|apply qb|apply qc|apply qd|apply qe|apply qf|apply qg|apply qh|apply qi|apply qj|apply qk|apply ql|apply qm|apply qn|apply qo|apply qp|apply qq|refine blockP_ne (by decide) ?_)
         |((with_reducible refine Pwp.reg fun K hK=>?_);simp[hw, hg, c1, c2, c3])
         |((with_reducible refine Hid.go hK ?_);clear hK K)|((with_reducible apply Pwp.condG);rfl)|((with_reducible first|apply qqj|apply qqk);simp[hw, hg, c1, c2, c3];done)|((with_reducible first|apply qr|apply qs|apply qt|apply qu|apply qv|apply qw)<;>intro h)
         |((with_reducible first|apply qx|apply qy|apply qz|apply qqa|apply qqb|apply qqc)<;>intro h<;>try simp[h, hw, hg, c1, c2, c3])
         |((with_reducible refine and_go ?_ fun hs=>?_);focus omega
           try simp[hw, hg, c1, c2, c3])
         |((with_reducible first|apply qql|apply qqn|apply qqp);simp[hw, hg, c1, c2, c3])
        refine vcallk_pure (h47 _) ?_
        repeat' first
         |(with_reducible first|apply qa|apply qb|apply qc|apply qd|apply qe|apply qf|apply qg|apply qh|apply qi|apply qj|apply qk|apply ql|apply qm|apply qn|apply qo|apply qp|apply qq|refine blockP_ne (by decide) ?_)
         |((with_reducible refine Pwp.reg fun K hK=>?_);simp[ht])
         |((with_reducible refine Hid.go hK ?_);clear hK K)|((with_reducible apply Pwp.condG);rfl)|((with_reducible first|apply qqj|apply qqk);simp[ht];done)|((with_reducible first|apply qr|apply qs|apply qt|apply qu|apply qv|apply qw)<;>intro h)
         |((with_reducible first|apply qx|apply qy|apply qz|apply qqa|apply qqb|apply qqc)<;>intro h<;>try simp[h, ht])
         |((with_reducible refine and_go ?_ fun hs=>?_);focus omega
           try simp[ht])
         |((with_reducible first|apply qql|apply qqn|apply qqp);simp[ht])
        all_goals (refine endP_ret0 ?_; simp [hv])
    | false =>
      have hgb : greatB s = (s.nodes.any (fun n => decide (200 < n.far.length)) || s.meshes.any meshGreat) := by simp [greatB, hw, hb]
      unfold bulky at hb
      simp only [Bool.or_eq_false_iff, decide_eq_false_iff_not] at hb
      obtain ⟨hg, h1, h2, h3, ht⟩ := hb
      have c1 : (200 < (s.nodes.length : Int)) = False := by simp only [eq_iff_iff, iff_false]; omega
      have c2 : (60 < (s.meshes.length : Int)) = False := by simp only [eq_iff_iff, iff_false]; omega
      have c3 : (60 < (s.textures.length : Int)) = False := by simp only [eq_iff_iff, iff_false]; omega
      repeat' first
       |(with_reducible first|apply qa|apply qb|apply qc|apply qd|apply qe|apply qf|apply qg|apply qh|apply qi|apply qj|apply qk|apply ql|apply qm|apply qn|apply qo|apply qp|apply qq|refine blockP_ne (by decide) ?_)
       |((with_reducible refine Pwp.reg fun K hK=>?_);simp[hw, hg, c1, c2, c3])
       |((with_reducible refine Hid.go hK ?_);clear hK K)|((with_reducible apply Pwp.condG);rfl)|((with_reducible first|apply qqj|apply qqk);simp[hw, hg, c1, c2, c3];done)|((with_reducible first|apply qr|apply qs|apply qt|apply qu|apply qv|apply qw)<;>intro h)
       |((with_reducible first|apply qx|apply qy|apply qz|apply qqa|apply qqb|apply qqc)<;>intro h<;>try simp[h, hw, hg, c1, c2, c3])
       |((with_reducible refine and_go ?_ fun hs=>?_);focus omega
         try simp[hw, hg, c1, c2, c3])
       |((with_reducible first|apply qql|apply qqn|apply qqp);simp[hw, hg, c1, c2, c3])
      refine vcallk_pure (h47 _) ?_
      repeat' first
       |(with_reducible first|apply qa|apply qb|apply qc|apply qd|apply qe|apply qf|apply qg|apply qh|apply qi|apply qj|apply qk|apply ql|apply qm|apply qn|apply qo|apply qp|apply qq|refine blockP_ne (by decide) ?_)
       |((with_reducible refine Pwp.reg fun K hK=>?_);simp[ht])
       |((with_reducible refine Hid.go hK ?_);clear hK K)|((with_reducible apply Pwp.condG);rfl)|((with_reducible first|apply qqj|apply qqk);simp[ht];done)|((with_reducible first|apply qr|apply qs|apply qt|apply qu|apply qv|apply qw)<;>intro h)
       |((with_reducible first|apply qx|apply qy|apply qz|apply qqa|apply qqb|apply qqc)<;>intro h<;>try simp[h, ht])
       |((with_reducible refine and_go ?_ fun hs=>?_);focus omega
         try simp[ht])
       |((with_reducible first|apply qql|apply qqn|apply qqp);simp[ht])
      refine Pwp.loopN (ι := Nat) (S := fun i => ⟨[.any, .iptr [s.pv] 0 0, .any, .int .i64 i, .any, .any, .any, .any, .any, .any, .any, .any, .any, .any, .any, .any, .any, .any, .any, .any, .any, .any, .any, .any, .any, .any, .any, .any, .any, .any, .any, .any, .any, .any, .any, .any, .any, .any, .any, .any, .any, .any, .any, .any, .any, .any, .any, .any, .any, .any, .any, .any, .any, .any, .any, .any, .any, .any, .any, .any, .any], [], i :: 33 :: A, 0⟩)
        (C := fun i => i ≤ s.nodes.length ∧ ∀ j, (h : j < s.nodes.length) → j < i → decide (200 < s.nodes[j].far.length) = false) (μ := fun i => s.nodes.length - i) 0 ?_ ?_ ?_
      · refine PLe.tellInG [(0 :: A, .row 7 [s.pv])] (by simp) ?_ ?_ ?_
        · repeat' first | exact Sub.nil _ | refine Sub.cons (by simp [St.find, *]) ?_
        · repeat' first | exact StLeG.nil | (apply StLeG.old; (focus (simp [St.find]; done)); (focus ((repeat' first | exact St.find_hd _ _ _ | (apply St.find_tl; (focus (first | assumption | (simp; done) | (simp [*]; done))))); done))) | (refine StLeG.new ?_ ?_ ?_ ?_; (focus (simp [St.find]; done)); (focus omega); (focus omega))
          all_goals first | exact ObLe.refl _ | (refine ObLe.of_eq ?_; simp [*]; done) | (refine ObLe.row _ _ _ (ELe.one ?_ ?_); (focus (simp; done)))
          all_goals repeat' first | exact VLeL.nil | refine VLeL.cons ?_ ?_
          all_goals first | exact VLe.refl _ | exact VLe.any _ | exact VLe.cap _ _ | (refine VLe.ghost1 ?_ ?_ <;> omega) | (apply VLe.row (h := ELe.refl _); (focus ((repeat' first | exact St.find_hd _ _ _ | (apply St.find_tl; (focus (first | assumption | (simp; done) | (simp [*]; done))))); done)); (simp [*]; done)) | (apply VLe.prow (h := ELe.refl _); (focus ((repeat' first | exact St.find_hd _ _ _ | (apply St.find_tl; (focus (first | assumption | (simp; done) | (simp [*]; done))))); done)); (simp; done)) | (refine VLe.of_eq ?_; simp [*]; done)
        · repeat' first | exact VLeL.nil | refine VLeL.cons ?_ ?_
          all_goals first | exact VLe.refl _ | exact VLe.any _ | exact VLe.cap _ _ | (refine VLe.ghost1 ?_ ?_ <;> omega) | (apply VLe.row (h := ELe.refl _); (focus ((repeat' first | exact St.find_hd _ _ _ | (apply St.find_tl; (focus (first | assumption | (simp; done) | (simp [*]; done))))); done)); (simp [*]; done)) | (apply VLe.prow (h := ELe.refl _); (focus ((repeat' first | exact St.find_hd _ _ _ | (apply St.find_tl; (focus (first | assumption | (simp; done) | (simp [*]; done))))); done)); (simp; done)) | (refine VLe.of_eq ?_; simp [*]; done)
      · simp
      · rintro i ⟨hi, hp⟩
        by_cases hlt : i < s.nodes.length
        · by_cases h4 : 200 < s.nodes[i].far.length
          · have hv : greatB s = true := by
              have : s.nodes.any (fun n => decide (200 < n.far.length)) = true := List.any_eq_true.2 ⟨_, List.getElem_mem hlt, by simp [h4]⟩
              rw [hgb, this]; simp
            have c4 : (200 < (s.nodes[i].far.length : Int)) = True := by simp only [eq_iff_iff, iff_true]; omega
            repeat' first
             |(with_reducible first|apply qa|apply qb|apply qc|apply qd|apply qe|apply qf|apply qg|apply qh|apply qi|apply qj|apply qk|apply ql|apply qm|apply qn|apply qo|apply qp|apply qq|refine blockP_ne (by decide) ?_)
             |((with_reducible refine Pwp.reg fun K hK=>?_);simp[hlt, c4])
             |((with_reducible refine Hid.go hK ?_);clear hK K)|((with_reducible apply Pwp.condG);rfl)|((with_reducible first|apply qqj|apply qqk);simp[hlt, c4];done)|((with_reducible first|apply qr|apply qs|apply qt|apply qu|apply qv|apply qw)<;>intro h)
             |((with_reducible first|apply qx|apply qy|apply qz|apply qqa|apply qqb|apply qqc)<;>intro h<;>try simp[h, hlt, c4])
             |((with_reducible refine and_go ?_ fun hs=>?_);focus omega
               try simp[hlt, c4])
             |((with_reducible first|apply qql|apply qqn|apply qqp);simp[hlt, c4])
            all_goals (refine endP_ret0 ?_; simp [hv])
          · have c4 : (200 < (s.nodes[i].far.length : Int)) = False := by simp only [eq_iff_iff, iff_false]; omega
            repeat' first
             |(with_reducible first|apply qa|apply qb|apply qc|apply qd|apply qe|apply qf|apply qg|apply qh|apply qi|apply qj|apply qk|apply ql|apply qm|apply qn|apply qo|apply qp|apply qq|refine blockP_ne (by decide) ?_)
             |((with_reducible refine Pwp.reg fun K hK=>?_);simp[hlt, c4, wrap_succ i (by omega)])
             |((with_reducible refine Hid.go hK ?_);clear hK K)|((with_reducible apply Pwp.condG);rfl)|((with_reducible first|apply qqj|apply qqk);simp[hlt, c4, wrap_succ i (by omega)];done)|((with_reducible first|apply qr|apply qs|apply qt|apply qu|apply qv|apply qw)<;>intro h)
             |((with_reducible first|apply qx|apply qy|apply qz|apply qqa|apply qqb|apply qqc)<;>intro h<;>try simp[h, hlt, c4, wrap_succ i (by omega)])
             |((with_reducible refine and_go ?_ fun hs=>?_);focus omega
               try simp[hlt, c4, wrap_succ i (by omega)])
             |((with_reducible first|apply qql|apply qqn|apply qqp);simp[hlt, c4, wrap_succ i (by omega)])
            refine roundN_go (i + 1) ?_ ⟨hlt, upto_succ hp hlt (by simp [h4])⟩ (by omega)
            refine PLe.tellNextG (pre := []) [] (by simp) ?_ ?_ ?_
            · repeat' first | exact Sub.nil _ | refine Sub.cons (by simp [St.find, *]) ?_
            · repeat' first | exact StLe.nil | (apply StLe.cons; (focus (first | (simp [St.find]; done) | (simp [St.find, *]; done))); (focus ((repeat' first | exact St.find_hd _ _ _ | (apply St.find_tl; (focus (first | assumption | (simp; done) | (simp [*]; done))))); done)))
              all_goals first | exact ObLe.refl _ | (refine ObLe.of_eq ?_; simp [*]; done) | (refine ObLe.row _ _ _ (ELe.one ?_ ?_); (focus (simp; done)))
              all_goals repeat' first | exact VLeL.nil | refine VLeL.cons ?_ ?_
              all_goals first | exact VLe.refl _ | exact VLe.any _ | exact VLe.cap _ _ | (refine VLe.ghost1 ?_ ?_ <;> omega) | (apply VLe.row (h := ELe.refl _); (focus ((repeat' first | exact St.find_hd _ _ _ | (apply St.find_tl; (focus (first | assumption | (simp; done) | (simp [*]; done))))); done)); (simp [*]; done)) | (apply VLe.prow (h := ELe.refl _); (focus ((repeat' first | exact St.find_hd _ _ _ | (apply St.find_tl; (focus (first | assumption | (simp; done) | (simp [*]; done))))); done)); (simp; done)) | (refine VLe.of_eq ?_; simp [*]; done)
            · repeat' first | exact VLeL.nil | refine VLeL.cons ?_ ?_
              all_goals first | exact VLe.refl _ | exact VLe.any _ | exact VLe.cap _ _ | (refine VLe.ghost1 ?_ ?_ <;> omega) | (apply VLe.row (h := ELe.refl _); (focus ((repeat' first | exact St.find_hd _ _ _ | (apply St.find_tl; (focus (first | assumption | (simp; done) | (simp [*]; done))))); done)); (simp [*]; done)) | (apply VLe.prow (h := ELe.refl _); (focus ((repeat' first | exact St.find_hd _ _ _ | (apply St.find_tl; (focus (first | assumption | (simp; done) | (simp [*]; done))))); done)); (simp; done)) | (refine VLe.of_eq ?_; simp [*]; done)
        · have hn : s.nodes.any (fun n => decide (200 < n.far.length)) = false := by
            rw [List.any_eq_false]
            intro x hx
            obtain ⟨j, hj, rfl⟩ := List.getElem_of_mem hx
            have := hp j hj (by omega)
            simpa using this
          rw [hn, Bool.false_or] at hgb
          clear hn hp
          repeat' first
           |(with_reducible first|apply qa|apply qb|apply qc|apply qd|apply qe|apply qf|apply qg|apply qh|apply qi|apply qj|apply qk|apply ql|apply qm|apply qn|apply qo|apply qp|apply qq|refine blockP_ne (by decide) ?_)
           |((with_reducible refine Pwp.reg fun K hK=>?_);simp[hlt])
           |((with_reducible refine Hid.go hK ?_);clear hK K)|((with_reducible apply Pwp.condG);rfl)|((with_reducible first|apply qqj|apply qqk);simp[hlt];done)|((with_reducible first|apply qr|apply qs|apply qt|apply qu|apply qv|apply qw)<;>intro h)
           |((with_reducible first|apply qx|apply qy|apply qz|apply qqa|apply qqb|apply qqc)<;>intro h<;>try simp[h, hlt])
           |((with_reducible refine and_go ?_ fun hs=>?_);focus omega
             try simp[hlt])
           |((with_reducible first|apply qql|apply qqn|apply qqp);simp[hlt])
          refine Pwp.loopN (ι := Nat) (S := fun j => ⟨[.any, .iptr [s.pv] 0 0, .any, .any, .int .i64 j, .any, .any, .any, .any, .any, .any, .any, .any, .any, .any, .any, .any, .any, .any, .any, .any, .any, .any, .any, .any, .any, .any, .any, .any, .any, .any, .any, .any, .any, .any, .any, .any, .any, .any, .any, .any, .any, .any, .any, .any, .any, .any, .any, .any, .any, .any, .any, .any, .any, .any, .any, .any, .any, .any, .any, .any], [], j :: 6 :: i :: 33 :: A, 0⟩)
            (C := fun i => i ≤ s.meshes.length ∧ ∀ j, (h : j < s.meshes.length) → j < i → meshGreat s.meshes[j] = false) (μ := fun i => s.meshes.length - i) 0 ?_ ?_ ?_
          · refine PLe.tellInG [] (by simp) ?_ ?_ ?_
            · repeat' first | exact Sub.nil _ | refine Sub.cons (by simp [St.find, *]) ?_
            · repeat' first | exact StLeG.nil | (apply StLeG.old; (focus (simp [St.find]; done)); (focus ((repeat' first | exact St.find_hd _ _ _ | (apply St.find_tl; (focus (first | assumption | (simp; done) | (simp [*]; done))))); done))) | (refine StLeG.new ?_ ?_ ?_ ?_; (focus (simp [St.find]; done)); (focus omega); (focus omega))
              all_goals first | exact ObLe.refl _ | (refine ObLe.of_eq ?_; simp [*]; done) | (refine ObLe.row _ _ _ (ELe.one ?_ ?_); (focus (simp; done)))
              all_goals repeat' first | exact VLeL.nil | refine VLeL.cons ?_ ?_
              all_goals first | exact VLe.refl _ | exact VLe.any _ | exact VLe.cap _ _ | (refine VLe.ghost1 ?_ ?_ <;> omega) | (apply VLe.row (h := ELe.refl _); (focus ((repeat' first | exact St.find_hd _ _ _ | (apply St.find_tl; (focus (first | assumption | (simp; done) | (simp [*]; done))))); done)); (simp [*]; done)) | (apply VLe.prow (h := ELe.refl _); (focus ((repeat' first | exact St.find_hd _ _ _ | (apply St.find_tl; (focus (first | assumption | (simp; done) | (simp [*]; done))))); done)); (simp; done)) | (refine VLe.of_eq ?_; simp [*]; done)
            · repeat' first | exact VLeL.nil | refine VLeL.cons ?_ ?_
              all_goals first | exact VLe.refl _ | exact VLe.any _ | exact VLe.cap _ _ | (refine VLe.ghost1 ?_ ?_ <;> omega) | (apply VLe.row (h := ELe.refl _); (focus ((repeat' first | exact St.find_hd _ _ _ | (apply St.find_tl; (focus (first | assumption | (simp; done) | (simp [*]; done))))); done)); (simp [*]; done)) | (apply VLe.prow (h := ELe.refl _); (focus ((repeat' first | exact St.find_hd _ _ _ | (apply St.find_tl; (focus (first | assumption | (simp; done) | (simp [*]; done))))); done)); (simp; done)) | (refine VLe.of_eq ?_; simp [*]; done)
          · simp
          · rintro j ⟨hi2, hp⟩
            by_cases hlt2 : j < s.meshes.length
            · repeat' first
               |(with_reducible first|apply qa|apply qb|apply qc|apply qd|apply qe|apply qf|apply qg|apply qh|apply qi|apply qj|apply qk|apply ql|apply qm|apply qn|apply qo|apply qp|apply qq|refine blockP_ne (by decide) ?_)
               |((with_reducible refine Pwp.reg fun K hK=>?_);simp[hlt2])
               |((with_reducible refine Hid.go hK ?_);clear hK K)|((with_reducible apply Pwp.condG);rfl)|((with_reducible first|apply qqj|apply qqk);simp[hlt2];done)|((with_reducible first|apply qr|apply qs|apply qt|apply qu|apply qv|apply qw)<;>intro h)
               |((with_reducible first|apply qx|apply qy|apply qz|apply qqa|apply qqb|apply qqc)<;>intro h<;>try simp[h, hlt2])
               |((with_reducible refine and_go ?_ fun hs=>?_);focus omega
                 try simp[hlt2])
               |((with_reducible first|apply qql|apply qqn|apply qqp);simp[hlt2])
              refine vcallk_pure (runs48 _ s.meshes[j]) ?_
              cases hm : meshGreat s.meshes[j] with
              | true =>
                have hv : greatB s = true := by rw [hgb]; exact List.any_eq_true.2 ⟨_, List.getElem_mem hlt2, hm⟩
                repeat' first
                 |(with_reducible first|apply qa|apply qb|apply qc|apply qd|apply qe|apply qf|apply qg|apply qh|apply qi|apply qj|apply qk|apply ql|apply qm|apply qn|apply qo|apply qp|apply qq|refine blockP_ne (by decide) ?_)
                 |((with_reducible refine Pwp.reg fun K hK=>?_);simp[hm])
                 |((with_reducible refine Hid.go hK ?_);clear hK K)|((with_reducible apply Pwp.condG);rfl)|((with_reducible first|apply qqj|apply qqk);simp[hm];done)|((with_reducible first|apply qr|apply qs|apply qt|apply qu|apply qv|apply qw)<;>intro h)
                 |((with_reducible first|apply qx|apply qy|apply qz|apply qqa|apply qqb|apply qqc)<;>intro h<;>try simp[h, hm])
                 |((with_reducible refine and_go ?_ fun hs=>?_);focus omega
                   try simp[hm])
                 |((with_reducible first|apply qql|apply qqn|apply qqp);simp[hm])
                all_goals (refine endP_ret0 ?_; simp [hv])
              | false =>
                repeat' first
                 |(with_reducible first|apply qa|apply qb|apply qc|apply qd|apply qe|apply qf|apply qg|apply qh|apply qi|apply qj|apply qk|apply ql|apply qm|apply qn|apply qo|apply qp|apply qq|refine blockP_ne (by decide) ?_)
                 |((with_reducible refine Pwp.reg fun K hK=>?_);simp[hm, wrap_succ j (by omega)])
                 |((with_reducible refine Hid.go hK ?_);clear hK K)|((with_reducible apply Pwp.condG);rfl)|((with_reducible first|apply qqj|apply qqk);simp[hm, wrap_succ j (by omega)];done)|((with_reducible first|apply qr|apply qs|apply qt|apply qu|apply qv|apply qw)<;>intro h)
                 |((with_reducible first|apply qx|apply qy|apply qz|apply qqa|apply qqb|apply qqc)<;>intro h<;>try simp[h, hm, wrap_succ j (by omega)])
                 |((with_reducible refine and_go ?_ fun hs=>?_);focus omega
                   try simp[hm, wrap_succ j (by omega)])
                 |((with_reducible first|apply qql|apply qqn|apply qqp);simp[hm, wrap_succ j (by omega)])
                refine roundN_go (j + 1) ?_ ⟨hlt2, upto_succ hp hlt2 hm⟩ (by omega)
                refine PLe.tellNextG (pre := []) [] (by simp) ?_ ?_ ?_
                · repeat' first | exact Sub.nil _ | refine Sub.cons (by simp [St.find, *]) ?_
                · repeat' first | exact StLe.nil | (apply StLe.cons; (focus (first | (simp [St.find]; done) | (simp [St.find, *]; done))); (focus ((repeat' first | exact St.find_hd _ _ _ | (apply St.find_tl; (focus (first | assumption | (simp; done) | (simp [*]; done))))); done)))
                  all_goals first | exact ObLe.refl _ | (refine ObLe.of_eq ?_; simp [*]; done) | (refine ObLe.row _ _ _ (ELe.one ?_ ?_); (focus (simp; done)))
                  all_goals repeat' first | exact VLeL.nil | refine VLeL.cons ?_ ?_
                  all_goals first | exact VLe.refl _ | exact VLe.any _ | exact VLe.cap _ _ | (refine VLe.ghost1 ?_ ?_ <;> omega) | (apply VLe.row (h := ELe.refl _); (focus ((repeat' first | exact St.find_hd _ _ _ | (apply St.find_tl; (focus (first | assumption | (simp; done) | (simp [*]; done))))); done)); (simp [*]; done)) | (apply VLe.prow (h := ELe.refl _); (focus ((repeat' first | exact St.find_hd _ _ _ | (apply St.find_tl; (focus (first | assumption | (simp; done) | (simp [*]; done))))); done)); (simp; done)) | (refine VLe.of_eq ?_; simp [*]; done)
                · repeat' first | exact VLeL.nil | refine VLeL.cons ?_ ?_
                  all_goals first | exact VLe.refl _ | exact VLe.any _ | exact VLe.cap _ _ | (refine VLe.ghost1 ?_ ?_ <;> omega) | (apply VLe.row (h := ELe.refl _); (focus ((repeat' first | exact St.find_hd _ _ _ | (apply St.find_tl; (focus (first | assumption | (simp; done) | (simp [*]; done))))); done)); (simp [*]; done)) | (apply VLe.prow (h := ELe.refl _); (focus ((repeat' first | exact St.find_hd _ _ _ | (apply St.find_tl; (focus (first | assumption | (simp; done) | (simp [*]; done))))); done)); (simp; done)) | (refine VLe.of_eq ?_; simp [*]; done)
            · have hn : s.meshes.any meshGreat = false := by
                rw [List.any_eq_false]
                intro x hx
                obtain ⟨k, hk, rfl⟩ := List.getElem_of_mem hx
                have := hp k hk (by omega)
                simpa using this
              repeat' first
               |(with_reducible first|apply qa|apply qb|apply qc|apply qd|apply qe|apply qf|apply qg|apply qh|apply qi|apply qj|apply qk|apply ql|apply qm|apply qn|apply qo|apply qp|apply qq|refine blockP_ne (by decide) ?_)
               |((with_reducible refine Pwp.reg fun K hK=>?_);simp[hlt2])
               |((with_reducible refine Hid.go hK ?_);clear hK K)|((with_reducible apply Pwp.condG);rfl)|((with_reducible first|apply qqj|apply qqk);simp[hlt2];done)|((with_reducible first|apply qr|apply qs|apply qt|apply qu|apply qv|apply qw)<;>intro h)
               |((with_reducible first|apply qx|apply qy|apply qz|apply qqa|apply qqb|apply qqc)<;>intro h<;>try simp[h, hlt2])
               |((with_reducible refine and_go ?_ fun hs=>?_);focus omega
                 try simp[hlt2])
               |((with_reducible first|apply qql|apply qqn|apply qqp);simp[hlt2])
              all_goals (refine endP_ret0 ?_; simp [hgb, hn])
end Go.Pv

set_option linter.unusedVariables false
set_option linter.unusedSimpArgs false
set_option maxRecDepth 100000
namespace Go.Pv
open Go Go.Proofs

theorem held_at {l : List Slot} {h : Handle} : Held l h ↔ 0 ≤ h.slot ∧ slotAt l h.slot.toNat = ⟨h.gen, true⟩ := by
  unfold Held slotAt
  rw [List.getD_eq_getElem?_getD]
  cases l[h.slot.toNat]? with
  | none => simp
  | some x => simp

theorem scene_parts {s : Scene} (h : sceneOk s = true) : graphOk s.graph = true ∧ s.nodes.length = s.graph.kids.length ∧ s.meshes.length ≤ 32 ∧ s.meshes.any (fun m => decide (meshErr m ≠ 0)) = false ∧ s.textures.length ≤ 16 ∧ s.textures.any texBad = false ∧ nodesGood s ∧ rootBad s = false := by
  simpa only [sceneOk, Bool.and_eq_true, decide_eq_true_eq, Bool.not_eq_true'] using h
theorem scene_mk {s : Scene} (h : graphOk s.graph = true ∧ s.nodes.length = s.graph.kids.length ∧ s.meshes.length ≤ 32 ∧ s.meshes.any (fun m => decide (meshErr m ≠ 0)) = false ∧ s.textures.length ≤ 16 ∧ s.textures.any texBad = false ∧ nodesGood s ∧ rootBad s = false) : sceneOk s = true := by
  simpa only [sceneOk, Bool.and_eq_true, decide_eq_true_eq, Bool.not_eq_true'] using h
theorem graph_parts {g : Graph} (h : graphOk g = true) : arenaBad g.slots = false ∧ g.kids.length = g.slots.length ∧ rowsOk g ∧ loopsOk g := by
  simpa only [graphOk, Bool.and_eq_true, decide_eq_true_eq, Bool.not_eq_true'] using h
theorem graph_mk {g : Graph} (h : arenaBad g.slots = false ∧ g.kids.length = g.slots.length ∧ rowsOk g ∧ loopsOk g) : graphOk g = true := by
  simpa only [graphOk, Bool.and_eq_true, decide_eq_true_eq, Bool.not_eq_true'] using h

/-- What a scene and the one with a node more have in common. -/
structure Made (s s' : Scene) (n : Node) (h : Handle) : Prop where
  pos : 0 ≤ h.slot
  gen : 1 ≤ h.gen ∧ h.gen ≤ 1073741824
  self : slotAt s'.graph.slots h.slot.toNat = ⟨h.gen, true⟩
  other : ∀ i, i ≠ h.slot.toNat → slotAt s'.graph.slots i = slotAt s.graph.slots i
  dead : (slotAt s.graph.slots h.slot.toNat).live = false
  len : s'.graph.slots.length ≤ 128
  len2 : s.graph.slots.length ≤ s'.graph.slots.length
  at_ : h.slot.toNat < s'.graph.slots.length
  fill : ∀ i, i < s'.graph.slots.length → i ≠ h.slot.toNat → i < s.graph.slots.length
  kl : s'.graph.kids.length = s'.graph.slots.length
  nl : s'.nodes.length = s'.graph.slots.length
  kids : ∀ i, s'.graph.kids.getD i [] = s.graph.kids.getD i []
  node : s'.nodes.getD h.slot.toNat zeroN = n
  nodes : ∀ i, i ≠ h.slot.toNat → s'.nodes.getD i zeroN = s.nodes.getD i zeroN
  meshes : s'.meshes = s.meshes
  textures : s'.textures = s.textures
  root : s'.root = s.root

theorem getD_set_ne {α : Type} {l : List α} {i j : Nat} {x d : α} (h : j ≠ i) : (l.set i x).getD j d = l.getD j d := by
  simp only [List.getD_eq_getElem?_getD]
  rw [List.getElem?_set_ne (by omega)]
theorem getD_set_eq {α : Type} {l : List α} {i : Nat} {x d : α} (h : i < l.length) : (l.set i x).getD i d = x := by
  simp only [List.getD_eq_getElem?_getD, List.getElem?_set_self h, Option.getD_some]
theorem getD_app {α : Type} {l : List α} {j : Nat} {x d : α} (h : j ≠ l.length) : (l ++ [x]).getD j d = l.getD j d := by
  simp only [List.getD_eq_getElem?_getD]
  by_cases hj : j < l.length
  · rw [List.getElem?_append_left hj]
  · rw [List.getElem?_eq_none (by simp; omega), List.getElem?_eq_none (by omega)]
theorem getD_app_eq {α : Type} {l : List α} {x d : α} : (l ++ [x]).getD l.length d = x := by
  simp [List.getD_eq_getElem?_getD]
theorem getD_out {α : Type} {l : List α} {j : Nat} {d : α} (h : l.length ≤ j) : l.getD j d = d := by
  simp [List.getD_eq_getElem?_getD, List.getElem?_eq_none h]

theorem made {s : Scene} {n : Node} (hok : sceneOk s = true) (he : (sceneMake s n).2.2 = 0) : nodeOk s.meshes.length s.textures.length n = true ∧ Made s (sceneMake s n).1 n (sceneMake s n).2.1 := by
  obtain ⟨hg, hnl, -⟩ := scene_parts hok
  obtain ⟨hab, hkl, hrow, -⟩ := graph_parts hg
  have h128 := arena_len hab
  cases hn : nodeOk s.meshes.length s.textures.length n with
  | false => simp [sceneMake, hn] at he
  | true =>
    refine ⟨rfl, ?_⟩
    cases hf : s.graph.slots.findIdx? freeSlot with
    | some i =>
      obtain ⟨hi, hfree, _⟩ := List.findIdx?_eq_some_iff_getElem.1 hf
      have hsl : slotAt s.graph.slots i = s.graph.slots[i] := by simp [slotAt, List.getD_eq_getElem?_getD, hi]
      simp only [freeSlot, Bool.and_eq_true, Bool.not_eq_true', decide_eq_true_eq] at hfree
      have hb := hab
      simp only [arenaBad, Bool.or_eq_false_iff, List.any_eq_false] at hb
      have hgen := hb.2 s.graph.slots[i] (List.getElem_mem hi)
      simp only [slotBad, decide_eq_true_eq] at hgen
      have ham : arenaMake s.graph.slots = (s.graph.slots.set i ⟨s.graph.slots[i].gen + 1, true⟩, ⟨i, s.graph.slots[i].gen + 1⟩, 0) := by simp [arenaMake, hab, hf, hsl]
      have hnm : nodesMake s.graph = (⟨s.graph.slots.set i ⟨s.graph.slots[i].gen + 1, true⟩, s.graph.kids⟩, ⟨i, s.graph.slots[i].gen + 1⟩, 0) := by simp [nodesMake, hg, ham, hkl]
      have hsm : sceneMake s n = ({ s with graph := ⟨s.graph.slots.set i ⟨s.graph.slots[i].gen + 1, true⟩, s.graph.kids⟩, nodes := s.nodes.set i n }, ⟨i, s.graph.slots[i].gen + 1⟩, 0) := by simp [sceneMake, hn, hnm, hnl]
      rw [hsm]
      exact ⟨by simp, by simp only; omega, by simp only [Int.toNat_natCast]; exact getD_set_eq hi, fun j hj => by simp only [Int.toNat_natCast] at hj; exact getD_set_ne hj, by simp only [Int.toNat_natCast]; rw [hsl]; exact hfree.1,
        by simpa using h128, by simp, by simpa using hi, fun j hj _ => by simpa using hj, by simpa using hkl, by simp; omega, fun j => rfl, by simp only [Int.toNat_natCast]; exact getD_set_eq (by omega), fun j hj => by simp only [Int.toNat_natCast] at hj; exact getD_set_ne hj, rfl, rfl, rfl⟩
    | none =>
      by_cases h8 : s.graph.slots.length = 128
      · have ham : arenaMake s.graph.slots = ([], ⟨0, 0⟩, 9) := by simp [arenaMake, hab, hf, h8]
        have hnm : nodesMake s.graph = (⟨[], []⟩, ⟨0, 0⟩, 9) := by simp [nodesMake, hg, ham]
        simp [sceneMake, hn, hnm] at he
      · have ham : arenaMake s.graph.slots = (s.graph.slots ++ [(⟨1, true⟩ : Slot)], ⟨s.graph.slots.length, 1⟩, 0) := by simp [arenaMake, hab, hf, h8]
        have hnm : nodesMake s.graph = (⟨s.graph.slots ++ [(⟨1, true⟩ : Slot)], s.graph.kids ++ [[]]⟩, ⟨s.graph.slots.length, 1⟩, 0) := by simp [nodesMake, hg, ham, hkl]
        have hsm : sceneMake s n = ({ s with graph := ⟨s.graph.slots ++ [(⟨1, true⟩ : Slot)], s.graph.kids ++ [[]]⟩, nodes := s.nodes ++ [n] }, ⟨s.graph.slots.length, 1⟩, 0) := by
          have e : (s.nodes ++ [zeroN]).set s.graph.slots.length n = s.nodes ++ [n] := by
            rw [List.set_append_right _ _ (by omega)]
            simp [hnl, hkl]
          simp [sceneMake, hn, hnm, hnl, hkl, e]
        rw [hsm]
        refine ⟨by simp, by simp, by simp only [Int.toNat_natCast]; exact getD_app_eq, fun j hj => by simp only [Int.toNat_natCast] at hj; exact getD_app hj, by simp only [Int.toNat_natCast, slotAt]; rw [getD_out (Nat.le_refl _)],
          by simp; omega, by simp, by simp, fun j hj hj2 => by simp only [List.length_append, List.length_cons, List.length_nil, Int.toNat_natCast] at hj hj2; omega, by simp; omega, by simp; omega, fun j => ?_, ?_, fun j hj => ?_, rfl, rfl, rfl⟩
        · by_cases hj : j = s.graph.kids.length
          · subst hj
            simp only
            rw [getD_app_eq, getD_out (Nat.le_refl _)]
          · exact getD_app hj
        · simp only [Int.toNat_natCast]
          rw [← hkl, ← hnl]
          exact getD_app_eq
        · simp only [Int.toNat_natCast] at hj
          exact getD_app (by omega)

theorem row_ok {slots : List Slot} {i : Nat} {l : List Handle} : rowBad slots i l = false ↔ l.length ≤ 16 ∧ (0 < l.length → (slotAt slots i).live = true) ∧ ∀ x ∈ l, HoldsB slots x = true := by
  simp only [rowBad, Bool.or_eq_false_iff, Bool.and_eq_false_iff, decide_eq_false_iff_not, Bool.not_eq_false', List.any_eq_false, Bool.not_eq_true', Bool.not_eq_false]
  constructor
  · rintro ⟨⟨h1, h2⟩, h3⟩
    exact ⟨by omega, fun h => h2.resolve_left (by omega), h3⟩
  · rintro ⟨h1, h2, h3⟩
    refine ⟨⟨by omega, ?_⟩, h3⟩
    by_cases h : 0 < l.length
    · exact .inr (h2 h)
    · exact .inl h

theorem dfs_congr {kids kids' : List (List Handle)} (h : ∀ i, kids'.getD i [] = kids.getD i []) (to : Handle) : ∀ f, dfs kids' to f = dfs kids to f
  | 0 => rfl
  | f + 1 => by
    funext M x
    have e : kidsAt kids' x = kidsAt kids x := h _
    simp only [dfs, dfs_congr h to f, e]

theorem slotAt_lt {l : List Slot} {i : Nat} (h : i < l.length) : slotAt l i = l[i] := by simp [slotAt, List.getD_eq_getElem?_getD, h]
theorem getD_lt {α : Type} {l : List α} {i : Nat} {d : α} (h : i < l.length) : l.getD i d = l[i] := by simp [List.getD_eq_getElem?_getD, h]

section
variable {s s' : Scene} {n : Node} {h : Handle}
theorem Made.held (m : Made s s' n h) {x : Handle} (hx : Held s.graph.slots x) : Held s'.graph.slots x := by
  rw [held_at] at hx ⊢
  refine ⟨hx.1, ?_⟩
  rw [m.other _ (fun e => ?_)]
  · exact hx.2
  · have := m.dead
    rw [← e, hx.2] at this
    cases this
theorem Made.arena (m : Made s s' n h) (hab : arenaBad s.graph.slots = false) : arenaBad s'.graph.slots = false := by
  have hb := hab
  simp only [arenaBad, Bool.or_eq_false_iff, List.any_eq_false, decide_eq_false_iff_not] at hb ⊢
  refine ⟨by have := m.len; omega, fun x hx => ?_⟩
  obtain ⟨i, hi, rfl⟩ := List.getElem_of_mem hx
  rw [← slotAt_lt hi]
  by_cases hk : i = h.slot.toNat
  · rw [hk, m.self]
    have := m.gen
    simp only [slotBad, decide_eq_true_eq]
    omega
  · have hi2 := m.fill i hi hk
    rw [m.other i hk, slotAt_lt hi2]
    exact hb.2 _ (List.getElem_mem hi2)
theorem Made.holds (m : Made s s' n h) (hab : arenaBad s.graph.slots = false) {x : Handle} (hx : HoldsB s.graph.slots x = true) : HoldsB s'.graph.slots x = true := by
  rw [holdsB_iff (m.arena hab), decide_eq_true_eq]
  rw [holdsB_iff hab, decide_eq_true_eq] at hx
  exact m.held hx

theorem dead_row {g : Graph} (hr : rowsOk g) {i : Nat} (hd : (slotAt g.slots i).live = false) : g.kids.getD i [] = [] := by
  by_cases hi : i < g.kids.length
  · rw [getD_lt hi]
    have := (row_ok.1 (hr i hi)).2.1
    rw [hd] at this
    cases hl : g.kids[i] with
    | nil => rfl
    | cons a l => rw [hl] at this; simp at this
  · exact getD_out (by omega)

theorem Made.ok (m : Made s s' n h) (hok : sceneOk s = true) (hn : nodeOk s.meshes.length s.textures.length n = true) : sceneOk s' = true := by
  obtain ⟨hg, hnl, hm1, hm2, ht1, ht2, hng, hrb⟩ := scene_parts hok
  obtain ⟨hab, hkl, hrow, hloop⟩ := graph_parts hg
  have hdr := dead_row hrow m.dead
  have hrow' : ∀ i, rowBad s'.graph.slots i (s.graph.kids.getD i []) = false := by
    intro i
    by_cases hi : i < s.graph.kids.length
    · rw [getD_lt hi]
      have h1 := row_ok.1 (hrow i hi)
      refine row_ok.2 ⟨h1.1, fun h0 => ?_, fun x hx => m.holds hab (h1.2.2 x hx)⟩
      by_cases hk : i = h.slot.toNat
      · rw [hk, m.self]
      · rw [m.other i hk]
        exact h1.2.1 h0
    · rw [getD_out (by omega)]
      exact row_ok.2 ⟨by simp, fun h0 => by simp at h0, fun x hx => by cases hx⟩
  refine scene_mk ⟨graph_mk ⟨m.arena hab, m.kl, fun i hi => ?_, fun i hi => ?_⟩, by rw [m.nl, m.kl], by rw [m.meshes]; exact hm1, by rw [m.meshes]; exact hm2, by rw [m.textures]; exact ht1, by rw [m.textures]; exact ht2, fun i hi => ?_, ?_⟩
  · rw [← getD_lt (d := []) hi, m.kids]
    exact hrow' i
  · unfold loopAt
    rw [← getD_lt (d := []) hi, m.kids, dfs_congr m.kids]
    by_cases hk : i = h.slot.toNat
    · rw [hk, hdr]; rfl
    · have e : selfAt s'.graph.slots i = selfAt s.graph.slots i := by unfold selfAt; rw [m.other i hk]
      rw [e]
      by_cases hi2 : i < s.graph.kids.length
      · rw [getD_lt hi2]
        exact hloop i hi2
      · rw [getD_out (by omega)]; rfl
  · by_cases hk : i = h.slot.toNat
    · rw [← getD_lt (d := zeroN) hi]
      unfold nodeBad
      rw [hk, m.self, m.node, m.kids, hdr, m.meshes, m.textures, hn]
      simp
    · have hi2 : i < s.nodes.length := by rw [hnl, hkl]; exact m.fill i (by rw [← m.nl]; exact hi) hk
      have := hng i hi2
      rw [← getD_lt (d := zeroN) hi, m.nodes i hk, getD_lt hi2]
      unfold nodeBad at this ⊢
      rw [m.other i hk, m.kids, m.meshes, m.textures]
      exact this
  · unfold rootBad at hrb ⊢
    rw [m.root]
    simp only [Bool.and_eq_false_iff, decide_eq_false_iff_not, ne_eq, Decidable.not_not, Bool.not_eq_false'] at hrb ⊢
    exact hrb.imp id (fun h => m.holds hab h)

theorem Made.notKid (m : Made s s' n h) (hok : sceneOk s = true) : ∀ l ∈ s'.graph.kids, h ∉ l := by
  obtain ⟨hg, -⟩ := scene_parts hok
  obtain ⟨hab, hkl, hrow, hloop⟩ := graph_parts hg
  intro l hl hx
  obtain ⟨i, hi, rfl⟩ := List.getElem_of_mem hl
  rw [← getD_lt (d := []) hi, m.kids] at hx
  by_cases hi2 : i < s.graph.kids.length
  · rw [getD_lt hi2] at hx
    have h1 := (row_ok.1 (hrow i hi2)).2.2 h hx
    rw [holdsB_iff hab, decide_eq_true_eq, held_at] at h1
    have := m.dead
    rw [h1.2] at this
    cases this
  · rw [getD_out (by omega)] at hx
    cases hx
end
end Go.Pv

set_option linter.unusedVariables false
set_option linter.unusedSimpArgs false
set_option maxRecDepth 100000
namespace Go.Pv
open Go Go.Proofs

theorem lens_of_caps {s s' : Scene} (hs : s.Lens) (hm : s'.meshes = s.meshes) (hc : s'.Caps) : s'.Lens :=
  ⟨hc.graph.lens, by have := hc.nodes; omega, fun n hn => by have := hc.far n hn; omega, by have := hc.meshes; omega, by rw [hm]; exact hs.mesh, by have := hc.textures; omega⟩

structure Back (s s' : Scene) (h : Handle) : Prop where
  pos : 0 ≤ h.slot
  root : s'.root = s.root
  at_ : h.slot.toNat < s'.nodes.length
  nl : s.nodes.length ≤ s'.nodes.length
  kl : s'.graph.kids.length = s'.nodes.length
  sl : s'.graph.slots.length = s'.nodes.length
  kids : ∀ i, s'.graph.kids.getD i [] = s.graph.kids.getD i []
  nodes : ∀ i, s'.nodes.getD i zeroN = s.nodes.getD i zeroN
  slots : ∀ i, i ≠ h.slot.toNat → slotAt s'.graph.slots i = slotAt s.graph.slots i

theorem back {s s' : Scene} {n : Node} {h : Handle} (hok : sceneOk s = true) (hok' : sceneOk s' = true) (m : Made s s' n h) : (sceneKill s' h).2 = 0 ∧ Back s (sceneKill s' h).1 h := by
  obtain ⟨hg, hnl, -, -, -, -, hng, hrb⟩ := scene_parts hok
  obtain ⟨hab, hkl, hrow, -⟩ := graph_parts hg
  obtain ⟨hg', -⟩ := scene_parts hok'
  obtain ⟨hab', hkl', -⟩ := graph_parts hg'
  have hdr := dead_row hrow m.dead
  have hheld : Held s'.graph.slots h := held_at.2 ⟨m.pos, m.self⟩
  have hask : askErr s'.graph [h] = 0 := by
    have : HoldsB s'.graph.slots h = true := by rw [holdsB_iff hab']; simpa using hheld
    simp [askErr, hg', this]
  have hk : nodesKill s'.graph h = (⟨s'.graph.slots.set h.slot.toNat ⟨h.gen, false⟩, (s'.graph.kids.set h.slot.toNat []).map (fun l => l.filter (fun x => !decide (x = h)))⟩, 0) := by simp [nodesKill, hask]
  have hroot : ¬ s'.root = h := by
    rw [m.root]
    intro e
    unfold rootBad at hrb
    simp only [Bool.and_eq_false_iff, decide_eq_false_iff_not, ne_eq, Decidable.not_not, Bool.not_eq_false'] at hrb
    rcases hrb with h1 | h1
    · have := m.gen
      rw [← e, h1] at this
      simp at this
    · rw [holdsB_iff hab, decide_eq_true_eq, held_at, e] at h1
      have := m.dead
      rw [h1.2] at this
      cases this
  have hs : sceneKill s' h = ({ s' with graph := ⟨s'.graph.slots.set h.slot.toNat ⟨h.gen, false⟩, (s'.graph.kids.set h.slot.toNat []).map (fun l => l.filter (fun x => !decide (x = h)))⟩, nodes := s'.nodes.set h.slot.toNat zeroN }, 0) := by
    simp only [sceneKill, hk, if_true, if_neg hroot]
  rw [hs]
  refine ⟨rfl, m.pos, m.root, by simp only [List.length_set]; rw [m.nl]; exact m.at_, by simp only [List.length_set]; rw [m.nl, hnl, hkl]; exact m.len2, by simp only [List.length_map, List.length_set]; rw [m.kl, m.nl], by simp only [List.length_set]; rw [m.nl], fun i => ?_, fun i => ?_, fun i hi => ?_⟩
  · have hmap : ((s'.graph.kids.set h.slot.toNat []).map (fun l => l.filter (fun x => !decide (x = h)))).getD i [] = ((s'.graph.kids.set h.slot.toNat []).getD i []).filter (fun x => !decide (x = h)) := by
      simp only [List.getD_eq_getElem?_getD, List.getElem?_map]
      cases (s'.graph.kids.set h.slot.toNat [])[i]? <;> rfl
    simp only
    rw [hmap]
    by_cases hi : i = h.slot.toNat
    · subst hi
      rw [hdr, getD_set_eq (by rw [m.kl]; exact m.at_)]
      rfl
    · rw [getD_set_ne hi, m.kids, List.filter_eq_self]
      intro a ha
      simp only [Bool.not_eq_true', decide_eq_false_iff_not]
      intro e
      subst e
      by_cases hi2 : i < s'.graph.kids.length
      · rw [← m.kids, getD_lt hi2] at ha
        exact m.notKid hok _ (List.getElem_mem hi2) ha
      · rw [← m.kids, getD_out (by omega)] at ha
        cases ha
  · by_cases hi : i = h.slot.toNat
    · subst hi
      simp only
      rw [getD_set_eq (by rw [m.nl]; exact m.at_)]
      by_cases hi2 : h.slot.toNat < s.nodes.length
      · have := hng _ hi2
        unfold nodeBad at this
        rw [m.dead] at this
        rw [getD_lt hi2]
        have this2 : s.nodes[h.slot.toNat] = zeroN := by simpa using this
        exact this2.symm
      · rw [getD_out (by omega)]
    · simp only
      rw [getD_set_ne hi, m.nodes i hi]
  · have e : slotAt (s'.graph.slots.set h.slot.toNat ⟨h.gen, false⟩) i = slotAt s'.graph.slots i := getD_set_ne hi
    simp only
    rw [e, m.other i hi]
end Go.Pv

set_option linter.unusedVariables false
set_option linter.unusedSimpArgs false
set_option maxRecDepth 100000
namespace Go.Pv
open Go Go.Proofs

theorem doMake_zero {s : Scene} {n : Node} (h : (doMake s n).2.2 = 0) : sceneOk s = true ∧ doMake s n = sceneMake s n ∧ (sceneMake s n).2.2 = 0 := by
  unfold doMake at h ⊢
  by_cases h1 : sceneOk s = true
  · by_cases h2 : (sceneMake s n).2.2 = 0
    · simp [h1, h2]
    · simp [h1, h2] at h
  · simp [h1] at h

set_option maxHeartbeats 8000000
theorem ent4 : enters Tryz.prog 4 = true := by kernel_rfl
theorem runs4 (A : Key) (s : Scene) (n : Node) (hs : s.Lens) (hf : n.far.length < 4611686018427387904) : Runs Tryz.prog A 4 [s.pv, n.pv] [] (.bool true) [] := by
  have h13 := fun B => runs13 B s hs
  have hmk := fun B => runs16make B s (makeE n) hs rfl hf
  have e1 : (makeE n).node = n := rfl
  simp only [e1] at hmk
  clear e1
  cases hg : greatB s with
  | true =>
    rw [hg] at h13
    clear hmk
    refine Runs.body (rs := [.tmp 4]) ent4 Tryz.func4 rfl Tryz.ntmps4 rfl (fun x h => by cases h) ?_
    repeat' first
     |(with_reducible first|apply qa|apply qb|apply qc|apply qd|apply qe|apply qf|apply qg|apply qh|apply qi|apply qj|apply qk|apply ql|apply qm|apply qn|apply qo|apply qp|apply qq|refine blockP_ne (by decide) ?_)
     |((with_reducible refine Pwp.reg fun K hK=>?_);simp[h13])
     |((with_reducible refine Pwp.drawn (id := 13) follows_mixed [0, 1, 0, 7, 15, 0, 32, 0, 224, 480, 1023, 2047, 4095, 8191, 16383, 32767, 8191, 131071, 262143, 8191, 532479, 1581055, 8191, 7872511, 16261119, 33554431, 67108863, 134217727, 268435455, 536870911, 536870911, 1610612735, 3758096383, 8589934591, 17179869183, 34359738367, 68719476735, 137438953471, 274877906943, 34359738367, 1099511627775, 2199023255551, 34359738367, 4432406249471, 13228499271679, 30820685316095, 34359738367, 136373801582591, 277111289937919, 562949953421311, 1125899906842623, 2251799813685247] [false, false, false, false, false, false, false, false, false, false, true, false, false, false, false, false, false, false, false, false, false, false, false, false, false, true, false, false, false, false, false, false, true, false, false, false, false, false, false, false, false, false, false, false, false, false, false, false, false, false, false, false] ?_ fun K hK => ?_); focus kernel_rfl
       simp [h13])
     |((with_reducible refine Hid.go hK ?_);clear hK K)|((with_reducible apply Pwp.condG);rfl)|((with_reducible first|apply qqj|apply qqk);simp[h13];done)|((with_reducible first|apply qr|apply qs|apply qt|apply qu|apply qv|apply qw)<;>intro h)
     |((with_reducible first|apply qx|apply qy|apply qz|apply qqa|apply qqb|apply qqc|apply qqd|apply qqe|apply qqf|apply qqg|apply qqh|apply qqi)<;>intro h<;>try simp[h, h13])
     |((with_reducible refine and_go ?_ fun hs=>?_);focus omega
       try simp[h13])
     |((with_reducible first|apply qql|apply qqn|apply qqp|apply qqm|apply qqo|apply qqq);simp[h13])
    refine vcallk_pure (runs20 _) ?_
    repeat' first
     |(with_reducible first|apply qa|apply qb|apply qc|apply qd|apply qe|apply qf|apply qg|apply qh|apply qi|apply qj|apply qk|apply ql|apply qm|apply qn|apply qo|apply qp|apply qq|refine blockP_ne (by decide) ?_)
     |((with_reducible refine Pwp.reg fun K hK=>?_);simp[h13])
     |((with_reducible refine Pwp.drawn (id := 13) follows_mixed [0, 1, 0, 7, 15, 0, 32, 0, 224, 480, 1023, 2047, 4095, 8191, 16383, 32767, 8191, 131071, 262143, 8191, 532479, 1581055, 8191, 7872511, 16261119, 33554431, 67108863, 134217727, 268435455, 536870911, 536870911, 1610612735, 3758096383, 8589934591, 17179869183, 34359738367, 68719476735, 137438953471, 274877906943, 34359738367, 1099511627775, 2199023255551, 34359738367, 4432406249471, 13228499271679, 30820685316095, 34359738367, 136373801582591, 277111289937919, 562949953421311, 1125899906842623, 2251799813685247] [false, false, false, false, false, false, false, false, false, false, true, false, false, false, false, false, false, false, false, false, false, false, false, false, false, true, false, false, false, false, false, false, true, false, false, false, false, false, false, false, false, false, false, false, false, false, false, false, false, false, false, false] ?_ fun K hK => ?_); focus kernel_rfl
       simp [h13])
     |((with_reducible refine Hid.go hK ?_);clear hK K)|((with_reducible apply Pwp.condG);rfl)|((with_reducible first|apply qqj|apply qqk);simp[h13];done)|((with_reducible first|apply qr|apply qs|apply qt|apply qu|apply qv|apply qw)<;>intro h)
     |((with_reducible first|apply qx|apply qy|apply qz|apply qqa|apply qqb|apply qqc|apply qqd|apply qqe|apply qqf|apply qqg|apply qqh|apply qqi)<;>intro h<;>try simp[h, h13])
     |((with_reducible refine and_go ?_ fun hs=>?_);focus omega
       try simp[h13])
     |((with_reducible first|apply qql|apply qqn|apply qqp|apply qqm|apply qqo|apply qqq);simp[h13])
    refine vcallk_pure (h13 _) ?_
    repeat' first
     |(with_reducible first|apply qa|apply qb|apply qc|apply qd|apply qe|apply qf|apply qg|apply qh|apply qi|apply qj|apply qk|apply ql|apply qm|apply qn|apply qo|apply qp|apply qq|refine blockP_ne (by decide) ?_)
     |((with_reducible refine Pwp.reg fun K hK=>?_);simp[h13])
     |((with_reducible refine Pwp.drawn (id := 13) follows_mixed [0, 1, 0, 7, 15, 0, 32, 0, 224, 480, 1023, 2047, 4095, 8191, 16383, 32767, 8191, 131071, 262143, 8191, 532479, 1581055, 8191, 7872511, 16261119, 33554431, 67108863, 134217727, 268435455, 536870911, 536870911, 1610612735, 3758096383, 8589934591, 17179869183, 34359738367, 68719476735, 137438953471, 274877906943, 34359738367, 1099511627775, 2199023255551, 34359738367, 4432406249471, 13228499271679, 30820685316095, 34359738367, 136373801582591, 277111289937919, 562949953421311, 1125899906842623, 2251799813685247] [false, false, false, false, false, false, false, false, false, false, true, false, false, false, false, false, false, false, false, false, false, false, false, false, false, true, false, false, false, false, false, false, true, false, false, false, false, false, false, false, false, false, false, false, false, false, false, false, false, false, false, false] ?_ fun K hK => ?_); focus kernel_rfl
       simp [h13])
     |((with_reducible refine Hid.go hK ?_);clear hK K)|((with_reducible apply Pwp.condG);rfl)|((with_reducible first|apply qqj|apply qqk);simp[h13];done)|((with_reducible first|apply qr|apply qs|apply qt|apply qu|apply qv|apply qw)<;>intro h)
     |((with_reducible first|apply qx|apply qy|apply qz|apply qqa|apply qqb|apply qqc|apply qqd|apply qqe|apply qqf|apply qqg|apply qqh|apply qqi)<;>intro h<;>try simp[h, h13])
     |((with_reducible refine and_go ?_ fun hs=>?_);focus omega
       try simp[h13])
     |((with_reducible first|apply qql|apply qqn|apply qqp|apply qqm|apply qqo|apply qqq);simp[h13])
  | false =>
    rw [hg] at h13
    by_cases hl : 200 < n.far.length
    · have c1 : (200 < (n.far.length : Int)) = True := by simp only [eq_iff_iff, iff_true]; omega
      clear hmk
      refine Runs.body (rs := [.tmp 4]) ent4 Tryz.func4 rfl Tryz.ntmps4 rfl (fun x h => by cases h) ?_
      repeat' first
       |(with_reducible first|apply qa|apply qb|apply qc|apply qd|apply qe|apply qf|apply qg|apply qh|apply qi|apply qj|apply qk|apply ql|apply qm|apply qn|apply qo|apply qp|apply qq|refine blockP_ne (by decide) ?_)
       |((with_reducible refine Pwp.reg fun K hK=>?_);simp[h13])
       |((with_reducible refine Pwp.drawn (id := 13) follows_mixed [0, 1, 0, 7, 15, 0, 32, 0, 224, 480, 1023, 2047, 4095, 8191, 16383, 32767, 8191, 131071, 262143, 8191, 532479, 1581055, 8191, 7872511, 16261119, 33554431, 67108863, 134217727, 268435455, 536870911, 536870911, 1610612735, 3758096383, 8589934591, 17179869183, 34359738367, 68719476735, 137438953471, 274877906943, 34359738367, 1099511627775, 2199023255551, 34359738367, 4432406249471, 13228499271679, 30820685316095, 34359738367, 136373801582591, 277111289937919, 562949953421311, 1125899906842623, 2251799813685247] [false, false, false, false, false, false, false, false, false, false, true, false, false, false, false, false, false, false, false, false, false, false, false, false, false, true, false, false, false, false, false, false, true, false, false, false, false, false, false, false, false, false, false, false, false, false, false, false, false, false, false, false] ?_ fun K hK => ?_); focus kernel_rfl
         simp [h13])
       |((with_reducible refine Hid.go hK ?_);clear hK K)|((with_reducible apply Pwp.condG);rfl)|((with_reducible first|apply qqj|apply qqk);simp[h13];done)|((with_reducible first|apply qr|apply qs|apply qt|apply qu|apply qv|apply qw)<;>intro h)
       |((with_reducible first|apply qx|apply qy|apply qz|apply qqa|apply qqb|apply qqc|apply qqd|apply qqe|apply qqf|apply qqg|apply qqh|apply qqi)<;>intro h<;>try simp[h, h13])
       |((with_reducible refine and_go ?_ fun hs=>?_);focus omega
         try simp[h13])
       |((with_reducible first|apply qql|apply qqn|apply qqp|apply qqm|apply qqo|apply qqq);simp[h13])
      refine vcallk_pure (runs20 _) ?_
      repeat' first
       |(with_reducible first|apply qa|apply qb|apply qc|apply qd|apply qe|apply qf|apply qg|apply qh|apply qi|apply qj|apply qk|apply ql|apply qm|apply qn|apply qo|apply qp|apply qq|refine blockP_ne (by decide) ?_)
       |((with_reducible refine Pwp.reg fun K hK=>?_);simp[h13])
       |((with_reducible refine Pwp.drawn (id := 13) follows_mixed [0, 1, 0, 7, 15, 0, 32, 0, 224, 480, 1023, 2047, 4095, 8191, 16383, 32767, 8191, 131071, 262143, 8191, 532479, 1581055, 8191, 7872511, 16261119, 33554431, 67108863, 134217727, 268435455, 536870911, 536870911, 1610612735, 3758096383, 8589934591, 17179869183, 34359738367, 68719476735, 137438953471, 274877906943, 34359738367, 1099511627775, 2199023255551, 34359738367, 4432406249471, 13228499271679, 30820685316095, 34359738367, 136373801582591, 277111289937919, 562949953421311, 1125899906842623, 2251799813685247] [false, false, false, false, false, false, false, false, false, false, true, false, false, false, false, false, false, false, false, false, false, false, false, false, false, true, false, false, false, false, false, false, true, false, false, false, false, false, false, false, false, false, false, false, false, false, false, false, false, false, false, false] ?_ fun K hK => ?_); focus kernel_rfl
         simp [h13])
       |((with_reducible refine Hid.go hK ?_);clear hK K)|((with_reducible apply Pwp.condG);rfl)|((with_reducible first|apply qqj|apply qqk);simp[h13];done)|((with_reducible first|apply qr|apply qs|apply qt|apply qu|apply qv|apply qw)<;>intro h)
       |((with_reducible first|apply qx|apply qy|apply qz|apply qqa|apply qqb|apply qqc|apply qqd|apply qqe|apply qqf|apply qqg|apply qqh|apply qqi)<;>intro h<;>try simp[h, h13])
       |((with_reducible refine and_go ?_ fun hs=>?_);focus omega
         try simp[h13])
       |((with_reducible first|apply qql|apply qqn|apply qqp|apply qqm|apply qqo|apply qqq);simp[h13])
      refine vcallk_pure (h13 _) ?_
      repeat' first
       |(with_reducible first|apply qa|apply qb|apply qc|apply qd|apply qe|apply qf|apply qg|apply qh|apply qi|apply qj|apply qk|apply ql|apply qm|apply qn|apply qo|apply qp|apply qq|refine blockP_ne (by decide) ?_)
       |((with_reducible refine Pwp.reg fun K hK=>?_);simp[c1])
       |((with_reducible refine Pwp.drawn (id := 13) follows_mixed [0, 1, 0, 7, 15, 0, 32, 0, 224, 480, 1023, 2047, 4095, 8191, 16383, 32767, 8191, 131071, 262143, 8191, 532479, 1581055, 8191, 7872511, 16261119, 33554431, 67108863, 134217727, 268435455, 536870911, 536870911, 1610612735, 3758096383, 8589934591, 17179869183, 34359738367, 68719476735, 137438953471, 274877906943, 34359738367, 1099511627775, 2199023255551, 34359738367, 4432406249471, 13228499271679, 30820685316095, 34359738367, 136373801582591, 277111289937919, 562949953421311, 1125899906842623, 2251799813685247] [false, false, false, false, false, false, false, false, false, false, true, false, false, false, false, false, false, false, false, false, false, false, false, false, false, true, false, false, false, false, false, false, true, false, false, false, false, false, false, false, false, false, false, false, false, false, false, false, false, false, false, false] ?_ fun K hK => ?_); focus kernel_rfl
         simp [c1])
       |((with_reducible refine Hid.go hK ?_);clear hK K)|((with_reducible apply Pwp.condG);rfl)|((with_reducible first|apply qqj|apply qqk);simp[c1];done)|((with_reducible first|apply qr|apply qs|apply qt|apply qu|apply qv|apply qw)<;>intro h)
       |((with_reducible first|apply qx|apply qy|apply qz|apply qqa|apply qqb|apply qqc|apply qqd|apply qqe|apply qqf|apply qqg|apply qqh|apply qqi)<;>intro h<;>try simp[h, c1])
       |((with_reducible refine and_go ?_ fun hs=>?_);focus omega
         try simp[c1])
       |((with_reducible first|apply qql|apply qqn|apply qqp|apply qqm|apply qqo|apply qqq);simp[c1])
    · have c1 : (200 < (n.far.length : Int)) = False := by simp only [eq_iff_iff, iff_false]; omega
      by_cases he : (doMake s n).2.2 = 0
      rotate_left
      · generalize doMake s n = m at *
        obtain ⟨s1, h1, er⟩ := m
        simp only at he hmk
        refine Runs.body (rs := [.tmp 4]) ent4 Tryz.func4 rfl Tryz.ntmps4 rfl (fun x h => by cases h) ?_
        repeat' first
         |(with_reducible first|apply qa|apply qb|apply qc|apply qd|apply qe|apply qf|apply qg|apply qh|apply qi|apply qj|apply qk|apply ql|apply qm|apply qn|apply qo|apply qp|apply qq|refine blockP_ne (by decide) ?_)
         |((with_reducible refine Pwp.reg fun K hK=>?_);simp[c1])
         |((with_reducible refine Pwp.drawn (id := 13) follows_mixed [0, 1, 0, 7, 15, 0, 32, 0, 224, 480, 1023, 2047, 4095, 8191, 16383, 32767, 8191, 131071, 262143, 8191, 532479, 1581055, 8191, 7872511, 16261119, 33554431, 67108863, 134217727, 268435455, 536870911, 536870911, 1610612735, 3758096383, 8589934591, 17179869183, 34359738367, 68719476735, 137438953471, 274877906943, 34359738367, 1099511627775, 2199023255551, 34359738367, 4432406249471, 13228499271679, 30820685316095, 34359738367, 136373801582591, 277111289937919, 562949953421311, 1125899906842623, 2251799813685247] [false, false, false, false, false, false, false, false, false, false, true, false, false, false, false, false, false, false, false, false, false, false, false, false, false, true, false, false, false, false, false, false, true, false, false, false, false, false, false, false, false, false, false, false, false, false, false, false, false, false, false, false] ?_ fun K hK => ?_); focus kernel_rfl
           simp [c1])
         |((with_reducible refine Hid.go hK ?_);clear hK K)|((with_reducible apply Pwp.condG);rfl)|((with_reducible first|apply qqj|apply qqk);simp[c1];done)|((with_reducible first|apply qr|apply qs|apply qt|apply qu|apply qv|apply qw)<;>intro h)
         |((with_reducible first|apply qx|apply qy|apply qz|apply qqa|apply qqb|apply qqc|apply qqd|apply qqe|apply qqf|apply qqg|apply qqh|apply qqi)<;>intro h<;>try simp[h, c1])
         |((with_reducible refine and_go ?_ fun hs=>?_);focus omega
           try simp[c1])
         |((with_reducible first|apply qql|apply qqn|apply qqp|apply qqm|apply qqo|apply qqq);simp[c1])
        refine vcallk_pure (runs20 _) ?_
        repeat' first
         |(with_reducible first|apply qa|apply qb|apply qc|apply qd|apply qe|apply qf|apply qg|apply qh|apply qi|apply qj|apply qk|apply ql|apply qm|apply qn|apply qo|apply qp|apply qq|refine blockP_ne (by decide) ?_)
         |((with_reducible refine Pwp.reg fun K hK=>?_);simp[c1])
         |((with_reducible refine Pwp.drawn (id := 13) follows_mixed [0, 1, 0, 7, 15, 0, 32, 0, 224, 480, 1023, 2047, 4095, 8191, 16383, 32767, 8191, 131071, 262143, 8191, 532479, 1581055, 8191, 7872511, 16261119, 33554431, 67108863, 134217727, 268435455, 536870911, 536870911, 1610612735, 3758096383, 8589934591, 17179869183, 34359738367, 68719476735, 137438953471, 274877906943, 34359738367, 1099511627775, 2199023255551, 34359738367, 4432406249471, 13228499271679, 30820685316095, 34359738367, 136373801582591, 277111289937919, 562949953421311, 1125899906842623, 2251799813685247] [false, false, false, false, false, false, false, false, false, false, true, false, false, false, false, false, false, false, false, false, false, false, false, false, false, true, false, false, false, false, false, false, true, false, false, false, false, false, false, false, false, false, false, false, false, false, false, false, false, false, false, false] ?_ fun K hK => ?_); focus kernel_rfl
           simp [c1])
         |((with_reducible refine Hid.go hK ?_);clear hK K)|((with_reducible apply Pwp.condG);rfl)|((with_reducible first|apply qqj|apply qqk);simp[c1];done)|((with_reducible first|apply qr|apply qs|apply qt|apply qu|apply qv|apply qw)<;>intro h)
         |((with_reducible first|apply qx|apply qy|apply qz|apply qqa|apply qqb|apply qqc|apply qqd|apply qqe|apply qqf|apply qqg|apply qqh|apply qqi)<;>intro h<;>try simp[h, c1])
         |((with_reducible refine and_go ?_ fun hs=>?_);focus omega
           try simp[c1])
         |((with_reducible first|apply qql|apply qqn|apply qqp|apply qqm|apply qqo|apply qqq);simp[c1])
        refine vcallk_pure (h13 _) ?_
        repeat' first
         |(with_reducible first|apply qa|apply qb|apply qc|apply qd|apply qe|apply qf|apply qg|apply qh|apply qi|apply qj|apply qk|apply ql|apply qm|apply qn|apply qo|apply qp|apply qq|refine blockP_ne (by decide) ?_)
         |((with_reducible refine Pwp.reg fun K hK=>?_);simp[c1])
         |((with_reducible refine Pwp.drawn (id := 13) follows_mixed [0, 1, 0, 7, 15, 0, 32, 0, 224, 480, 1023, 2047, 4095, 8191, 16383, 32767, 8191, 131071, 262143, 8191, 532479, 1581055, 8191, 7872511, 16261119, 33554431, 67108863, 134217727, 268435455, 536870911, 536870911, 1610612735, 3758096383, 8589934591, 17179869183, 34359738367, 68719476735, 137438953471, 274877906943, 34359738367, 1099511627775, 2199023255551, 34359738367, 4432406249471, 13228499271679, 30820685316095, 34359738367, 136373801582591, 277111289937919, 562949953421311, 1125899906842623, 2251799813685247] [false, false, false, false, false, false, false, false, false, false, true, false, false, false, false, false, false, false, false, false, false, false, false, false, false, true, false, false, false, false, false, false, true, false, false, false, false, false, false, false, false, false, false, false, false, false, false, false, false, false, false, false] ?_ fun K hK => ?_); focus kernel_rfl
           simp [c1])
         |((with_reducible refine Hid.go hK ?_);clear hK K)|((with_reducible apply Pwp.condG);rfl)|((with_reducible first|apply qqj|apply qqk);simp[c1];done)|((with_reducible first|apply qr|apply qs|apply qt|apply qu|apply qv|apply qw)<;>intro h)
         |((with_reducible first|apply qx|apply qy|apply qz|apply qqa|apply qqb|apply qqc|apply qqd|apply qqe|apply qqf|apply qqg|apply qqh|apply qqi)<;>intro h<;>try simp[h, c1])
         |((with_reducible refine and_go ?_ fun hs=>?_);focus omega
           try simp[c1])
         |((with_reducible first|apply qql|apply qqn|apply qqp|apply qqm|apply qqo|apply qqq);simp[c1])
        refine vcallk_pure (Runs.args (hmk _) (by (repeat' first|exact VLeL.nil|refine VLeL.cons ?_ ?_|exact VLe.refl _|exact VLe.cap _ _|refine VLe.aggL ?_))) ?_
        repeat' first
         |(with_reducible first|apply qa|apply qb|apply qc|apply qd|apply qe|apply qf|apply qg|apply qh|apply qi|apply qj|apply qk|apply ql|apply qm|apply qn|apply qo|apply qp|apply qq|refine blockP_ne (by decide) ?_)
         |((with_reducible refine Pwp.reg fun K hK=>?_);simp[he])
         |((with_reducible refine Pwp.drawn (id := 13) follows_mixed [0, 1, 0, 7, 15, 0, 32, 0, 224, 480, 1023, 2047, 4095, 8191, 16383, 32767, 8191, 131071, 262143, 8191, 532479, 1581055, 8191, 7872511, 16261119, 33554431, 67108863, 134217727, 268435455, 536870911, 536870911, 1610612735, 3758096383, 8589934591, 17179869183, 34359738367, 68719476735, 137438953471, 274877906943, 34359738367, 1099511627775, 2199023255551, 34359738367, 4432406249471, 13228499271679, 30820685316095, 34359738367, 136373801582591, 277111289937919, 562949953421311, 1125899906842623, 2251799813685247] [false, false, false, false, false, false, false, false, false, false, true, false, false, false, false, false, false, false, false, false, false, false, false, false, false, true, false, false, false, false, false, false, true, false, false, false, false, false, false, false, false, false, false, false, false, false, false, false, false, false, false, false] ?_ fun K hK => ?_); focus kernel_rfl
           simp [he])
         |((with_reducible refine Hid.go hK ?_);clear hK K)|((with_reducible apply Pwp.condG);rfl)|((with_reducible first|apply qqj|apply qqk);simp[he];done)|((with_reducible first|apply qr|apply qs|apply qt|apply qu|apply qv|apply qw)<;>intro h)
         |((with_reducible first|apply qx|apply qy|apply qz|apply qqa|apply qqb|apply qqc|apply qqd|apply qqe|apply qqf|apply qqg|apply qqh|apply qqi)<;>intro h<;>try simp[h, he])
         |((with_reducible refine and_go ?_ fun hs=>?_);focus omega
           try simp[he])
         |((with_reducible first|apply qql|apply qqn|apply qqp|apply qqm|apply qqo|apply qqq);simp[he])
      · obtain ⟨hok, hd, he2⟩ := doMake_zero he
        rw [hd] at hmk
        obtain ⟨hn, hm⟩ := made hok he2
        have hok1 := hm.ok hok hn
        have hc1 := (caps_of_ok hok1).1
        have hs1 := lens_of_caps hs hm.meshes hc1
        obtain ⟨hk0, hb⟩ := back hok hok1 hm
        have hkl := fun B => runs16kill B (sceneMake s n).1 (killE (sceneMake s n).2.1) hs1 rfl (hm.notKid hok)
        have e2 : (killE (sceneMake s n).2.1).h = (sceneMake s n).2.1 := rfl
        simp only [e2] at hkl
        have e3 : doKill (sceneMake s n).1 (sceneMake s n).2.1 = sceneKill (sceneMake s n).1 (sceneMake s n).2.1 := by simp [doKill, hok1, hk0]
        simp only [e3, hk0] at hkl
        simp only [he2] at hmk
        obtain ⟨hg1, hnl, -⟩ := scene_parts hok
        obtain ⟨hab, hkll, -⟩ := graph_parts hg1
        have hcl := caps_of_ok hok
        have hc2 := (caps_of_ok hok).1.nodes
        have hfar2 : ∀ i, ((sceneKill (sceneMake s n).1 (sceneMake s n).2.1).1.nodes.getD i zeroN).far.length < 4611686018427387904 := by
          intro i
          rw [hb.nodes]
          by_cases hi : i < s.nodes.length
          · rw [getD_lt hi]; exact hs.far _ (List.getElem_mem hi)
          · rw [getD_out (by omega)]; simp [zeroN]
        have hrow2 : ∀ i, ((sceneKill (sceneMake s n).1 (sceneMake s n).2.1).1.graph.kids.getD i []).length < 4611686018427387904 := by
          intro i
          rw [hb.kids]
          by_cases hi : i < s.graph.kids.length
          · rw [getD_lt hi]; exact hs.graph.row _ (List.getElem_mem hi)
          · rw [getD_out (by omega)]; simp
        clear he hd hn hm hok1 hc1 hs1 hk0 e2 e3 he2 hcl hg1 hab hok
        generalize sceneKill (sceneMake s n).1 (sceneMake s n).2.1 = k at *
        generalize sceneMake s n = m at *
        obtain ⟨s1, h, er⟩ := m
        obtain ⟨s2, er2⟩ := k
        simp only at *
        obtain ⟨b1, b2, b3, b4, b5, b6, b7, b8, b9⟩ := hb
        have r1 : s2.root.slot = s.root.slot := by rw [b2]
        have r2 : s2.root.gen = s.root.gen := by rw [b2]
        have c2 : ((s2.nodes.length : Int) ≤ h.slot) = False := by simp only [eq_iff_iff, iff_false]; omega
        have c3 : ((s2.nodes.length : Int) < (s.nodes.length : Int)) = False := by simp only [eq_iff_iff, iff_false]; omega
        have c4 : (s2.nodes.length < s.nodes.length) = False := by simp only [eq_iff_iff, iff_false]; omega
        refine Runs.body (rs := [.tmp 4]) ent4 Tryz.func4 rfl Tryz.ntmps4 rfl (fun x h => by cases h) ?_
        repeat' first
         |(with_reducible first|apply qa|apply qb|apply qc|apply qd|apply qe|apply qf|apply qg|apply qh|apply qi|apply qj|apply qk|apply ql|apply qm|apply qn|apply qo|apply qp|apply qq|refine blockP_ne (by decide) ?_)
         |((with_reducible refine Pwp.reg fun K hK=>?_);simp[c1])
         |((with_reducible refine Pwp.drawn (id := 13) follows_mixed [0, 1, 0, 7, 15, 0, 32, 0, 224, 480, 1023, 2047, 4095, 8191, 16383, 32767, 8191, 131071, 262143, 8191, 532479, 1581055, 8191, 7872511, 16261119, 33554431, 67108863, 134217727, 268435455, 536870911, 536870911, 1610612735, 3758096383, 8589934591, 17179869183, 34359738367, 68719476735, 137438953471, 274877906943, 34359738367, 1099511627775, 2199023255551, 34359738367, 4432406249471, 13228499271679, 30820685316095, 34359738367, 136373801582591, 277111289937919, 562949953421311, 1125899906842623, 2251799813685247] [false, false, false, false, false, false, false, false, false, false, true, false, false, false, false, false, false, false, false, false, false, false, false, false, false, true, false, false, false, false, false, false, true, false, false, false, false, false, false, false, false, false, false, false, false, false, false, false, false, false, false, false] ?_ fun K hK => ?_); focus kernel_rfl
           simp [c1])
         |((with_reducible refine Hid.go hK ?_);clear hK K)|((with_reducible apply Pwp.condG);rfl)|((with_reducible first|apply qqj|apply qqk);simp[c1];done)|((with_reducible first|apply qr|apply qs|apply qt|apply qu|apply qv|apply qw)<;>intro h)
         |((with_reducible first|apply qx|apply qy|apply qz|apply qqa|apply qqb|apply qqc|apply qqd|apply qqe|apply qqf|apply qqg|apply qqh|apply qqi)<;>intro h<;>try simp[h, c1])
         |((with_reducible refine and_go ?_ fun hs=>?_);focus omega
           try simp[c1])
         |((with_reducible first|apply qql|apply qqn|apply qqp|apply qqm|apply qqo|apply qqq);simp[c1])
        refine vcallk_pure (runs20 _) ?_
        repeat' first
         |(with_reducible first|apply qa|apply qb|apply qc|apply qd|apply qe|apply qf|apply qg|apply qh|apply qi|apply qj|apply qk|apply ql|apply qm|apply qn|apply qo|apply qp|apply qq|refine blockP_ne (by decide) ?_)
         |((with_reducible refine Pwp.reg fun K hK=>?_);simp[c1])
         |((with_reducible refine Pwp.drawn (id := 13) follows_mixed [0, 1, 0, 7, 15, 0, 32, 0, 224, 480, 1023, 2047, 4095, 8191, 16383, 32767, 8191, 131071, 262143, 8191, 532479, 1581055, 8191, 7872511, 16261119, 33554431, 67108863, 134217727, 268435455, 536870911, 536870911, 1610612735, 3758096383, 8589934591, 17179869183, 34359738367, 68719476735, 137438953471, 274877906943, 34359738367, 1099511627775, 2199023255551, 34359738367, 4432406249471, 13228499271679, 30820685316095, 34359738367, 136373801582591, 277111289937919, 562949953421311, 1125899906842623, 2251799813685247] [false, false, false, false, false, false, false, false, false, false, true, false, false, false, false, false, false, false, false, false, false, false, false, false, false, true, false, false, false, false, false, false, true, false, false, false, false, false, false, false, false, false, false, false, false, false, false, false, false, false, false, false] ?_ fun K hK => ?_); focus kernel_rfl
           simp [c1])
         |((with_reducible refine Hid.go hK ?_);clear hK K)|((with_reducible apply Pwp.condG);rfl)|((with_reducible first|apply qqj|apply qqk);simp[c1];done)|((with_reducible first|apply qr|apply qs|apply qt|apply qu|apply qv|apply qw)<;>intro h)
         |((with_reducible first|apply qx|apply qy|apply qz|apply qqa|apply qqb|apply qqc|apply qqd|apply qqe|apply qqf|apply qqg|apply qqh|apply qqi)<;>intro h<;>try simp[h, c1])
         |((with_reducible refine and_go ?_ fun hs=>?_);focus omega
           try simp[c1])
         |((with_reducible first|apply qql|apply qqn|apply qqp|apply qqm|apply qqo|apply qqq);simp[c1])
        refine vcallk_pure (h13 _) ?_
        repeat' first
         |(with_reducible first|apply qa|apply qb|apply qc|apply qd|apply qe|apply qf|apply qg|apply qh|apply qi|apply qj|apply qk|apply ql|apply qm|apply qn|apply qo|apply qp|apply qq|refine blockP_ne (by decide) ?_)
         |((with_reducible refine Pwp.reg fun K hK=>?_);simp[c1])
         |((with_reducible refine Pwp.drawn (id := 13) follows_mixed [0, 1, 0, 7, 15, 0, 32, 0, 224, 480, 1023, 2047, 4095, 8191, 16383, 32767, 8191, 131071, 262143, 8191, 532479, 1581055, 8191, 7872511, 16261119, 33554431, 67108863, 134217727, 268435455, 536870911, 536870911, 1610612735, 3758096383, 8589934591, 17179869183, 34359738367, 68719476735, 137438953471, 274877906943, 34359738367, 1099511627775, 2199023255551, 34359738367, 4432406249471, 13228499271679, 30820685316095, 34359738367, 136373801582591, 277111289937919, 562949953421311, 1125899906842623, 2251799813685247] [false, false, false, false, false, false, false, false, false, false, true, false, false, false, false, false, false, false, false, false, false, false, false, false, false, true, false, false, false, false, false, false, true, false, false, false, false, false, false, false, false, false, false, false, false, false, false, false, false, false, false, false] ?_ fun K hK => ?_); focus kernel_rfl
           simp [c1])
         |((with_reducible refine Hid.go hK ?_);clear hK K)|((with_reducible apply Pwp.condG);rfl)|((with_reducible first|apply qqj|apply qqk);simp[c1];done)|((with_reducible first|apply qr|apply qs|apply qt|apply qu|apply qv|apply qw)<;>intro h)
         |((with_reducible first|apply qx|apply qy|apply qz|apply qqa|apply qqb|apply qqc|apply qqd|apply qqe|apply qqf|apply qqg|apply qqh|apply qqi)<;>intro h<;>try simp[h, c1])
         |((with_reducible refine and_go ?_ fun hs=>?_);focus omega
           try simp[c1])
         |((with_reducible first|apply qql|apply qqn|apply qqp|apply qqm|apply qqo|apply qqq);simp[c1])
        refine vcallk_pure (Runs.args (hmk _) (by (repeat' first|exact VLeL.nil|refine VLeL.cons ?_ ?_|exact VLe.refl _|exact VLe.cap _ _|refine VLe.aggL ?_))) ?_
        repeat' first
         |(with_reducible first|apply qa|apply qb|apply qc|apply qd|apply qe|apply qf|apply qg|apply qh|apply qi|apply qj|apply qk|apply ql|apply qm|apply qn|apply qo|apply qp|apply qq|refine blockP_ne (by decide) ?_)
         |((with_reducible refine Pwp.reg fun K hK=>?_);simp[c1])
         |((with_reducible refine Pwp.drawn (id := 13) follows_mixed [0, 1, 0, 7, 15, 0, 32, 0, 224, 480, 1023, 2047, 4095, 8191, 16383, 32767, 8191, 131071, 262143, 8191, 532479, 1581055, 8191, 7872511, 16261119, 33554431, 67108863, 134217727, 268435455, 536870911, 536870911, 1610612735, 3758096383, 8589934591, 17179869183, 34359738367, 68719476735, 137438953471, 274877906943, 34359738367, 1099511627775, 2199023255551, 34359738367, 4432406249471, 13228499271679, 30820685316095, 34359738367, 136373801582591, 277111289937919, 562949953421311, 1125899906842623, 2251799813685247] [false, false, false, false, false, false, false, false, false, false, true, false, false, false, false, false, false, false, false, false, false, false, false, false, false, true, false, false, false, false, false, false, true, false, false, false, false, false, false, false, false, false, false, false, false, false, false, false, false, false, false, false] ?_ fun K hK => ?_); focus kernel_rfl
           simp [c1])
         |((with_reducible refine Hid.go hK ?_);clear hK K)|((with_reducible apply Pwp.condG);rfl)|((with_reducible first|apply qqj|apply qqk);simp[c1];done)|((with_reducible first|apply qr|apply qs|apply qt|apply qu|apply qv|apply qw)<;>intro h)
         |((with_reducible first|apply qx|apply qy|apply qz|apply qqa|apply qqb|apply qqc|apply qqd|apply qqe|apply qqf|apply qqg|apply qqh|apply qqi)<;>intro h<;>try simp[h, c1])
         |((with_reducible refine and_go ?_ fun hs=>?_);focus omega
           try simp[c1])
         |((with_reducible first|apply qql|apply qqn|apply qqp|apply qqm|apply qqo|apply qqq);simp[c1])
        refine vcallk_pure (Runs.args (hkl _) (by (repeat' first|exact VLeL.nil|refine VLeL.cons ?_ ?_|exact VLe.refl _|exact VLe.cap _ _|refine VLe.aggL ?_))) ?_
        repeat' first
         |(with_reducible first|apply qa|apply qb|apply qc|apply qd|apply qe|apply qf|apply qg|apply qh|apply qi|apply qj|apply qk|apply ql|apply qm|apply qn|apply qo|apply qp|apply qq|refine blockP_ne (by decide) ?_)
         |((with_reducible refine Pwp.reg fun K hK=>?_);simp[r1, r2, c2, c3, c4])
         |((with_reducible refine Pwp.drawn (id := 13) follows_mixed [0, 1, 0, 7, 15, 0, 32, 0, 224, 480, 1023, 2047, 4095, 8191, 16383, 32767, 8191, 131071, 262143, 8191, 532479, 1581055, 8191, 7872511, 16261119, 33554431, 67108863, 134217727, 268435455, 536870911, 536870911, 1610612735, 3758096383, 8589934591, 17179869183, 34359738367, 68719476735, 137438953471, 274877906943, 34359738367, 1099511627775, 2199023255551, 34359738367, 4432406249471, 13228499271679, 30820685316095, 34359738367, 136373801582591, 277111289937919, 562949953421311, 1125899906842623, 2251799813685247] [false, false, false, false, false, false, false, false, false, false, true, false, false, false, false, false, false, false, false, false, false, false, false, false, false, true, false, false, false, false, false, false, true, false, false, false, false, false, false, false, false, false, false, false, false, false, false, false, false, false, false, false] ?_ fun K hK => ?_); focus kernel_rfl
           simp [r1, r2, c2, c3, c4])
         |((with_reducible refine Hid.go hK ?_);clear hK K)|((with_reducible apply Pwp.condG);rfl)|((with_reducible first|apply qqj|apply qqk);simp[r1, r2, c2, c3, c4];done)|((with_reducible first|apply qr|apply qs|apply qt|apply qu|apply qv|apply qw)<;>intro h)
         |((with_reducible first|apply qx|apply qy|apply qz|apply qqa|apply qqb|apply qqc|apply qqd|apply qqe|apply qqf|apply qqg|apply qqh|apply qqi)<;>intro h<;>try simp[h, r1, r2, c2, c3, c4])
         |((with_reducible refine and_go ?_ fun hs=>?_);focus omega
           try simp[r1, r2, c2, c3, c4])
         |((with_reducible first|apply qql|apply qqn|apply qqp|apply qqm|apply qqo|apply qqq);simp[r1, r2, c2, c3, c4])
        refine Pwp.loopN (ι := Nat) (S := fun i => ⟨[.any, .any, .iptr [s.pv] 0 0, .any, .any, .any, .any, .iptr [Took.pv ⟨h, 0⟩] 0 0, .any, .iptr [({ s2 with root := s.root } : Scene).pv] 0 0, .any, .any, .int .i64 i, .any, .any, .any, .any, .any, .any, .any, .any, .any, .any, .any, .any, .any, .any, .any, .any, .any, .any, .any, .any, .any, .any, .any, .any, .any, .any, .any, .any, .any, .any, .any, .any, .any, .any, .any, .any, .any, .any, .any, .any, .any, .any, .any, .any, .any, .any, .any, .any, .any, .any, .any, .any, .any, .any, .any, .any, .any, .any, .any, .any, .any, .any, .any, .any, .any, .any, .any, .any, .any, .any, .any, .any, .any, .any, .any, .any, .any, .any, .any, .any, .any, .any, .any, .any, .any, .any, .any, .any, .any, .any, .any, .any, .any, .any, .any, .any, .any, .any, .any, .any, .any, .any, .any, .any, .any, .any, .any, .any, .any, .any, .any, .any, .any, .any, .any, .any, .any, .any, .any], [], i :: 74 :: A, 0⟩)
          (C := fun i => i ≤ s.nodes.length) (μ := fun i => s.nodes.length - i) 0 ?_ ?_ ?_
        · clear hmk hkl h13 b2 b7 b8 b9 hfar2 hrow2
          refine PLe.tellInG [(0 :: A, .row 7 [s.pv]), (26 :: A, .row 3 [Took.pv ⟨h, 0⟩]), (41 :: A, .row 7 [({ s2 with root := s.root } : Scene).pv])] (by simp) ?_ ?_ ?_
          · repeat' first | exact Sub.nil _ | refine Sub.cons (by simp [St.find, *]) ?_
          · repeat' first | exact StLeG.nil | (apply StLeG.old; (focus (simp [St.find]; done)); (focus ((repeat' first | exact St.find_hd _ _ _ | (apply St.find_tl; (focus (first | assumption | (simp; done) | (simp [*]; done))))); done))) | (refine StLeG.new ?_ ?_ ?_ ?_; (focus (simp [St.find]; done)); (focus omega); (focus omega))
            all_goals first | exact ObLe.refl _ | (refine ObLe.of_eq ?_; simp [*]; done) | (refine ObLe.row _ _ _ (ELe.one ?_ ?_); (focus (simp; done)))
            all_goals repeat' first | exact VLeL.nil | refine VLeL.cons ?_ ?_
            all_goals first | exact VLe.refl _ | exact VLe.any _ | exact VLe.cap _ _ | (refine VLe.ghost1 ?_ ?_ <;> omega) | (apply VLe.row (h := ELe.refl _); (focus ((repeat' first | exact St.find_hd _ _ _ | (apply St.find_tl; (focus (first | assumption | (simp; done) | (simp [*]; done))))); done)); (simp [*]; done)) | (apply VLe.prow (h := ELe.refl _); (focus ((repeat' first | exact St.find_hd _ _ _ | (apply St.find_tl; (focus (first | assumption | (simp; done) | (simp [*]; done))))); done)); (simp; done)) | (refine VLe.of_eq ?_; simp [*]; done)
          · repeat' first | exact VLeL.nil | refine VLeL.cons ?_ ?_
            all_goals first | exact VLe.refl _ | exact VLe.any _ | exact VLe.cap _ _ | (refine VLe.ghost1 ?_ ?_ <;> omega) | (apply VLe.row (h := ELe.refl _); (focus ((repeat' first | exact St.find_hd _ _ _ | (apply St.find_tl; (focus (first | assumption | (simp; done) | (simp [*]; done))))); done)); (simp [*]; done)) | (apply VLe.prow (h := ELe.refl _); (focus ((repeat' first | exact St.find_hd _ _ _ | (apply St.find_tl; (focus (first | assumption | (simp; done) | (simp [*]; done))))); done)); (simp; done)) | (refine VLe.of_eq ?_; simp [*]; done)
        · exact Nat.zero_le _
        · intro i hi
          by_cases hlt : i < s.nodes.length
          · have g1 : i < s2.nodes.length := by omega
            have g2 : i < s.graph.kids.length := by omega
            have g3 : i < s2.graph.kids.length := by omega
            have g4 : i < s.graph.slots.length := by omega
            have g5 : i < s2.graph.slots.length := by omega
            have q1 : s2.nodes[i] = s.nodes[i] := by rw [← getD_lt (d := zeroN) g1, b8, getD_lt hlt]
            have q2 : s2.graph.kids[i] = s.graph.kids[i] := by rw [← getD_lt (d := []) g3, b7, getD_lt g2]
            have f1 : s2.nodes[i].far.length < 4611686018427387904 := by have := hfar2 i; rwa [getD_lt g1] at this
            have f2 : s2.graph.kids[i].length < 4611686018427387904 := by have := hrow2 i; rwa [getD_lt g3] at this
            have w1 := wrap_succ i (by omega)
            have r21 := fun B => runs21 B s2.nodes[i] s.nodes[i] f1
            have r22 := fun B => runs22 B s2.graph.kids[i] s.graph.kids[i] f2
            rw [decide_eq_true q1] at r21
            rw [decide_eq_true q2] at r22
            by_cases hq : (i : Int) = h.slot
            · repeat' first
               |(with_reducible first|apply qa|apply qb|apply qc|apply qd|apply qe|apply qf|apply qg|apply qh|apply qi|apply qj|apply qk|apply ql|apply qm|apply qn|apply qo|apply qp|apply qq|refine blockP_ne (by decide) ?_)
               |((with_reducible refine Pwp.reg fun K hK=>?_);simp[hlt, g1, g2, g3, g4, g5])
               |((with_reducible refine Pwp.drawn (id := 13) follows_mixed [0, 1, 0, 7, 15, 0, 32, 0, 224, 480, 1023, 2047, 4095, 8191, 16383, 32767, 8191, 131071, 262143, 8191, 532479, 1581055, 8191, 7872511, 16261119, 33554431, 67108863, 134217727, 268435455, 536870911, 536870911, 1610612735, 3758096383, 8589934591, 17179869183, 34359738367, 68719476735, 137438953471, 274877906943, 34359738367, 1099511627775, 2199023255551, 34359738367, 4432406249471, 13228499271679, 30820685316095, 34359738367, 136373801582591, 277111289937919, 562949953421311, 1125899906842623, 2251799813685247] [false, false, false, false, false, false, false, false, false, false, true, false, false, false, false, false, false, false, false, false, false, false, false, false, false, true, false, false, false, false, false, false, true, false, false, false, false, false, false, false, false, false, false, false, false, false, false, false, false, false, false, false] ?_ fun K hK => ?_); focus kernel_rfl
                 simp [hlt, g1, g2, g3, g4, g5])
               |((with_reducible refine Hid.go hK ?_);clear hK K)|((with_reducible apply Pwp.condG);rfl)|((with_reducible first|apply qqj|apply qqk);simp[hlt, g1, g2, g3, g4, g5];done)|((with_reducible first|apply qr|apply qs|apply qt|apply qu|apply qv|apply qw)<;>intro h)
               |((with_reducible first|apply qx|apply qy|apply qz|apply qqa|apply qqb|apply qqc|apply qqd|apply qqe|apply qqf|apply qqg|apply qqh|apply qqi)<;>intro h<;>try simp[h, hlt, g1, g2, g3, g4, g5])
               |((with_reducible refine and_go ?_ fun hs=>?_);focus omega
                 try simp[hlt, g1, g2, g3, g4, g5])
               |((with_reducible first|apply qql|apply qqn|apply qqp|apply qqm|apply qqo|apply qqq);simp[hlt, g1, g2, g3, g4, g5])
              refine dcallk_pure (r21 _) ?_
              repeat' first
               |(with_reducible first|apply qa|apply qb|apply qc|apply qd|apply qe|apply qf|apply qg|apply qh|apply qi|apply qj|apply qk|apply ql|apply qm|apply qn|apply qo|apply qp|apply qq|refine blockP_ne (by decide) ?_)
               |((with_reducible refine Pwp.reg fun K hK=>?_);simp[hlt, g1, g2, g3, g4, g5])
               |((with_reducible refine Pwp.drawn (id := 13) follows_mixed [0, 1, 0, 7, 15, 0, 32, 0, 224, 480, 1023, 2047, 4095, 8191, 16383, 32767, 8191, 131071, 262143, 8191, 532479, 1581055, 8191, 7872511, 16261119, 33554431, 67108863, 134217727, 268435455, 536870911, 536870911, 1610612735, 3758096383, 8589934591, 17179869183, 34359738367, 68719476735, 137438953471, 274877906943, 34359738367, 1099511627775, 2199023255551, 34359738367, 4432406249471, 13228499271679, 30820685316095, 34359738367, 136373801582591, 277111289937919, 562949953421311, 1125899906842623, 2251799813685247] [false, false, false, false, false, false, false, false, false, false, true, false, false, false, false, false, false, false, false, false, false, false, false, false, false, true, false, false, false, false, false, false, true, false, false, false, false, false, false, false, false, false, false, false, false, false, false, false, false, false, false, false] ?_ fun K hK => ?_); focus kernel_rfl
                 simp [hlt, g1, g2, g3, g4, g5])
               |((with_reducible refine Hid.go hK ?_);clear hK K)|((with_reducible apply Pwp.condG);rfl)|((with_reducible first|apply qqj|apply qqk);simp[hlt, g1, g2, g3, g4, g5];done)|((with_reducible first|apply qr|apply qs|apply qt|apply qu|apply qv|apply qw)<;>intro h)
               |((with_reducible first|apply qx|apply qy|apply qz|apply qqa|apply qqb|apply qqc|apply qqd|apply qqe|apply qqf|apply qqg|apply qqh|apply qqi)<;>intro h<;>try simp[h, hlt, g1, g2, g3, g4, g5])
               |((with_reducible refine and_go ?_ fun hs=>?_);focus omega
                 try simp[hlt, g1, g2, g3, g4, g5])
               |((with_reducible first|apply qql|apply qqn|apply qqp|apply qqm|apply qqo|apply qqq);simp[hlt, g1, g2, g3, g4, g5])
              refine dcallk_pure (r22 _) ?_
              repeat' first
               |(with_reducible first|apply qa|apply qb|apply qc|apply qd|apply qe|apply qf|apply qg|apply qh|apply qi|apply qj|apply qk|apply ql|apply qm|apply qn|apply qo|apply qp|apply qq|refine blockP_ne (by decide) ?_)
               |((with_reducible refine Pwp.reg fun K hK=>?_);simp[hlt, g1, g2, g3, g4, g5, hq.symm, w1])
               |((with_reducible refine Pwp.drawn (id := 13) follows_mixed [0, 1, 0, 7, 15, 0, 32, 0, 224, 480, 1023, 2047, 4095, 8191, 16383, 32767, 8191, 131071, 262143, 8191, 532479, 1581055, 8191, 7872511, 16261119, 33554431, 67108863, 134217727, 268435455, 536870911, 536870911, 1610612735, 3758096383, 8589934591, 17179869183, 34359738367, 68719476735, 137438953471, 274877906943, 34359738367, 1099511627775, 2199023255551, 34359738367, 4432406249471, 13228499271679, 30820685316095, 34359738367, 136373801582591, 277111289937919, 562949953421311, 1125899906842623, 2251799813685247] [false, false, false, false, false, false, false, false, false, false, true, false, false, false, false, false, false, false, false, false, false, false, false, false, false, true, false, false, false, false, false, false, true, false, false, false, false, false, false, false, false, false, false, false, false, false, false, false, false, false, false, false] ?_ fun K hK => ?_); focus kernel_rfl
                 simp [hlt, g1, g2, g3, g4, g5, hq.symm, w1])
               |((with_reducible refine Hid.go hK ?_);clear hK K)|((with_reducible apply Pwp.condG);rfl)|((with_reducible first|apply qqj|apply qqk);simp[hlt, g1, g2, g3, g4, g5, hq.symm, w1];done)|((with_reducible first|apply qr|apply qs|apply qt|apply qu|apply qv|apply qw)<;>intro h)
               |((with_reducible first|apply qx|apply qy|apply qz|apply qqa|apply qqb|apply qqc|apply qqd|apply qqe|apply qqf|apply qqg|apply qqh|apply qqi)<;>intro h<;>try simp[h, hlt, g1, g2, g3, g4, g5, hq.symm, w1])
               |((with_reducible refine and_go ?_ fun hs=>?_);focus omega
                 try simp[hlt, g1, g2, g3, g4, g5, hq.symm, w1])
               |((with_reducible first|apply qql|apply qqn|apply qqp|apply qqm|apply qqo|apply qqq);simp[hlt, g1, g2, g3, g4, g5, hq.symm, w1])
              refine roundN_go (i + 1) ?_ hlt (by omega)
              refine PLe.tellNextG (pre := []) [] (by simp) ?_ ?_ ?_
              · repeat' first | exact Sub.nil _ | refine Sub.cons (by simp [St.find, *]) ?_
              · repeat' first | exact StLe.nil | (apply StLe.cons; (focus (first | (simp [St.find]; done) | (simp [St.find, *]; done))); (focus ((repeat' first | exact St.find_hd _ _ _ | (apply St.find_tl; (focus (first | assumption | (simp; done) | (simp [*]; done))))); done)))
                all_goals first | exact ObLe.refl _ | (refine ObLe.of_eq ?_; simp [*]; done) | (refine ObLe.row _ _ _ (ELe.one ?_ ?_); (focus (simp; done)))
                all_goals repeat' first | exact VLeL.nil | refine VLeL.cons ?_ ?_
                all_goals first | exact VLe.refl _ | exact VLe.any _ | exact VLe.cap _ _ | (refine VLe.ghost1 ?_ ?_ <;> omega) | (apply VLe.row (h := ELe.refl _); (focus ((repeat' first | exact St.find_hd _ _ _ | (apply St.find_tl; (focus (first | assumption | (simp; done) | (simp [*]; done))))); done)); (simp [*]; done)) | (apply VLe.prow (h := ELe.refl _); (focus ((repeat' first | exact St.find_hd _ _ _ | (apply St.find_tl; (focus (first | assumption | (simp; done) | (simp [*]; done))))); done)); (simp; done)) | (refine VLe.of_eq ?_; simp [*]; done)
              · repeat' first | exact VLeL.nil | refine VLeL.cons ?_ ?_
                all_goals first | exact VLe.refl _ | exact VLe.any _ | exact VLe.cap _ _ | (refine VLe.ghost1 ?_ ?_ <;> omega) | (apply VLe.row (h := ELe.refl _); (focus ((repeat' first | exact St.find_hd _ _ _ | (apply St.find_tl; (focus (first | assumption | (simp; done) | (simp [*]; done))))); done)); (simp [*]; done)) | (apply VLe.prow (h := ELe.refl _); (focus ((repeat' first | exact St.find_hd _ _ _ | (apply St.find_tl; (focus (first | assumption | (simp; done) | (simp [*]; done))))); done)); (simp; done)) | (refine VLe.of_eq ?_; simp [*]; done)
            · have hqn : i ≠ h.slot.toNat := by omega
              have q3 : s2.graph.slots[i] = s.graph.slots[i] := by rw [← slotAt_lt g5, b9 i hqn, slotAt_lt g4]
              have q4 : s2.graph.slots[i].gen = s.graph.slots[i].gen := by rw [q3]
              have q5 : s2.graph.slots[i].live = s.graph.slots[i].live := by rw [q3]
              repeat' first
               |(with_reducible first|apply qa|apply qb|apply qc|apply qd|apply qe|apply qf|apply qg|apply qh|apply qi|apply qj|apply qk|apply ql|apply qm|apply qn|apply qo|apply qp|apply qq|refine blockP_ne (by decide) ?_)
               |((with_reducible refine Pwp.reg fun K hK=>?_);simp[hlt, g1, g2, g3, g4, g5])
               |((with_reducible refine Pwp.drawn (id := 13) follows_mixed [0, 1, 0, 7, 15, 0, 32, 0, 224, 480, 1023, 2047, 4095, 8191, 16383, 32767, 8191, 131071, 262143, 8191, 532479, 1581055, 8191, 7872511, 16261119, 33554431, 67108863, 134217727, 268435455, 536870911, 536870911, 1610612735, 3758096383, 8589934591, 17179869183, 34359738367, 68719476735, 137438953471, 274877906943, 34359738367, 1099511627775, 2199023255551, 34359738367, 4432406249471, 13228499271679, 30820685316095, 34359738367, 136373801582591, 277111289937919, 562949953421311, 1125899906842623, 2251799813685247] [false, false, false, false, false, false, false, false, false, false, true, false, false, false, false, false, false, false, false, false, false, false, false, false, false, true, false, false, false, false, false, false, true, false, false, false, false, false, false, false, false, false, false, false, false, false, false, false, false, false, false, false] ?_ fun K hK => ?_); focus kernel_rfl
                 simp [hlt, g1, g2, g3, g4, g5])
               |((with_reducible refine Hid.go hK ?_);clear hK K)|((with_reducible apply Pwp.condG);rfl)|((with_reducible first|apply qqj|apply qqk);simp[hlt, g1, g2, g3, g4, g5];done)|((with_reducible first|apply qr|apply qs|apply qt|apply qu|apply qv|apply qw)<;>intro h)
               |((with_reducible first|apply qx|apply qy|apply qz|apply qqa|apply qqb|apply qqc|apply qqd|apply qqe|apply qqf|apply qqg|apply qqh|apply qqi)<;>intro h<;>try simp[h, hlt, g1, g2, g3, g4, g5])
               |((with_reducible refine and_go ?_ fun hs=>?_);focus omega
                 try simp[hlt, g1, g2, g3, g4, g5])
               |((with_reducible first|apply qql|apply qqn|apply qqp|apply qqm|apply qqo|apply qqq);simp[hlt, g1, g2, g3, g4, g5])
              refine dcallk_pure (r21 _) ?_
              repeat' first
               |(with_reducible first|apply qa|apply qb|apply qc|apply qd|apply qe|apply qf|apply qg|apply qh|apply qi|apply qj|apply qk|apply ql|apply qm|apply qn|apply qo|apply qp|apply qq|refine blockP_ne (by decide) ?_)
               |((with_reducible refine Pwp.reg fun K hK=>?_);simp[hlt, g1, g2, g3, g4, g5])
               |((with_reducible refine Pwp.drawn (id := 13) follows_mixed [0, 1, 0, 7, 15, 0, 32, 0, 224, 480, 1023, 2047, 4095, 8191, 16383, 32767, 8191, 131071, 262143, 8191, 532479, 1581055, 8191, 7872511, 16261119, 33554431, 67108863, 134217727, 268435455, 536870911, 536870911, 1610612735, 3758096383, 8589934591, 17179869183, 34359738367, 68719476735, 137438953471, 274877906943, 34359738367, 1099511627775, 2199023255551, 34359738367, 4432406249471, 13228499271679, 30820685316095, 34359738367, 136373801582591, 277111289937919, 562949953421311, 1125899906842623, 2251799813685247] [false, false, false, false, false, false, false, false, false, false, true, false, false, false, false, false, false, false, false, false, false, false, false, false, false, true, false, false, false, false, false, false, true, false, false, false, false, false, false, false, false, false, false, false, false, false, false, false, false, false, false, false] ?_ fun K hK => ?_); focus kernel_rfl
                 simp [hlt, g1, g2, g3, g4, g5])
               |((with_reducible refine Hid.go hK ?_);clear hK K)|((with_reducible apply Pwp.condG);rfl)|((with_reducible first|apply qqj|apply qqk);simp[hlt, g1, g2, g3, g4, g5];done)|((with_reducible first|apply qr|apply qs|apply qt|apply qu|apply qv|apply qw)<;>intro h)
               |((with_reducible first|apply qx|apply qy|apply qz|apply qqa|apply qqb|apply qqc|apply qqd|apply qqe|apply qqf|apply qqg|apply qqh|apply qqi)<;>intro h<;>try simp[h, hlt, g1, g2, g3, g4, g5])
               |((with_reducible refine and_go ?_ fun hs=>?_);focus omega
                 try simp[hlt, g1, g2, g3, g4, g5])
               |((with_reducible first|apply qql|apply qqn|apply qqp|apply qqm|apply qqo|apply qqq);simp[hlt, g1, g2, g3, g4, g5])
              refine dcallk_pure (r22 _) ?_
              repeat' first
               |(with_reducible first|apply qa|apply qb|apply qc|apply qd|apply qe|apply qf|apply qg|apply qh|apply qi|apply qj|apply qk|apply ql|apply qm|apply qn|apply qo|apply qp|apply qq|refine blockP_ne (by decide) ?_)
               |((with_reducible refine Pwp.reg fun K hK=>?_);simp[hlt, g1, g2, g3, g4, g5, hq, q4, q5, w1])
               |((with_reducible refine Pwp.drawn (id := 13) follows_mixed [0, 1, 0, 7, 15, 0, 32, 0, 224, 480, 1023, 2047, 4095, 8191, 16383, 32767, 8191, 131071, 262143, 8191, 532479, 1581055, 8191, 7872511, 16261119, 33554431, 67108863, 134217727, 268435455, 536870911, 536870911, 1610612735, 3758096383, 8589934591, 17179869183, 34359738367, 68719476735, 137438953471, 274877906943, 34359738367, 1099511627775, 2199023255551, 34359738367, 4432406249471, 13228499271679, 30820685316095, 34359738367, 136373801582591, 277111289937919, 562949953421311, 1125899906842623, 2251799813685247] [false, false, false, false, false, false, false, false, false, false, true, false, false, false, false, false, false, false, false, false, false, false, false, false, false, true, false, false, false, false, false, false, true, false, false, false, false, false, false, false, false, false, false, false, false, false, false, false, false, false, false, false] ?_ fun K hK => ?_); focus kernel_rfl
                 simp [hlt, g1, g2, g3, g4, g5, hq, q4, q5, w1])
               |((with_reducible refine Hid.go hK ?_);clear hK K)|((with_reducible apply Pwp.condG);rfl)|((with_reducible first|apply qqj|apply qqk);simp[hlt, g1, g2, g3, g4, g5, hq, q4, q5, w1];done)|((with_reducible first|apply qr|apply qs|apply qt|apply qu|apply qv|apply qw)<;>intro h)
               |((with_reducible first|apply qx|apply qy|apply qz|apply qqa|apply qqb|apply qqc|apply qqd|apply qqe|apply qqf|apply qqg|apply qqh|apply qqi)<;>intro h<;>try simp[h, hlt, g1, g2, g3, g4, g5, hq, q4, q5, w1])
               |((with_reducible refine and_go ?_ fun hs=>?_);focus omega
                 try simp[hlt, g1, g2, g3, g4, g5, hq, q4, q5, w1])
               |((with_reducible first|apply qql|apply qqn|apply qqp|apply qqm|apply qqo|apply qqq);simp[hlt, g1, g2, g3, g4, g5, hq, q4, q5, w1])
              refine roundN_go (i + 1) ?_ hlt (by omega)
              refine PLe.tellNextG (pre := []) [] (by simp) ?_ ?_ ?_
              · repeat' first | exact Sub.nil _ | refine Sub.cons (by simp [St.find, *]) ?_
              · repeat' first | exact StLe.nil | (apply StLe.cons; (focus (first | (simp [St.find]; done) | (simp [St.find, *]; done))); (focus ((repeat' first | exact St.find_hd _ _ _ | (apply St.find_tl; (focus (first | assumption | (simp; done) | (simp [*]; done))))); done)))
                all_goals first | exact ObLe.refl _ | (refine ObLe.of_eq ?_; simp [*]; done) | (refine ObLe.row _ _ _ (ELe.one ?_ ?_); (focus (simp; done)))
                all_goals repeat' first | exact VLeL.nil | refine VLeL.cons ?_ ?_
                all_goals first | exact VLe.refl _ | exact VLe.any _ | exact VLe.cap _ _ | (refine VLe.ghost1 ?_ ?_ <;> omega) | (apply VLe.row (h := ELe.refl _); (focus ((repeat' first | exact St.find_hd _ _ _ | (apply St.find_tl; (focus (first | assumption | (simp; done) | (simp [*]; done))))); done)); (simp [*]; done)) | (apply VLe.prow (h := ELe.refl _); (focus ((repeat' first | exact St.find_hd _ _ _ | (apply St.find_tl; (focus (first | assumption | (simp; done) | (simp [*]; done))))); done)); (simp; done)) | (refine VLe.of_eq ?_; simp [*]; done)
              · repeat' first | exact VLeL.nil | refine VLeL.cons ?_ ?_
                all_goals first | exact VLe.refl _ | exact VLe.any _ | exact VLe.cap _ _ | (refine VLe.ghost1 ?_ ?_ <;> omega) | (apply VLe.row (h := ELe.refl _); (focus ((repeat' first | exact St.find_hd _ _ _ | (apply St.find_tl; (focus (first | assumption | (simp; done) | (simp [*]; done))))); done)); (simp [*]; done)) | (apply VLe.prow (h := ELe.refl _); (focus ((repeat' first | exact St.find_hd _ _ _ | (apply St.find_tl; (focus (first | assumption | (simp; done) | (simp [*]; done))))); done)); (simp; done)) | (refine VLe.of_eq ?_; simp [*]; done)
          · repeat' first
             |(with_reducible first|apply qa|apply qb|apply qc|apply qd|apply qe|apply qf|apply qg|apply qh|apply qi|apply qj|apply qk|apply ql|apply qm|apply qn|apply qo|apply qp|apply qq|refine blockP_ne (by decide) ?_)
             |((with_reducible refine Pwp.reg fun K hK=>?_);simp[hlt])
             |((with_reducible refine Pwp.drawn (id := 13) follows_mixed [0, 1, 0, 7, 15, 0, 32, 0, 224, 480, 1023, 2047, 4095, 8191, 16383, 32767, 8191, 131071, 262143, 8191, 532479, 1581055, 8191, 7872511, 16261119, 33554431, 67108863, 134217727, 268435455, 536870911, 536870911, 1610612735, 3758096383, 8589934591, 17179869183, 34359738367, 68719476735, 137438953471, 274877906943, 34359738367, 1099511627775, 2199023255551, 34359738367, 4432406249471, 13228499271679, 30820685316095, 34359738367, 136373801582591, 277111289937919, 562949953421311, 1125899906842623, 2251799813685247] [false, false, false, false, false, false, false, false, false, false, true, false, false, false, false, false, false, false, false, false, false, false, false, false, false, true, false, false, false, false, false, false, true, false, false, false, false, false, false, false, false, false, false, false, false, false, false, false, false, false, false, false] ?_ fun K hK => ?_); focus kernel_rfl
               simp [hlt])
             |((with_reducible refine Hid.go hK ?_);clear hK K)|((with_reducible apply Pwp.condG);rfl)|((with_reducible first|apply qqj|apply qqk);simp[hlt];done)|((with_reducible first|apply qr|apply qs|apply qt|apply qu|apply qv|apply qw)<;>intro h)
             |((with_reducible first|apply qx|apply qy|apply qz|apply qqa|apply qqb|apply qqc|apply qqd|apply qqe|apply qqf|apply qqg|apply qqh|apply qqi)<;>intro h<;>try simp[h, hlt])
             |((with_reducible refine and_go ?_ fun hs=>?_);focus omega
               try simp[hlt])
             |((with_reducible first|apply qql|apply qqn|apply qqp|apply qqm|apply qqo|apply qqq);simp[hlt])
end Go.Pv

set_option linter.unusedVariables false
set_option linter.unusedSimpArgs false
set_option maxRecDepth 100000
namespace Go.Pv
open Go Go.Proofs

/-! ### What is read is a tree -/
abbrev K0 : KMap := fun _ => none
abbrev RW (W : World) (p : PV) (v : Value) : Prop := Rel W K0 (fun _ => False) (fun _ => False) p v
def RL (W : World) (ps : List PV) (vs : List Value) : Prop := ps.length = vs.length ∧ ∀ i, (h : i < ps.length) → RW W ps[i] (vs.getD i undef)

theorem not_own0 (r : Nat) : ¬ own K0 r := by rintro ⟨k, ob, h⟩; cases h

theorem RL.nil (W : World) : RL W [] [] := ⟨rfl, fun i h => by simp at h⟩
theorem RL.one {W : World} {p : PV} {v : Value} (h : RW W p v) : RL W [p] [v] := ⟨rfl, fun i hi => by
  have : i = 0 := by simp at hi; omega
  subst this
  exact h⟩
theorem RL.append {W : World} {p q : List PV} {a b : List Value} (h : RL W p a) (k : RL W q b) : RL W (p ++ q) (a ++ b) := by
  refine ⟨by simp [h.1, k.1], fun i hi => ?_⟩
  by_cases hp : i < p.length
  · rw [List.getElem_append_left hp]
    have e : (a ++ b).getD i undef = a.getD i undef := by simp [List.getD_eq_getElem?_getD, List.getElem?_append_left (show i < a.length by rw [← h.1]; exact hp)]
    rw [e]
    exact h.2 i hp
  · rw [List.getElem_append_right (by omega)]
    have e : (a ++ b).getD i undef = b.getD (i - p.length) undef := by
      simp only [List.getD_eq_getElem?_getD]
      rw [List.getElem?_append_right (by rw [← h.1]; omega), h.1]
    rw [e]
    exact k.2 _ _

/-- What reads as of the type t is f x, for an x that is ok. -/
def Opn (t : TypeId) {X : Type} (f : X → List PV) (ok : X → Prop) : Prop :=
  ∀ (H : Type) (enc : TypeId × Value → H) (W : World) (n : Nat) (cs : List Value) (y : DataW H × List MemPlace), DataW.trod enc Tryz.prog W 0 (fun _ => true) true n t cs = some y → (∀ m ∈ y.1.weights Tryz.prog t, m ≤ reachBytes) → ∃ x, ok x ∧ RL W (f x) cs

theorem Opn.map {t : TypeId} {X Y : Type} {f : X → List PV} {ok : X → Prop} {f' : Y → List PV} {ok' : Y → Prop} (h : Opn t f ok) (g : ∀ x, ok x → ∃ y, ok' y ∧ f' y = f x) : Opn t f' ok' := by
  intro H enc W n cs y hy hwt
  obtain ⟨x, hx, hr⟩ := h H enc W n cs y hy hwt
  obtain ⟨z, hz, e⟩ := g x hx
  exact ⟨z, hz, by rw [e]; exact hr⟩

theorem opn_int {t : TypeId} {k : IntKind} (ht : Tryz.prog.underlying t = some (.int k)) : Opn t (fun n : Int => [.int k n]) (fun n => (Lit.int k n).wf = true) := by
  intro H enc W n cs y hy hwt
  obtain ⟨m, rfl, _, hw⟩ := DataW.trod_int ht hy
  exact ⟨m, hw, RL.one (.int _ _)⟩
theorem opn_bool {t : TypeId} (ht : Tryz.prog.underlying t = some .bool) : Opn t (fun b : Bool => [.bool b]) (fun _ => True) := by
  intro H enc W n cs y hy hwt
  obtain ⟨b, rfl, _⟩ := DataW.trod_bool ht hy
  exact ⟨b, trivial, RL.one (.bool _)⟩

theorem list_of {X : Type} {Q : Nat → X → Prop} : ∀ (n : Nat), (∀ i, i < n → ∃ x, Q i x) → ∃ l : List X, l.length = n ∧ ∀ i, (h : i < l.length) → Q i l[i]
  | 0, _ => ⟨[], rfl, fun i h => by simp at h⟩
  | n + 1, h => by
    obtain ⟨l, hl, hq⟩ := list_of n (fun i hi => h i (by omega))
    obtain ⟨x, hx⟩ := h n (by omega)
    refine ⟨l ++ [x], by simp [hl], fun i hi => ?_⟩
    by_cases hin : i < l.length
    · rw [List.getElem_append_left hin]; exact hq i hin
    · have e : i = l.length := by simp at hi; omega
      subst e
      rw [List.getElem_append_right (by omega)]
      simp only [Nat.sub_self, List.getElem_cons_zero]
      rw [hl]
      exact hx

theorem cells_get {W : World} {a : Addr} {n : Nat} {cs : List Value} (h : W.cells? 0 a n = some cs) : cs.length = n ∧ ∀ j, j < n → W.cell? (a.add j) = cs[j]? := by
  unfold World.cells? at h
  rw [if_pos (Nat.zero_le _)] at h
  exact ⟨by simpa using mapM_some_length h, fun j hj => mapM_some_get h j j (by simp [hj])⟩

theorem weightsAll_mem {H : Type} {P : Program} {e : TypeId} {d : DataW H} : ∀ {l : List (DataW H)}, d ∈ l → ∀ n ∈ d.weights P e, n ∈ DataW.weightsAll P e l
  | [], h, _, _ => by cases h
  | a :: l, h, n, hn => by
    rw [DataW.weightsAll, List.mem_append]
    rcases List.mem_cons.1 h with rfl | h
    · exact .inl hn
    · exact .inr (weightsAll_mem h n hn)

theorem add_pl (r o k : Nat) : (⟨r, o, none⟩ : Addr).add k = ⟨r, o + k, none⟩ := by
  unfold Addr.add
  split
  · subst_vars; rfl
  · rfl

theorem opn_slice {t e : TypeId} {sz : Nat} {X : Type} {f : X → List PV} {ok : X → Prop} (ht : Tryz.prog.underlying t = some (.slice e)) (he : Tryz.prog.cellsOf e = sz) (h : Opn e f ok) (pv : X → PV) (hpv : ∀ x, (pv x).cells = f x) (h0 : 0 < sz) (hby : 0 < Tryz.prog.bytesOf e) :
    Opn t (fun l : List X => [.islice none (l.map pv)]) (fun l => (∀ x ∈ l, ok x) ∧ l.length ≤ reachBytes) := by
  intro H enc W n cs y hy hwt
  rcases DataW.trod_slice ht hy with ⟨rfl, _⟩ | ⟨a, len, cap, elems, rest, m, rfl, rfl, rfl, _, hlc, hcm, hel, hget, _⟩
  · exact ⟨[], ⟨fun x hx => (by cases hx), by simp⟩, RL.one (.inil _ _ _ (fun c' hc => by cases hc) (fun _ => rfl))⟩
  · rw [he] at hget
    dsimp only at hwt
    rw [DataW.weights] at hwt
    simp only [ht] at hwt
    have hw0 := hwt _ (List.mem_cons_self ..)
    have hle : len ≤ reachBytes := by
      simp only [List.length_map, hel] at hw0
      exact Nat.le_trans (Nat.le_trans (Nat.le_add_right _ _) (Nat.le_mul_of_pos_right _ hby)) hw0
    have hx : ∀ i, i < len → ∃ x, ok x ∧ ∃ csi, W.cells? 0 (a.add (i * sz)) sz = some csi ∧ RL W (f x) csi := by
      intro i hi
      have h1 := hget i hi
      rw [List.getElem?_eq_getElem (by omega), Option.bind_eq_some_iff] at h1
      obtain ⟨csi, h2, h3⟩ := h1
      obtain ⟨x, hx, hr⟩ := h H enc W m csi _ h3 (fun k hk => hwt k (List.mem_cons_of_mem _ (List.mem_append_left _ (weightsAll_mem (List.mem_map.2 ⟨elems[i]'(by omega), List.getElem_mem _, rfl⟩) k hk))))
      exact ⟨x, hx, csi, h2, hr⟩
    obtain ⟨l, hl, hq⟩ := list_of len hx
    refine ⟨l, ⟨fun x hx => ?_, by omega⟩, RL.one ?_⟩
    · obtain ⟨i, hi, rfl⟩ := List.getElem_of_mem hx
      exact (hq i hi).1
    by_cases hlen : len = 0
    · subst hlen
      have : l = [] := List.length_eq_zero_iff.1 hl
      subst this
      exact .inil _ _ _ (fun c' hc => by cases hc) (fun hn => by cases hn)
    have hsp : a.spot = none := by
      obtain ⟨_, csi, h1, h2⟩ := hq 0 (by omega)
      obtain ⟨h3, h4⟩ := cells_get h1
      have h5 := h4 0 h0
      rw [List.getElem?_eq_getElem (by omega)] at h5
      have e : (a.add (0 * sz)).add 0 = a := by simp [Addr.add]
      rw [e] at h5
      exact World.cell?_spot h5
    obtain ⟨r, o, spot⟩ := a
    simp only at hsp
    subst hsp
    have hcell : ∀ i, (hi : i < l.length) → ∀ j, j < sz → ∃ v, W.cell? ⟨r, o + i * sz + j, none⟩ = some v ∧ (f l[i]).length = sz ∧ ∀ (hj : j < (f l[i]).length), RW W (f l[i])[j] v := by
      intro i hi j hj
      obtain ⟨_, csi, h1, h2⟩ := hq i hi
      obtain ⟨h3, h4⟩ := cells_get h1
      have h5 := h4 j hj
      rw [List.getElem?_eq_getElem (by omega)] at h5
      rw [add_pl, add_pl] at h5
      refine ⟨csi[j], h5, by rw [h2.1, h3], fun hj' => ?_⟩
      have h6 := h2.2 j hj'
      rwa [List.getD_eq_getElem?_getD, List.getElem?_eq_getElem (by omega), Option.getD_some] at h6
    obtain ⟨v0, hv0, -⟩ := hcell 0 (by omega) 0 h0
    have hb : ∃ c e fr, W.heap[r]? = some (.cells c e fr) := by
      unfold World.cell? at hv0
      split at hv0
      · exact ⟨_, _, _, ‹_›⟩
      · cases hv0
    obtain ⟨c, ee, fr, hb⟩ := hb
    have hcell2 : ∀ i, (hi : i < l.length) → ∀ j, j < sz → ∃ v, c[o + i * sz + j]? = some v ∧ (f l[i]).length = sz ∧ ∀ (hj : j < (f l[i]).length), RW W (f l[i])[j] v := by
      intro i hi j hj
      obtain ⟨v, h1, h2⟩ := hcell i hi j hj
      refine ⟨v, ?_, h2⟩
      simpa [World.cell?, hb] using h1
    have hin : o + len * sz ≤ c.size := by
      obtain ⟨v, h1, -⟩ := hcell2 (len - 1) (by omega) (sz - 1) (by omega)
      have h2 := (Array.getElem?_eq_some_iff.1 h1).1
      have h3 : (len - 1) * sz + sz = len * sz := by
        have : len - 1 + 1 = len := by omega
        rw [← Nat.succ_mul, Nat.succ_eq_add_one, this]
      omega
    have hfin := Rel.islice (w := W) (K := K0) (U := fun _ => False) (F := fun _ => False) none (l.map pv) r o sz cap c ee fr (by
        intro e
        have : l = [] := List.map_eq_nil_iff.1 e
        subst this
        simp at hl; omega) (fun c' hc => by cases hc) (by simp; omega) (fun hf => hf) (not_own0 r) hb
      (fun x hx => by
        obtain ⟨z, hz, rfl⟩ := List.mem_map.1 hx
        obtain ⟨i, hi, rfl⟩ := List.getElem_of_mem hz
        rw [hpv]
        obtain ⟨v, -, h2, -⟩ := hcell2 i hi 0 h0
        exact h2) (by simp only [List.length_map, hl]; exact hin) (fun j m hj hm => by
        simp only [List.length_map] at hj
        have e : ((l.map pv)[j]).cells = f l[j] := by rw [List.getElem_map, hpv]
        have hm' : m < (f l[j]).length := by rw [← e]; exact hm
        obtain ⟨v, h1, h2, h3⟩ := hcell2 j hj m (by obtain ⟨v, -, h2, -⟩ := hcell2 j hj 0 h0; omega)
        have e2 : c.getD (o + j * sz + m) undef = v := by simp [Array.getD_eq_getD_getElem?, h1]
        rw [e2]
        have h4 := h3 hm'
        simp only [e]
        exact h4)
    simp only [List.length_map, hl] at hfin
    exact hfin

/-- The fields from 'off' on, of a struct of so many cells. -/
def OpnS (total : Nat) (fs : List Field) (off : Nat) {X : Type} (f : X → List PV) (ok : X → Prop) : Prop :=
  ∀ (H : Type) (enc : TypeId × Value → H) (W : World) (n : Nat) (cs : List Value), cs.length = total → (∀ fl ∈ fs, ∃ y, DataW.trod enc Tryz.prog W 0 (fun _ => true) true n fl.type ((cs.drop fl.offset).take (Tryz.prog.cellsOf fl.type)) = some y ∧ ∀ m ∈ y.1.weights Tryz.prog fl.type, m ≤ reachBytes) → ∃ x, ok x ∧ RL W (f x) (cs.drop off)

theorem OpnS.nil {total off : Nat} (h : total ≤ off) : OpnS total [] off (fun _ : Unit => []) (fun _ => True) := by
  intro H enc W n cs hc _
  refine ⟨(), trivial, ?_⟩
  rw [List.drop_of_length_le (by omega)]
  exact RL.nil W
theorem OpnS.cons {total off off' : Nat} {fl : Field} {fs : List Field} {X Y : Type} {f : X → List PV} {ok : X → Prop} {g : Y → List PV} {ok' : Y → Prop} (h : Opn fl.type f ok) (ho : fl.offset = off) (hz : off + Tryz.prog.cellsOf fl.type = off') (k : OpnS total fs off' g ok') :
    OpnS total (fl :: fs) off (fun x : X × Y => f x.1 ++ g x.2) (fun x => ok x.1 ∧ ok' x.2) := by
  intro H enc W n cs hc hf
  obtain ⟨y, hy, hyw⟩ := hf fl (List.mem_cons_self ..)
  obtain ⟨x, hx, hr⟩ := h H enc W n _ y hy hyw
  obtain ⟨z, hz2, hr2⟩ := k H enc W n cs hc (fun fl' h' => hf fl' (List.mem_cons_of_mem _ h'))
  refine ⟨(x, z), ⟨hx, hz2⟩, ?_⟩
  have e : cs.drop off = (cs.drop off).take (Tryz.prog.cellsOf fl.type) ++ cs.drop off' := by
    rw [← hz, ← List.drop_drop, List.take_append_drop]
  rw [e]
  rw [ho] at hr
  exact hr.append hr2
theorem opn_struct {t : TypeId} {fs : Array Field} {total : Nat} {X : Type} {f : X → List PV} {ok : X → Prop} (ht : Tryz.prog.underlying t = some (.struct fs)) (hc : Tryz.prog.cellsOf t = total) (h : OpnS total fs.toList 0 f ok) : Opn t f ok := by
  intro H enc W n cs y hy hwt
  obtain ⟨xs, m, rfl, rfl, hl, hxl, hg⟩ := DataW.trod_struct ht hy
  dsimp only at hwt
  rw [DataW.weights] at hwt
  simp only [ht] at hwt
  obtain ⟨x, hx, hr⟩ := h H enc W m cs (by rw [hl, hc]) (fun fl hfl => by
    obtain ⟨i, hi, rfl⟩ := List.getElem_of_mem hfl
    have hi' : i < fs.size := by simpa using hi
    have := hg i fs[i] (by simp [hi'])
    rw [List.getElem?_eq_getElem (by omega)] at this
    refine ⟨xs[i]'(by omega), by simpa using this, fun k hk => hwt k (DataW.weights_mem_each (j := i) (t := fs[i].type) (d := (xs[i]'(by omega)).1) (by simp [hi']) (by simp [show i < xs.length by omega]) k ?_)⟩
    simpa using hk)
  exact ⟨x, hx, by simpa using hr⟩

theorem opn_array {t e : TypeId} {n sz : Nat} {X : Type} {f : X → List PV} {ok : X → Prop} (ht : Tryz.prog.underlying t = some (.array n e)) (he : Tryz.prog.cellsOf e = sz) (hc : Tryz.prog.cellsOf t = n * sz) (h : Opn e f ok) :
    Opn t (fun l : List X => l.flatMap f) (fun l => l.length = n ∧ ∀ x ∈ l, ok x) := by
  intro H enc W fuel cs y hy hwt
  obtain ⟨xs, m, rfl, rfl, hl, hxl, hg⟩ := DataW.trod_array ht hy
  dsimp only at hwt
  rw [DataW.weights] at hwt
  simp only [ht] at hwt
  rw [he] at hg
  rw [hc] at hl
  have hx : ∀ i, i < n → ∃ x, ok x ∧ RL W (f x) ((cs.drop (i * sz)).take sz) := by
    intro i hi
    have h1 := hg i hi
    rw [List.getElem?_eq_getElem (by omega)] at h1
    obtain ⟨x, hx, hr⟩ := h H enc W m _ _ h1 (fun k hk => hwt k (weightsAll_mem (List.mem_map.2 ⟨xs[i]'(by omega), List.getElem_mem _, rfl⟩) k hk))
    exact ⟨x, hx, hr⟩
  obtain ⟨l, hln, hq⟩ := list_of n hx
  refine ⟨l, ⟨hln, fun x hx => ?_⟩, ?_⟩
  · obtain ⟨i, hi, rfl⟩ := List.getElem_of_mem hx
    exact (hq i hi).1
  · have key : ∀ k, k ≤ n → RL W ((l.take k).flatMap f) (cs.take (k * sz)) := by
      intro k
      induction k with
      | zero => intro _; simp; exact RL.nil W
      | succ k ih =>
        intro hk
        have h1 := (ih (by omega)).append (hq k (by omega)).2
        have e1 : (l.take (k + 1)).flatMap f = (l.take k).flatMap f ++ f l[k] := by
          rw [List.take_succ_eq_append_getElem (by omega), List.flatMap_append]; simp
        have e2 : cs.take ((k + 1) * sz) = cs.take (k * sz) ++ (cs.drop (k * sz)).take sz := by
          rw [Nat.succ_mul, List.take_add]
        rw [e1, e2]
        exact h1
    have := key n (Nat.le_refl _)
    rwa [← hln, List.take_length, hln, ← hl, List.take_length] at this
end Go.Pv

set_option linter.unusedVariables false
set_option linter.unusedSimpArgs false
set_option maxRecDepth 100000
namespace Go.Pv
open Go Go.Proofs

theorem maxLen_lt : reachBytes < 4611686018427387904 := by decide
theorem len2 {X : Type} {l : List X} (h : l.length = 2) : ∃ a b, l = [a, b] := by
  match l, h with | [a, b], _ => exact ⟨a, b, rfl⟩
theorem len3 {X : Type} {l : List X} (h : l.length = 3) : ∃ a b c, l = [a, b, c] := by
  match l, h with | [a, b, c], _ => exact ⟨a, b, c, rfl⟩
theorem len4 {X : Type} {l : List X} (h : l.length = 4) : ∃ a b c d, l = [a, b, c, d] := by
  match l, h with | [a, b, c, d], _ => exact ⟨a, b, c, d, rfl⟩
theorem len5 {X : Type} {l : List X} (h : l.length = 5) : ∃ a b c d e, l = [a, b, c, d, e] := by
  match l, h with | [a, b, c, d, e], _ => exact ⟨a, b, c, d, e, rfl⟩

theorem opn3 : Opn 3 (fun n : Int => [.int .i64 n]) (fun n => (Lit.int .i64 n).wf = true) := opn_int Tryz.underlying3
theorem opn5 : Opn 5 (fun n : Int => [.int .u8 n]) (fun n => (Lit.int .u8 n).wf = true) := opn_int Tryz.underlying5
theorem opn41 : Opn 41 (fun n : Int => [.int .u16 n]) (fun n => (Lit.int .u16 n).wf = true) := opn_int Tryz.underlying41
theorem opn4 : Opn 4 (fun b : Bool => [.bool b]) (fun _ => True) := opn_bool Tryz.underlying4
theorem opn32 : Opn 32 Handle.cs (fun _ => True) := (opn_struct (total := 2) Tryz.underlying32 (by kernel_rfl) (.cons (off' := 1) opn3 rfl (by kernel_rfl) (.cons (off' := 2) opn3 rfl (by kernel_rfl) (.nil (by omega))))).map (fun x hx => ⟨⟨x.1, x.2.1⟩, trivial, rfl⟩)
theorem opn80 : Opn 80 Slot.cs (fun _ => True) := (opn_struct (total := 2) Tryz.underlying80 (by kernel_rfl) (.cons (off' := 1) opn3 rfl (by kernel_rfl) (.cons (off' := 2) opn4 rfl (by kernel_rfl) (.nil (by omega))))).map (fun x hx => ⟨⟨x.1, x.2.1⟩, trivial, rfl⟩)
theorem opn38 : Opn 38 Vec.cs (fun _ => True) := (opn_struct (total := 3) Tryz.underlying38 (by kernel_rfl) (.cons (off' := 1) opn3 rfl (by kernel_rfl) (.cons (off' := 2) opn3 rfl (by kernel_rfl) (.cons (off' := 3) opn3 rfl (by kernel_rfl) (.nil (by omega)))))).map (fun x hx => ⟨⟨x.1, x.2.1, x.2.2.1⟩, trivial, rfl⟩)
theorem opn35 : Opn 35 (fun x : Int × Int × Int => [.int .i64 x.1, .int .i64 x.2.1, .int .i64 x.2.2]) (fun _ => True) :=
  (opn_array (sz := 1) Tryz.underlying35 (by kernel_rfl) (by kernel_rfl) opn3).map (fun l hl => by obtain ⟨a, b, c, rfl⟩ := len3 hl.1; exact ⟨(a, b, c), trivial, rfl⟩)
theorem opn36 : Opn 36 (fun x : (Int × Int × Int) × (Int × Int × Int) × (Int × Int × Int) => [.int .i64 x.1.1, .int .i64 x.1.2.1, .int .i64 x.1.2.2, .int .i64 x.2.1.1, .int .i64 x.2.1.2.1, .int .i64 x.2.1.2.2, .int .i64 x.2.2.1, .int .i64 x.2.2.2.1, .int .i64 x.2.2.2.2]) (fun _ => True) :=
  (opn_array (sz := 3) Tryz.underlying36 (by kernel_rfl) (by kernel_rfl) opn35).map (fun l hl => by obtain ⟨a, b, c, rfl⟩ := len3 hl.1; exact ⟨(a, b, c), trivial, rfl⟩)
theorem opn43 : Opn 43 (fun x : Int × Int × Int × Int × Int => [.int .u8 x.1, .int .u8 x.2.1, .int .u8 x.2.2.1, .int .u8 x.2.2.2.1, .int .u8 x.2.2.2.2]) (fun _ => True) :=
  (opn_array (sz := 1) Tryz.underlying43 (by kernel_rfl) (by kernel_rfl) opn5).map (fun l hl => by obtain ⟨a, b, c, d, e, rfl⟩ := len5 hl.1; exact ⟨(a, b, c, d, e), trivial, rfl⟩)
theorem opn45 : Opn 45 Color.cs (fun _ => True) :=
  (opn_array (sz := 1) Tryz.underlying45 (by kernel_rfl) (by kernel_rfl) opn5).map (fun l hl => by obtain ⟨a, b, c, d, rfl⟩ := len4 hl.1; exact ⟨⟨a, b, c, d⟩, trivial, rfl⟩)
theorem opn238 : Opn 238 UV.cs (fun _ => True) :=
  (opn_array (sz := 1) Tryz.underlying238 (by kernel_rfl) (by kernel_rfl) opn3).map (fun l hl => by obtain ⟨a, b, rfl⟩ := len2 hl.1; exact ⟨⟨a, b⟩, trivial, rfl⟩)
theorem opn42 : Opn 42 (fun l : List Int => [intsPv l]) (fun l => l.length ≤ reachBytes) :=
  (opn_slice (sz := 1) Tryz.underlying42 (by kernel_rfl) opn3 (PV.int .i64) (fun _ => rfl) (by omega) (of_decide_eq_true (by kernel_rfl))).map (fun l hl => ⟨l, hl.2, rfl⟩)
theorem opn22 : Opn 22 (fun l : List Slot => [slotsPv l]) (fun l => l.length ≤ reachBytes) :=
  (opn_slice (sz := 2) Tryz.underlying22 (by kernel_rfl) opn80 Slot.pv (fun _ => rfl) (by omega) (of_decide_eq_true (by kernel_rfl))).map (fun l hl => ⟨l, hl.2, rfl⟩)
theorem opn78 : Opn 78 (fun l : List Handle => [handlesPv l]) (fun l => l.length ≤ reachBytes) :=
  (opn_slice (sz := 2) Tryz.underlying78 (by kernel_rfl) opn32 Handle.pv (fun _ => rfl) (by omega) (of_decide_eq_true (by kernel_rfl))).map (fun l hl => ⟨l, hl.2, rfl⟩)
theorem opn25 : Opn 25 (fun l : List (List Handle) => [kidsPv l]) (fun l => (∀ x ∈ l, x.length ≤ reachBytes) ∧ l.length ≤ reachBytes) :=
  (opn_slice (sz := 1) Tryz.underlying25 (by kernel_rfl) opn78 handlesPv (fun _ => rfl) (by omega) (of_decide_eq_true (by kernel_rfl))).map (fun l hl => ⟨l, hl, rfl⟩)
theorem opn52 : Opn 52 (fun l : List Vec => [vecsPv l]) (fun l => l.length ≤ reachBytes) :=
  (opn_slice (sz := 3) Tryz.underlying52 (by kernel_rfl) opn38 Vec.pv (fun _ => rfl) (by omega) (of_decide_eq_true (by kernel_rfl))).map (fun l hl => ⟨l, hl.2, rfl⟩)
theorem opn53 : Opn 53 (fun l : List UV => [uvsPv l]) (fun l => l.length ≤ reachBytes) :=
  (opn_slice (sz := 2) Tryz.underlying53 (by kernel_rfl) opn238 UV.pv (fun _ => rfl) (by omega) (of_decide_eq_true (by kernel_rfl))).map (fun l hl => ⟨l, hl.2, rfl⟩)
theorem opn57 : Opn 57 (fun l : List Color => [colorsPv l]) (fun l => l.length ≤ reachBytes) :=
  (opn_slice (sz := 4) Tryz.underlying57 (by kernel_rfl) opn45 Color.pv (fun _ => rfl) (by omega) (of_decide_eq_true (by kernel_rfl))).map (fun l hl => ⟨l, hl.2, rfl⟩)
theorem opn228 : Opn 228 Prim.cs (fun p => 0 ≤ p.kind ∧ p.index.length ≤ reachBytes) := (opn_struct (total := 2) Tryz.underlying228 (by kernel_rfl) (.cons (off' := 1) opn5 rfl (by kernel_rfl) (.cons (off' := 2) opn42 rfl (by kernel_rfl) (.nil (by omega))))).map (fun x hx => ⟨⟨x.1, x.2.1⟩, ⟨(bounds_u8 hx.1).1, hx.2.1⟩, rfl⟩)
theorem opn54 : Opn 54 (fun l : List Prim => [primsPv l]) (fun l => (∀ p ∈ l, 0 ≤ p.kind ∧ p.index.length ≤ reachBytes) ∧ l.length ≤ reachBytes) :=
  (opn_slice (sz := 2) Tryz.underlying54 (by kernel_rfl) opn228 Prim.pv (fun _ => rfl) (by omega) (of_decide_eq_true (by kernel_rfl))).map (fun l hl => ⟨l, hl, rfl⟩)
theorem opn56 : Opn 56 Mesh.cs Mesh.Lens := (opn_struct (total := 3) Tryz.underlying56 (by kernel_rfl) (.cons (off' := 1) opn52 rfl (by kernel_rfl) (.cons (off' := 2) opn53 rfl (by kernel_rfl) (.cons (off' := 3) opn54 rfl (by kernel_rfl) (.nil (by omega)))))).map (fun x hx => ⟨⟨x.1, x.2.1, x.2.2.1⟩, ⟨Nat.lt_of_le_of_lt hx.1 maxLen_lt, Nat.lt_of_le_of_lt hx.2.1 maxLen_lt, Nat.lt_of_le_of_lt hx.2.2.1.2 maxLen_lt, fun p hp => Nat.lt_of_le_of_lt (hx.2.2.1.1 p hp).2 maxLen_lt, fun p hp => (hx.2.2.1.1 p hp).1⟩, rfl⟩)
theorem opn59 : Opn 59 Texture.cs (fun _ => True) := (opn_struct (total := 3) Tryz.underlying59 (by kernel_rfl) (.cons (off' := 1) opn3 rfl (by kernel_rfl) (.cons (off' := 2) opn3 rfl (by kernel_rfl) (.cons (off' := 3) opn57 rfl (by kernel_rfl) (.nil (by omega)))))).map (fun x hx => ⟨⟨x.1, x.2.1, x.2.2.1⟩, trivial, rfl⟩)
theorem opn40 : Opn 40 Mat.cs (fun _ => True) := (opn_struct (total := 12) Tryz.underlying40 (by kernel_rfl) (.cons (off' := 9) opn36 rfl (by kernel_rfl) (.cons (off' := 12) opn38 rfl (by kernel_rfl) (.nil (by omega))))).map (fun x hx => ⟨⟨x.1.1.1, x.1.1.2.1, x.1.1.2.2, x.1.2.1.1, x.1.2.1.2.1, x.1.2.1.2.2, x.1.2.2.1, x.1.2.2.2.1, x.1.2.2.2.2, x.2.1⟩, trivial, rfl⟩)
theorem opn47 : Opn 47 Look.cs (fun _ => True) := (opn_struct (total := 9) Tryz.underlying47 (by kernel_rfl) (.cons (off' := 4) opn45 rfl (by kernel_rfl) (.cons (off' := 5) opn3 rfl (by kernel_rfl) (.cons (off' := 6) opn5 rfl (by kernel_rfl) (.cons (off' := 7) opn3 rfl (by kernel_rfl) (.cons (off' := 8) opn4 rfl (by kernel_rfl) (.cons (off' := 9) opn3 rfl (by kernel_rfl) (.nil (by omega))))))))).map (fun x hx => ⟨⟨x.1, x.2.1, x.2.2.1, x.2.2.2.1, x.2.2.2.2.1, x.2.2.2.2.2.1⟩, trivial, rfl⟩)
theorem opn49 : Opn 49 Style.cs (fun _ => True) := (opn_struct (total := 14) Tryz.underlying49 (by kernel_rfl) (.cons (off' := 5) opn43 rfl (by kernel_rfl) (.cons (off' := 14) opn47 rfl (by kernel_rfl) (.nil (by omega))))).map (fun x hx => ⟨⟨x.1.1, x.1.2.1, x.1.2.2.1, x.1.2.2.2.1, x.1.2.2.2.2, x.2.1⟩, trivial, rfl⟩)
theorem opn51 : Opn 51 Node.cs (fun n => n.far.length < 4611686018427387904) := (opn_struct (total := 33) Tryz.underlying51 (by kernel_rfl) (.cons (off' := 1) opn5 rfl (by kernel_rfl) (.cons (off' := 13) opn40 rfl (by kernel_rfl) (.cons (off' := 14) opn41 rfl (by kernel_rfl) (.cons (off' := 17) opn38 rfl (by kernel_rfl) (.cons (off' := 18) opn42 rfl (by kernel_rfl) (.cons (off' := 19) opn3 rfl (by kernel_rfl) (.cons (off' := 33) opn49 rfl (by kernel_rfl) (.nil (by omega)))))))))).map (fun x hx => ⟨⟨x.1, x.2.1, x.2.2.1, x.2.2.2.1, x.2.2.2.2.1, x.2.2.2.2.2.1, x.2.2.2.2.2.2.1⟩, Nat.lt_of_le_of_lt hx.2.2.2.2.1 maxLen_lt, by simp [Node.cs, List.append_assoc]⟩)
theorem opn28 : Opn 28 (fun l : List Node => [nodesPv l]) (fun l => (∀ n ∈ l, n.far.length < 4611686018427387904) ∧ l.length ≤ reachBytes) :=
  (opn_slice (sz := 33) Tryz.underlying28 (by kernel_rfl) opn51 Node.pv (fun _ => rfl) (by omega) (of_decide_eq_true (by kernel_rfl))).map (fun l hl => ⟨l, hl, rfl⟩)
theorem opn29 : Opn 29 (fun l : List Mesh => [meshesPv l]) (fun l => (∀ m ∈ l, m.Lens) ∧ l.length ≤ reachBytes) :=
  (opn_slice (sz := 3) Tryz.underlying29 (by kernel_rfl) opn56 Mesh.pv (fun _ => rfl) (by omega) (of_decide_eq_true (by kernel_rfl))).map (fun l hl => ⟨l, hl, rfl⟩)
theorem opn30 : Opn 30 (fun l : List Texture => [texturesPv l]) (fun l => l.length ≤ reachBytes) :=
  (opn_slice (sz := 3) Tryz.underlying30 (by kernel_rfl) opn59 Texture.pv (fun _ => rfl) (by omega) (of_decide_eq_true (by kernel_rfl))).map (fun l hl => ⟨l, hl.2, rfl⟩)
theorem opn24 : Opn 24 (fun l : List Slot => [slotsPv l]) (fun l => l.length ≤ reachBytes) := (opn_struct (total := 1) Tryz.underlying24 (by kernel_rfl) (.cons (off' := 1) opn22 rfl (by kernel_rfl) (.nil (by omega)))).map (fun x hx => ⟨x.1, hx.1, rfl⟩)
theorem opn27 : Opn 27 Graph.cs Graph.Lens := (opn_struct (total := 2) Tryz.underlying27 (by kernel_rfl) (.cons (off' := 1) opn24 rfl (by kernel_rfl) (.cons (off' := 2) opn25 rfl (by kernel_rfl) (.nil (by omega))))).map (fun x hx => ⟨⟨x.1, x.2.1⟩, ⟨Nat.lt_of_le_of_lt hx.1 maxLen_lt, Nat.lt_of_le_of_lt hx.2.1.2 maxLen_lt, fun l hl => Nat.lt_of_le_of_lt (hx.2.1.1 l hl) maxLen_lt⟩, rfl⟩)
theorem opn34 : Opn 34 Scene.cs Scene.Lens := (opn_struct (total := 7) Tryz.underlying34 (by kernel_rfl) (.cons (off' := 2) opn27 rfl (by kernel_rfl) (.cons (off' := 3) opn28 rfl (by kernel_rfl) (.cons (off' := 4) opn29 rfl (by kernel_rfl) (.cons (off' := 5) opn30 rfl (by kernel_rfl) (.cons (off' := 7) opn32 rfl (by kernel_rfl) (.nil (by omega)))))))).map (fun x hx => ⟨⟨x.1, x.2.1, x.2.2.1, x.2.2.2.1, x.2.2.2.2.1⟩, ⟨hx.1, Nat.lt_of_le_of_lt hx.2.1.2 maxLen_lt, hx.2.1.1, Nat.lt_of_le_of_lt hx.2.2.1.2 maxLen_lt, hx.2.2.1.1, Nat.lt_of_le_of_lt hx.2.2.2.1 maxLen_lt⟩, by simp [Scene.cs]⟩)

/-- An argument of a struct type is a tree. -/
theorem opn_arg {t : TypeId} {X : Type} {f : X → List PV} {ok : X → Prop} (h : Opn t f ok) (h2 : ∀ x, ok x → (f x).length ≠ 1) {H : Type} {enc : TypeId × Value → H} {W : World} {v : Value} {d : DataW H} {ps : List MemPlace} (ht : DataW.Trod enc Tryz.prog W 0 (fun _ => true) true t v d ps) (hwt : ∀ m ∈ d.weights Tryz.prog t, m ≤ reachBytes) :
    ∃ x, ok x ∧ RW W (.agg (f x)) v := by
  obtain ⟨n, hn⟩ := ht
  obtain ⟨x, hx, hr⟩ := h H enc W n _ _ hn hwt
  refine ⟨x, hx, ?_⟩
  have hl := h2 x hx
  cases v with
  | agg a =>
    refine .agg _ _ (by rw [hr.1]; simp [Value.cells]) fun i hi => ?_
    have := hr.2 i hi
    simpa [Value.cells, List.getD_eq_getElem?_getD, Array.getD_eq_getD_getElem?] using this
  | _ => exact absurd (by rw [hr.1]; rfl) hl
end Go.Pv

set_option linter.unusedVariables false
set_option maxRecDepth 100000
namespace Go.Proofs.YtocechkkeadgkaaGreat
open Go Go.Pv Go.ChangeShapes Go.WideShapes Go.ChangeAt Go.RowKit

theorem ebOwn : ownKnob Tryz.prog.godebug = none := by kernel_rfl
theorem ebLaid : laidOutB Tryz.prog = true := by kernel_rfl

section
variable {H : Type} {enc : TypeId × Value → H} {P : Program}
/-- Behind a call that has left alone what lies below the heap's old end, and comes back with what leads nowhere. -/
theorem post_of_below {f : Func} {s : ChangeSpec} {apart fresh handsOn again : Bool} {W W' : World} {args : Array Value} {v : Value} {ds gs : List (DataW H)} {before pa pv : List MemPlace}
    (hW : DataW.Whole enc P f.params.toList s.vars apart W args.toList ds gs before) (hb : Below W.heap.size W W')
    (hres : ∀ (b : Nat) (sp : Nat → Bool) (hd : Bool), DataW.TrodAll enc P W' b sp hd f.resultTypes.toList (v.resultList f.resultTypes.size) (s.fn H (ds ++ gs)).results [])
    (hargs : ∀ sp : Nat → Bool, (∀ p ∈ before, sp p.block = true) → DataW.TrodAll enc P W' 0 sp true f.params.toList args.toList (s.fn H (ds ++ gs)).args pa)
    (hvars : ∀ sp : Nat → Bool, (∀ p ∈ before, sp p.block = true) → DataW.TrodVars enc P W' sp s.vars (s.fn H (ds ++ gs)).vars pv)
    (hps : before = pa ++ pv)
    (hok : ∀ (j : Nat) (t : TypeId) (r : Value), f.resultTypes[j]? = some t → (v.resultList f.resultTypes.size)[j]? = some r → Value.okWide P W' .any 0 t r) :
    s.post enc P f apart fresh handsOn again W args v W' := by
  have hlt := hW.lt
  have hold : ∀ p ∈ before, (fun b => decide (b < W.heap.size)) p.block = true := fun p hp => by simpa using hW.lt p hp
  refine ⟨ds, gs, before, [], pa, pv, hW, hres _ _ _, hargs _ hold, hvars _ hold, World.keptBut_mono (fun p hp => ⟨hp, ?_⟩) (hb.frame (· ∈ before)), fun _ => ?_⟩
  · rw [hps, List.mem_append] at hp
    exact Or.inr hp
  · obtain ⟨_, _, _, _, _, hz, hn⟩ := hW
    refine ⟨hok, _, _, ([] ++ pa) ++ pv, ⟨[] ++ pa, pv, trodAll_append (hargs _ (fun _ _ => rfl)) (hres _ _ _), hvars _ (fun _ _ => rfl), rfl, ?_, ?_⟩, ?_⟩
    · intro b off hp
      have hp' : MemPlace.cell b off ∈ before := by rw [hps]; simpa using hp
      rw [hb.frozen (show (⟨b, off, none⟩ : Addr).block < W.heap.size from hlt _ hp')]
      exact hz b off hp'
    · intro ha
      have := hn ha
      rw [hps] at this
      simpa using this
    · intro p hp _
      rw [hps]
      simpa using hp
end

theorem sim0 (W : World) : Sim W K0 (fun _ => False) (fun _ => False) [] where
  key := fun k => rfl
  used := fun k x h => by cases h
  inj := fun k k' r ob ob' h => by cases h
  foreign := fun r h => (not_own0 r h).elim
  fdom := fun r h => h.elim
  row0 := fun k sz es h => by cases h
  row := fun k r sz es h => by cases h
  mp0 := fun k es h => by cases h
  mp := fun k r es h => by cases h

/-- THE WALK, IN THE GIVEN WORDS. -/
theorem ebWalk (W : World) (s : Scene) (n : Pv.Node) (v0 v1 : Value) (hs : s.Lens) (hn : n.far.length < 4611686018427387904) (h0 : RW W s.pv v0) (h1 : RW W n.pv v1) :
    Calls Tryz.prog 4 #[v0, v1] W fun e W' => e = .returned (.bool true) ∧ Below W.heap.size W W' := by
  refine ((runs4 [] s n hs hn).2.2 W K0 (fun _ => False) (fun _ => False) [] #[v0, v1] (sim0 W) (Sub.nil _) ⟨rfl, fun i hi => ?_⟩ (fun l h => h)).mono fun e W' ⟨u, K', U', T', he, hd⟩ => ?_
  · match i, hi with
    | 0, _ => exact h0
    | 1, _ => exact h1
  · have hu : u = .bool true := rel_bool hd.after.rel
    subst he
    subst hu
    have fr := hd.after.fr
    exact ⟨rfl, fr.os, fr.tape, fr.output, fr.size, fun k hk => fr.block k hk (not_own0 k)⟩

theorem ebContract (H : Type) (enc : TypeId × Value → H) (W : World) (args : Array Value) (ds gs : List (DataW H)) (before : List MemPlace)
    (hW : DataW.Whole enc Tryz.prog Tryz.f4.params.toList Rows.editBackSpec.vars false W args.toList ds gs before)
    (hsz : (DataW.weightsEach Tryz.prog (Tryz.f4.params.toList ++ Rows.editBackSpec.plain.varTypes Tryz.prog) (ds ++ gs)).all (· ≤ reachBytes) = true) :
    Calls Tryz.prog 4 args W fun e W' => ∃ v, e = .returned v ∧ Rows.editBackSpec.post enc Tryz.prog Tryz.f4 false true false false W args v W' := by
  have hW' := hW
  have hlt := hW.lt
  obtain ⟨p, q, hA0, hV, rfl, hfz, hnd⟩ := hW
  have hA : DataW.TrodAll enc Tryz.prog W 0 (fun _ => true) true Tryz.f4.params.toList args.toList ds p := hA0
  rw [Tryz.params4] at hA hsz
  obtain ⟨v0, v1, d0, d1, p0, p1, rfl, rfl, rfl, h0, h1⟩ := trodAll_two hA
  obtain ⟨rfl, rfl⟩ := trodVars_none hV
  have hw0 : ∀ m ∈ d0.weights Tryz.prog 34, m ≤ reachBytes := fun m hm => by
    have := List.all_eq_true.1 hsz m (DataW.weights_mem_each (j := 0) (t := 34) (d := d0) rfl rfl m hm)
    simpa using this
  have hw1 : ∀ m ∈ d1.weights Tryz.prog 51, m ≤ reachBytes := fun m hm => by
    have := List.all_eq_true.1 hsz m (DataW.weights_mem_each (j := 1) (t := 51) (d := d1) rfl rfl m hm)
    simpa using this
  obtain ⟨s, hs, r0⟩ := opn_arg opn34 (fun x _ => by simp [Scene.cs, Graph.cs, Handle.cs]) h0 hw0
  obtain ⟨n, hn, r1⟩ := opn_arg opn51 (fun x _ => by simp [Node.cs, Mat.cs, Vec.cs, Style.cs, Look.cs]) h1 hw1
  clear hA0
  refine (ebWalk W s n v0 v1 hs hn r0 r1).mono fun e W' ⟨he, hb⟩ => ?_
  subst he
  refine ⟨_, rfl, post_of_below (pa := p0 ++ p1) (pv := []) hW' hb (fun _ _ _ => trodAll_mk1 (shut_bool Tryz.underlying4 _)) (fun sp hsp => ?_) (fun _ _ => rfl) rfl (ok_one (by kernel_rfl) rfl (okWide_bool_mk Tryz.underlying4 _))⟩
  show DataW.TrodAll enc Tryz.prog W' 0 sp true Tryz.f4.params.toList [v0, v1] [d0, d1] (p0 ++ p1)
  rw [Tryz.params4]
  exact trodAll_mk2 (WideElems.Trod_stays ebLaid (by kernel_rfl) (of_decide_eq_true (by kernel_rfl)) h0 (fun x hx => hb.same (hlt x (by simp [hx]))) (fun x hx => hsp x (by simp [hx])))
    (WideElems.Trod_stays ebLaid (by kernel_rfl) (of_decide_eq_true (by kernel_rfl)) h1 (fun x hx => hb.same (hlt x (by simp [hx]))) (fun x hx => hsp x (by simp [hx])))

def ebScene0 : Value := .agg #[.slice none 0 0, .slice none 0 0, .slice none 0 0, .slice none 0 0, .slice none 0 0, .int .i64 0, .int .i64 0]
def ebNode0 : Value := .agg #[.int .u8 0, .int .i64 0, .int .i64 0, .int .i64 0, .int .i64 0, .int .i64 0, .int .i64 0, .int .i64 0, .int .i64 0, .int .i64 0, .int .i64 0, .int .i64 0, .int .i64 0, .int .u16 0, .int .i64 0, .int .i64 0, .int .i64 0, .slice none 0 0, .int .i64 0, .int .u8 0, .int .u8 0, .int .u8 0, .int .u8 0, .int .u8 0, .int .u8 0, .int .u8 0, .int .u8 0, .int .u8 0, .int .i64 0, .int .u8 0, .int .i64 0, .bool false, .int .i64 0]

theorem ebLifted (os : Os) (started : os.Started) (H : Type) (enc : TypeId × Value → H) :
    ReturnsInHanded {} Tryz.checked os 4 .any (Rows.editBackSpec.pre6 enc Tryz.prog Tryz.f4 Rows.editBackRow.domain false) (Rows.editBackSpec.post enc Tryz.prog Tryz.f4 false true false false) := by
  refine returnsInHanded_of_change_sized (C := Tryz.checked) ebOwn started (by kernel_rfl) Tryz.func4
    (ChangeSpec.witness6 (enc := enc) (C := Tryz.checked) false ⟨#[], #[ebScene0, ebNode0], []⟩ 8 (by kernel_rfl) (by kernel_rfl) (by kernel_rfl) (by kernel_rfl)) ?_
  intro W base args ds gs before hval hW _ hsz _
  exact ebContract H enc W args ds gs before hW hsz

theorem editBack_holds : Rows.EditBackSaid :=
  OpenClaim.holds_of_wide 4 Tryz.f4 rfl rfl rfl rfl rfl rfl rfl ⟨rfl, rfl, rfl, rfl, rfl⟩ rfl rfl rfl rfl rfl (by kernel_rfl) Tryz.func4 (by kernel_rfl)
    (of_decide_eq_true (by kernel_rfl)) (by unfold Func.isWrapper; first | (rw [if_pos (by decide +kernel)]; kernel_rfl) | (rw [if_neg (by decide +kernel)]; exact ⟨rfl, rfl⟩))
    (fun os started H enc _ => ebLifted os started H enc)
end Go.Proofs.YtocechkkeadgkaaGreat

