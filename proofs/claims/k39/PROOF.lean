import PyProof.Rows.All
import Wide.All
import OpenK.AllK
import Wide.FinOn
import HandS.ForMost
import HandS.GenList
import PySem.Challenge.RW_heapeffects_k39_whole_sorting_by_a_heap
import HandS.Defaults
import KE.KDictPairs
import PyProof.Rows.MatchSeqLen
import HandS.IsInst
import KE.KEqSeq
import KE.GoesMore
import PyProof.EnumMake
import HandS.Walk
import HandS.SortRule
import HandS.Codes
import HandS.ClsMeth
import HandS.OwnEq
import PyProof.Rows.SetFrom
import HandS.SetFor
import HandS.Strs
import HandS.GenOver
import HandS.SortInts
import HandS.TupAny
import KE.KStateDown
import Lean
import HandS.Base
import HandS.Call
import HandS.Head0
import HandS.Head1
import HandS.Head2
import HandS.HeadEnd
import HandS.HeadHook1
import HandS.HeadHook2
import HandS.HeadNt
/-! Sim -/
set_option Elab.async false
set_option linter.all false
set_option maxRecDepth 100000
set_option maxHeartbeats 1000000
/-! Sleeping generators stay as they are, whatever a proved piece of code does. -/
namespace Gk
open PySem
open Sem (wp)

/-- no frame of a generator's wake in a stack -/
def NoGen (fs : List Frame) : Prop := splitAtGen fs = none
theorem NoGen.nil : NoGen [] := rfl
theorem NoGen.cons {k h g l c p kp} {fs : List Frame} (x : NoGen fs) : NoGen (.ret k h g l c p kp :: fs) := by
  unfold NoGen at x ⊢
  show (splitAtGen fs).map _ = none
  rw [x]; rfl
theorem NoGen.tail {k h g l c p kp} {fs : List Frame} (x : NoGen (.ret k h g l c p kp :: fs)) : NoGen fs := by
  unfold NoGen at x ⊢
  have y : (splitAtGen fs).map (fun (z : List Frame × (Nat × (GenResult → Sem Fin) × Code × Pos) × List Frame) => (Frame.ret k h g l c p kp :: z.1, z.2.1, z.2.2)) = none := x
  cases e : splitAtGen fs with
  | none => rfl
  | some z => rw [e] at y; cases y
theorem NoGen.not_gen {g k l c p} {fs : List Frame} (x : NoGen (.gen g k l c p :: fs)) : False := by
  unfold NoGen at x
  cases x
theorem NoGen.append : ∀ {fs gs : List Frame}, NoGen fs → NoGen gs → NoGen (fs ++ gs)
  | [], _, _, y => y
  | .ret _ _ _ _ _ _ _ :: _, _, x, y => NoGen.cons (NoGen.append x.tail y)
  | .gen _ _ _ _ _ :: _, _, x, _ => x.not_gen.elim
def EndOk : End → Prop
  | .ret _ => True
  | .susp _ _ _ _ _ _ fs => NoGen fs
def asRet : Frame → Frame
  | .ret k h g l c p kp => .ret k h g l c p kp
  | .gen _ _ l c p => .ret (fun _ => .unsupported "") none false l c p []
theorem asRet_where (f : Frame) : (asRet f).where_ = f.where_ := by cases f <;> rfl
theorem noGen_asRet : ∀ fs : List Frame, NoGen (fs.map asRet)
  | [] => rfl
  | .ret _ _ _ _ _ _ _ :: fs => NoGen.cons (noGen_asRet fs)
  | .gen _ _ _ _ _ :: fs => NoGen.cons (noGen_asRet fs)
/-- the same look, but it cannot be woken -/
def deaf : GenState → GenState
  | .suspended _ l c p fs _ => .suspended (fun _ => .unsupported "") l c p (fs.map asRet) false
  | x => x
def sleeps : GenState → Bool
  | .suspended .. => true
  | _ => false
theorem deaf_seen (x : GenState) : (deaf x).seen = x.seen := by
  cases x with
  | suspended k l c p fs cl =>
    show (GenStatus.suspended, some ((c, p) :: (fs.map asRet).map Frame.where_)) = (GenStatus.suspended, some ((c, p) :: fs.map Frame.where_))
    have e : (fs.map asRet).map Frame.where_ = fs.map Frame.where_ := by
      rw [List.map_map]
      exact List.map_congr_left fun f _ => asRet_where f
    rw [e]
  | _ => rfl
theorem deaf_bare {x : GenState} (h : x.bare = true) : (deaf x).bare = true := by
  cases x <;> first | rfl | exact h
theorem no_unsup {M : Model} {Γ : Ctx} {p : Pos} {w : String} : ∀ {fs : List Frame} {s s' : Shared} {e : End}, ¬ Runs M Γ p (.unsupported w) fs s e s' := by
  intro fs s s' e h
  generalize ht : (Sem.unsupported w : Sem PySem.Fin) = t at h
  induction h with
  | segRet h1 h2 ih1 ih2 => exact ih1 ht
  | segGen h1 h2 ih1 ih2 => exact ih1 ht
  | segSuspOut h1 h2 ih => exact ih ht
  | segSuspGen h1 h2 h3 h4 ih1 ih2 => exact ih1 ht
  | _ => cases ht

/-- T: the table at the start; a: the deaf run's table, b: the true one's -/
structure Mir (T a b : Array GenState) : Prop where
  size : b.size = a.size
  at_ : ∀ (g : Nat) (x : GenState), T[g]? = some x → sleeps x = true → a[g]? = some (deaf x) ∧ b[g]? = some x
  oth : ∀ (g : Nat), (∀ x : GenState, T[g]? = some x → sleeps x = false) → b[g]? = a[g]?
  free : ∀ (g : Nat) k l c p fs cl, a[g]? = some (GenState.suspended k l c p fs cl) → NoGen fs
theorem Mir.start (T : Array GenState) : Mir T (T.map deaf) T where
  size := by simp
  at_ := fun g x e _ => ⟨by rw [Array.getElem?_map, e]; rfl, e⟩
  oth := fun g h => by
    rw [Array.getElem?_map]
    cases e : T[g]? with
    | none => rfl
    | some x =>
      have q := h x e
      cases x with
      | suspended => cases q
      | _ => rfl
  free := fun g k l c p fs cl e' => by
    rw [Array.getElem?_map] at e'
    cases q : T[g]? with
    | none => rw [q] at e'; cases e'
    | some x =>
      rw [q] at e'
      cases x with
      | suspended k0 l0 c0 p0 fs0 cl0 =>
        have e2 : GenState.suspended (fun _ => .unsupported "") l0 c0 p0 (fs0.map asRet) false = GenState.suspended k l c p fs cl := Option.some.inj e'
        injection e2 with _ _ _ _ e3 _
        rw [← e3]
        exact noGen_asRet _
      | fresh c0 => exact nomatch (show GenState.fresh c0 = GenState.suspended k l c p fs cl from Option.some.inj e')
      | running => exact nomatch (show GenState.running = GenState.suspended k l c p fs cl from Option.some.inj e')
      | finished => exact nomatch (show GenState.finished = GenState.suspended k l c p fs cl from Option.some.inj e')
section
variable {T a b : Array GenState}
theorem Mir.asleep (m : Mir T a b) {g : Nat} {x : GenState} (e : a[g]? = some x) : (∃ z, T[g]? = some z ∧ sleeps z = true ∧ x = deaf z ∧ b[g]? = some z) ∨ ((∀ z : GenState, T[g]? = some z → sleeps z = false) ∧ b[g]? = some x) := by
  by_cases q : ∃ z, T[g]? = some z ∧ sleeps z = true
  · obtain ⟨z, ez, sz⟩ := q
    obtain ⟨e1, e2⟩ := m.at_ g z ez sz
    rw [e] at e1
    exact .inl ⟨z, ez, sz, Option.some.inj e1, e2⟩
  · have n : ∀ z : GenState, T[g]? = some z → sleeps z = false := fun z ez => by
      cases sz : sleeps z with
      | false => rfl
      | true => exact absurd ⟨z, ez, sz⟩ q
    exact .inr ⟨n, by rw [m.oth g n, e]⟩
theorem Mir.seen (m : Mir T a b) {g : Nat} {x : GenState} (e : a[g]? = some x) : ∃ y, b[g]? = some y ∧ y.seen = x.seen := by
  rcases m.asleep e with ⟨z, _, _, ex, eb⟩ | ⟨_, eb⟩
  · exact ⟨z, eb, by rw [ex, deaf_seen]⟩
  · exact ⟨x, eb, rfl⟩
theorem deaf_sleeps {z : GenState} (h : sleeps z = true) : ∃ l c p fs, deaf z = .suspended (fun _ => .unsupported "") l c p fs false := by
  cases z with
  | suspended k l c p fs cl => exact ⟨l, c, p, _, rfl⟩
  | _ => cases h
theorem Mir.same (m : Mir T a b) {g : Nat} {x : GenState} (e : a[g]? = some x) (n : ∀ l c p fs, x ≠ .suspended (fun _ => .unsupported "") l c p fs false) : (∀ z : GenState, T[g]? = some z → sleeps z = false) ∧ b[g]? = some x := by
  rcases m.asleep e with ⟨z, _, sz, ex, _⟩ | q
  · obtain ⟨l, c, p, fs, ed⟩ := deaf_sleeps sz
    exact absurd (ex.trans ed) (n l c p fs)
  · exact q
theorem Mir.set (m : Mir T a b) {g : Nat} {x : GenState} (n : ∀ z : GenState, T[g]? = some z → sleeps z = false) (hx : ∀ k l c p fs cl, x = GenState.suspended k l c p fs cl → NoGen fs) : Mir T (a.setIfInBounds g x) (b.setIfInBounds g x) where
  size := by simp [m.size]
  at_ := fun j z ez sz => by
    have hj : g ≠ j := fun e => by subst e; rw [n z ez] at sz; cases sz
    obtain ⟨e1, e2⟩ := m.at_ j z ez sz
    exact ⟨by rw [Array.getElem?_setIfInBounds_ne hj]; exact e1, by rw [Array.getElem?_setIfInBounds_ne hj]; exact e2⟩
  oth := fun j nj => by
    by_cases hj : g = j
    · subst hj
      by_cases hl : g < a.size
      · simp [hl, m.size]
      · simp [hl, m.size]
    · rw [Array.getElem?_setIfInBounds_ne hj, Array.getElem?_setIfInBounds_ne hj]
      exact m.oth j nj
  free := fun j k l c p fs cl e' => by
    by_cases hj : g = j
    · subst hj
      by_cases hl : g < a.size
      · simp [hl] at e'
        exact hx _ _ _ _ _ _ e'
      · simp [hl] at e'
    · rw [Array.getElem?_setIfInBounds_ne hj] at e'
      exact m.free _ _ _ _ _ _ _ e'
theorem Mir.push (m : Mir T a b) (c : Code) : Mir T (a.push (.fresh c)) (b.push (.fresh c)) where
  size := by simp [m.size]
  at_ := fun j z ez sz => by
    obtain ⟨e1, e2⟩ := m.at_ j z ez sz
    have l1 := (Array.getElem?_eq_some_iff.mp e1).1
    have l2 := (Array.getElem?_eq_some_iff.mp e2).1
    refine ⟨?_, ?_⟩
    · rw [Array.getElem?_push_lt l1, ← e1, Array.getElem?_eq_getElem l1]
    · rw [Array.getElem?_push_lt l2, ← e2, Array.getElem?_eq_getElem l2]
  oth := fun j nj => by
    simp only [Array.getElem?_push, m.size]
    split
    · rfl
    · exact m.oth j nj
  free := fun j k l c' p fs cl e' => by
    rw [Array.getElem?_push] at e'
    split at e'
    · cases e'
    · exact m.free _ _ _ _ _ _ _ e'
end
theorem endOk_gen {e : End} (h : EndOk e) : ∀ k l c p fs cl, e.genState = .suspended k l c p fs cl → NoGen fs := fun k l c p fs cl q => by
  cases e with
  | ret r => cases q
  | susp v g0 l0 k0 c0 p0 fs0 =>
    injection q with _ _ _ _ e3 _
    rw [← e3]
    exact h
/-- the state with another table -/
abbrev wg (s : Shared) (G : Array GenState) : Shared := { s with gens := G }
/-- the deaf run is a run of the true table -/
theorem runs_mir {M : Model} {T : Array GenState} {Γ : Ctx} {p : Pos} {t : Sem PySem.Fin} {fs : List Frame} {a a' : Shared} {e : End} (h : Runs M Γ p t fs a e a') :
    ∀ G, NoGen fs → Mir T a.gens G → EndOk e ∧ ∃ G', Runs M Γ p t fs (wg a G) e (wg a' G') ∧ Mir T a'.gens G' := by
  induction h with
  | done => exact fun G _ m => ⟨trivial, G, .done, m⟩
  | raise => exact fun G _ m => ⟨trivial, G, .raise, m⟩
  | again q _ ih => exact fun G n m => let ⟨k, b', r, m'⟩ := ih G n m; ⟨k, b', .again q r, m'⟩
  | rule _ ih => exact fun G n m => let ⟨k, b', r, m'⟩ := ih G n m; ⟨k, b', .rule r, m'⟩
  | «at» _ ih => exact fun G n m => let ⟨k, b', r, m'⟩ := ih G n m; ⟨k, b', .at r, m'⟩
  | load q _ ih => exact fun G n m => let ⟨k, b', r, m'⟩ := ih G n m; ⟨k, b', .load q r, m'⟩
  | update q _ ih => exact fun G n m => let ⟨k, b', r, m'⟩ := ih G n m; ⟨k, b', .update q r, m'⟩
  | loadIfAlive _ ih => exact fun G n m => let ⟨k, b', r, m'⟩ := ih G n m; ⟨k, b', .loadIfAlive r, m'⟩
  | point _ ih => exact fun G n m => let ⟨k, b', r, m'⟩ := ih G n m; ⟨k, b', .point r, m'⟩
  | alloc _ ih => exact fun G n m => let ⟨k, b', r, m'⟩ := ih G n m; ⟨k, b', .alloc r, m'⟩
  | fresh _ ih => exact fun G n m => let ⟨k, b', r, m'⟩ := ih G n m; ⟨k, b', .fresh r, m'⟩
  | ask _ ih => exact fun G n m => let ⟨k, b', r, m'⟩ := ih G n m; ⟨k, b', .ask r, m'⟩
  | choose q _ ih => exact fun G n m => let ⟨k, b', r, m'⟩ := ih G n m; ⟨k, b', .choose q r, m'⟩
  | os _ ih => exact fun G n m => let ⟨k, b', r, m'⟩ := ih G n m; ⟨k, b', .os r, m'⟩
  | handled _ ih => exact fun G n m => let ⟨k, b', r, m'⟩ := ih G n m; ⟨k, b', .handled r, m'⟩
  | genState q _ ih =>
    intro G n m
    obtain ⟨y, ey, es⟩ := m.seen q
    obtain ⟨k, b', r, m'⟩ := ih G n m
    exact ⟨k, b', .genState (st := y) ey (by rw [es]; exact r), m'⟩
  | stack _ ih => exact fun G n m => let ⟨k, b', r, m'⟩ := ih G n m; ⟨k, b', .stack r, m'⟩
  | thread _ ih => exact fun G n m => let ⟨k, b', r, m'⟩ := ih G n m; ⟨k, b', .thread r, m'⟩
  | newGen _ ih =>
    intro G n m
    obtain ⟨k, b', r, m'⟩ := ih (G.push (.fresh _)) n (m.push _)
    exact ⟨k, b', .newGen (by have r2 := r; rw [← m.size] at r2; exact r2), m'⟩
  | call _ _ ih1 ih2 =>
    intro G n m
    obtain ⟨_, b1, r1, m1⟩ := ih1 G .nil m
    obtain ⟨k, b2, r2, m2⟩ := ih2 b1 n m1
    exact ⟨k, b2, .call r1 r2, m2⟩
  | callSusp _ ih1 =>
    intro G n m
    obtain ⟨k1, b1, r1, m1⟩ := ih1 G .nil m
    exact ⟨NoGen.append k1 (NoGen.cons .nil), b1, .callSusp r1, m1⟩
  | yield => exact fun G _ m => ⟨.nil, G, .yield, m⟩
  | resumeFresh q _ qe _ ih1 ih2 =>
    intro G n m
    obtain ⟨nz, eb⟩ := m.same q fun _ _ _ _ z => nomatch z
    obtain ⟨k1, b1, r1, m1⟩ := ih1 (G.setIfInBounds _ .running) .nil (m.set nz fun _ _ _ _ _ _ z => nomatch z)
    obtain ⟨k2, b2, r2, m2⟩ := ih2 (b1.setIfInBounds _ _) n (m1.set nz (endOk_gen k1))
    exact ⟨k2, b2, .resumeFresh eb r1 qe r2, m2⟩
  | resumeSuspended q h1 qe _ ih1 ih2 =>
    intro G n m
    have nf := m.free _ _ _ _ _ _ _ q
    rcases m.asleep q with ⟨z, _, sz, ex, _⟩ | ⟨nz, eb⟩
    · obtain ⟨l, c, p, fs, ed⟩ := deaf_sleeps sz
      rw [ed] at ex
      injection ex with e1
      rw [e1] at h1
      exact absurd h1 no_unsup
    · obtain ⟨k1, b1, r1, m1⟩ := ih1 (G.setIfInBounds _ .running) nf (m.set nz fun _ _ _ _ _ _ z => nomatch z)
      obtain ⟨k2, b2, r2, m2⟩ := ih2 (b1.setIfInBounds _ _) n (m1.set nz (endOk_gen k1))
      exact ⟨k2, b2, .resumeSuspended eb r1 qe r2, m2⟩
  | resumeJustStarted q hv _ ih =>
    intro G n m
    obtain ⟨nz, eb⟩ := m.same q fun _ _ _ _ z => nomatch z
    obtain ⟨k, b', r, m'⟩ := ih G n m
    exact ⟨k, b', .resumeJustStarted eb hv r, m'⟩
  | resumeThrowFresh q _ ih =>
    intro G n m
    obtain ⟨nz, eb⟩ := m.same q fun _ _ _ _ z => nomatch z
    obtain ⟨k, b', r, m'⟩ := ih (G.setIfInBounds _ .finished) n (m.set nz fun _ _ _ _ _ _ z => nomatch z)
    exact ⟨k, b', .resumeThrowFresh eb r, m'⟩
  | resumeRunning q _ ih =>
    intro G n m
    obtain ⟨nz, eb⟩ := m.same q fun _ _ _ _ z => nomatch z
    obtain ⟨k, b', r, m'⟩ := ih G n m
    exact ⟨k, b', .resumeRunning eb r, m'⟩
  | resumeFinished q _ ih =>
    intro G n m
    obtain ⟨nz, eb⟩ := m.same q fun _ _ _ _ z => nomatch z
    obtain ⟨k, b', r, m'⟩ := ih G n m
    exact ⟨k, b', .resumeFinished eb r, m'⟩
  | segRet _ _ ih1 ih2 =>
    intro G n m
    obtain ⟨_, b1, r1, m1⟩ := ih1 G .nil m
    obtain ⟨k, b2, r2, m2⟩ := ih2 b1 n.tail m1
    exact ⟨k, b2, .segRet r1 r2, m2⟩
  | segGen _ _ _ _ => exact fun G n _ => n.not_gen.elim
  | segSuspOut q _ ih =>
    intro G n m
    obtain ⟨k, b1, r1, m1⟩ := ih G .nil m
    exact ⟨NoGen.append k n, b1, .segSuspOut q r1, m1⟩
  | segSuspGen q _ _ _ _ _ =>
    intro G n _
    unfold NoGen at n
    rw [q] at n
    cases n
theorem wakes_mir {M : Model} {T : Array GenState} {Γ : Ctx} {p : Pos} {g : Nat} {r : Resume} {a a' : Shared} {res : GenResult} (h : Wakes M Γ p g r a res a') (G : Array GenState) (m : Mir T a.gens G) :
    ∃ G', Wakes M Γ p g r (wg a G) res (wg a' G') ∧ Mir T a'.gens G' := by
  unfold Wakes at h
  split at h
  · exact h.elim
  · rename_i c q
    obtain ⟨nz, eb⟩ := m.same q fun _ _ _ _ z => nomatch z
    split at h
    · obtain ⟨e1, s1, hr, hq, rfl, rfl⟩ := h
      obtain ⟨k1, b1, r1, m1⟩ := runs_mir (T := T) hr (G.setIfInBounds g .running) .nil (m.set nz fun _ _ _ _ _ _ z => nomatch z)
      refine ⟨b1.setIfInBounds g e1.genState, ?_, m1.set nz (endOk_gen k1)⟩
      unfold Wakes
      show match G[g]? with | _ => _
      rw [eb]
      exact ⟨e1, wg s1 b1, r1, hq, rfl, rfl⟩
    · obtain ⟨rfl, rfl⟩ := h
      refine ⟨G, ?_, m⟩
      unfold Wakes
      show match G[g]? with | _ => _
      rw [eb]
      rename_i v hv
      cases v <;> first | exact ⟨rfl, rfl⟩ | exact absurd rfl hv
    · obtain ⟨rfl, rfl⟩ := h
      refine ⟨G.setIfInBounds g .finished, ?_, m.set nz fun _ _ _ _ _ _ z => nomatch z⟩
      unfold Wakes
      show match G[g]? with | _ => _
      rw [eb]
      exact ⟨rfl, rfl⟩
  · rename_i k0 l0 c0 p0 fs0 cl0 q
    have nf := m.free _ _ _ _ _ _ _ q
    obtain ⟨e1, s1, hr, hq, rfl, rfl⟩ := h
    rcases m.asleep q with ⟨z, _, sz, ex, _⟩ | ⟨nz, eb⟩
    · obtain ⟨l, c, p, fs, ed⟩ := deaf_sleeps sz
      rw [ed] at ex
      injection ex with e1
      rw [e1] at hr
      exact absurd hr no_unsup
    · obtain ⟨k1, b1, r1, m1⟩ := runs_mir (T := T) hr (G.setIfInBounds g .running) nf (m.set nz fun _ _ _ _ _ _ z => nomatch z)
      refine ⟨b1.setIfInBounds g e1.genState, ?_, m1.set nz (endOk_gen k1)⟩
      unfold Wakes
      show match G[g]? with | _ => _
      rw [eb]
      exact ⟨e1, wg s1 b1, r1, hq, rfl, rfl⟩
  · rename_i q
    obtain ⟨nz, eb⟩ := m.same q fun _ _ _ _ z => nomatch z
    obtain ⟨rfl, rfl⟩ := h
    refine ⟨G, ?_, m⟩
    unfold Wakes
    show match G[g]? with | _ => _
    rw [eb]
    exact ⟨rfl, rfl⟩
  · rename_i q
    obtain ⟨nz, eb⟩ := m.same q fun _ _ _ _ z => nomatch z
    obtain ⟨rfl, rfl⟩ := h
    refine ⟨G, ?_, m⟩
    unfold Wakes
    show match G[g]? with | _ => _
    rw [eb]
    exact ⟨rfl, rfl⟩
theorem wp_mir {M : Model} {Γ : Ctx} {T : Array GenState} {α : Type} (t : Sem α) : ∀ {Q : α → Pos → Shared → Prop} {E : Value → Pos → Shared → Prop} {p : Pos} {a : Shared} (G : Array GenState), wp M Γ t Q E p a → Mir T a.gens G →
    wp M Γ t (fun x p' s' => ∃ a', Q x p' a' ∧ s'.heap = a'.heap ∧ s' = wg a' s'.gens ∧ Mir T a'.gens s'.gens) (fun x p' s' => ∃ a', E x p' a' ∧ s'.heap = a'.heap ∧ s' = wg a' s'.gens ∧ Mir T a'.gens s'.gens) p (wg a G) := by
  induction t with
  | pure x => exact fun G h m => ⟨_, h, rfl, rfl, m⟩
  | raise x => exact fun G h m => ⟨_, h, rfl, rfl, m⟩
  | unsupported _ => exact fun _ h _ => h
  | finish _ => exact fun _ h _ => h
  | register _ _ => exact fun _ h _ => h
  | yield _ _ _ _ => exact fun _ h _ => h
  | fork _ _ => exact fun _ h _ => h
  | await _ _ _ _ _ => exact fun _ h _ => h
  | rule _ k ih => exact fun G h m => ih () G h m
  | «at» p' k ih => exact fun G h m => ih () G h m
  | load a _ k ih => exact fun G ⟨o, ho, h⟩ m => ⟨o, ho, ih o G h m⟩
  | update a _ f k ih => exact fun G ⟨ho, h⟩ m => ⟨ho, ih () G h m⟩
  | loadIfAlive a k ih => exact fun G h m => ih _ G h m
  | point _ k ih => exact fun G h m => ih () G h m
  | alloc o k ih => exact fun G h m => ih _ G h m
  | fresh k ih => exact fun G h m => ih _ G h m
  | ask k ih => exact fun G h m => ih _ G h m
  | choose src n k ih => exact fun G ⟨hn, h⟩ m => ⟨hn, ih _ G h m⟩
  | os q _ k ih => exact fun G h m => ih _ G h m
  | call c h g l k ih =>
    intro Q E p a G ⟨r, s', hr, hw⟩ m
    obtain ⟨_, b1, r1, m1⟩ := runs_mir (T := T) hr G .nil m
    exact ⟨r, wg s' b1, r1, ih r b1 hw m1⟩
  | handled own k ih => exact fun G h m => ih _ G h m
  | genState g k ih =>
    intro Q E p a G ⟨st, hs, h⟩ m
    obtain ⟨y, ey, es⟩ := m.seen hs
    exact ⟨y, ey, by rw [es]; exact ih _ G h m⟩
  | newGen c k ih =>
    intro Q E p a G h m
    have q := ih _ (G.push (.fresh c)) h (m.push c)
    show wp M Γ (k G.size) _ _ _ _
    rw [m.size]
    exact q
  | resume g r _ k ih =>
    intro Q E p a G ⟨res, s', hw, h⟩ m
    obtain ⟨b1, w1, m1⟩ := wakes_mir (T := T) hw G m
    exact ⟨res, wg s' b1, w1, ih res b1 h m1⟩
  | stack k ih => exact fun G h m => ih _ G h m
  | thread k ih => exact fun G h m => ih _ G h m

/-- every sleeper of the table G sleeps on in G' -/
def Asleep (G G' : Array GenState) : Prop := ∀ (g : Nat) (x : GenState), G[g]? = some x → sleeps x = true → G'[g]? = some x
theorem Asleep.refl {G : Array GenState} : Asleep G G := fun _ _ e _ => e
theorem Asleep.trans {G G1 G2 : Array GenState} (a : Asleep G G1) (b : Asleep G1 G2) : Asleep G G2 := fun g x e s => b g x (a g x e s) s
open PyProof.Rows in
/-- THE USE: what is proved of the table of the deaf is had for the true table, and the sleepers sleep on -/
theorem wpAny_asleep {M : Model} {A : Around} {α : Type} {t : Sem α} {Q : α → Shared → Prop} {E : Value → Shared → Prop} {s : Shared} (hb : AllBare s.gens)
    (h : wpAny M A t (fun x a => AllBare a.gens ∧ Q x a) (fun x a => AllBare a.gens ∧ E x a) (wg s (s.gens.map deaf))) :
    wpAny M A t (fun x s' => AllBare s'.gens ∧ Asleep s.gens s'.gens ∧ ∃ a, Q x a ∧ s' = wg a s'.gens) (fun x s' => AllBare s'.gens ∧ Asleep s.gens s'.gens ∧ ∃ a, E x a ∧ s' = wg a s'.gens) s := by
  intro Γ p hΓ
  have fin : ∀ {a s' : Shared}, AllBare a.gens → Mir s.gens a.gens s'.gens → AllBare s'.gens ∧ Asleep s.gens s'.gens := fun {a s'} ha m => by
    have sl : Asleep s.gens s'.gens := fun g x e sx => (m.at_ g x e sx).2
    refine ⟨fun y hy => ?_, sl⟩
    obtain ⟨i, hi, e⟩ := Array.mem_iff_getElem.mp hy
    have e' : s'.gens[i]? = some y := by rw [Array.getElem?_eq_getElem hi, e]
    by_cases q : ∃ z, s.gens[i]? = some z ∧ sleeps z = true
    · obtain ⟨z, ez, sz⟩ := q
      have e2 := sl i z ez sz
      rw [e'] at e2
      cases e2
      exact hb _ (Array.mem_of_getElem? ez)
    · have n : ∀ z : GenState, s.gens[i]? = some z → sleeps z = false := fun z ez => by
        cases sz : sleeps z with
        | false => rfl
        | true => exact absurd ⟨z, ez, sz⟩ q
      rw [m.oth i n] at e'
      exact ha _ (Array.mem_of_getElem? e')
  have q := wp_mir (T := s.gens) t s.gens (h Γ p hΓ) (Mir.start s.gens)
  refine Sem.wp_mono M Γ t (fun x p' s' hq => ?_) (fun x p' s' hq => ?_) p s q
  · obtain ⟨a, ⟨hba, hq⟩, _, es, m⟩ := hq
    obtain ⟨h1, h2⟩ := fin hba m
    exact ⟨h1, h2, a, hq, es⟩
  · obtain ⟨a, ⟨hba, hq⟩, _, es, m⟩ := hq
    obtain ⟨h1, h2⟩ := fin hba m
    exact ⟨h1, h2, a, hq, es⟩
end Gk

/-! Fw -/
set_option Elab.async false
set_option linter.all false
set_option maxRecDepth 100000
set_option maxHeartbeats 1000000
namespace Gk
open PySem PySem.Spec PyProof.Rows L2

/-! ### a heap cut at an address -/
def cut (h : Heap) (L : Addr) : Heap := { h with objs := h.objs.extract 0 L }
theorem ex_get {α : Type} (a : Array α) (L b : Nat) : (a.extract 0 L)[b]? = if b < L then a[b]? else none := by
  rw [Array.getElem?_extract]
  by_cases hb : b < L
  · by_cases hs : b < a.size
    · rw [if_pos hb, if_pos (by omega)]
      simp
    · rw [if_pos hb, if_neg (by omega), Array.getElem?_eq_none (by omega)]
  · rw [if_neg hb, if_neg (by omega)]
theorem cut_get (h : Heap) (L b : Addr) : (cut h L).get? b = if b < L then h.get? b else none := by
  have e : (cut h L).objs[b]? = if b < L then h.objs[b]? else none := ex_get h.objs L b
  unfold Heap.get?
  rw [e]
  by_cases hb : b < L
  · rw [if_pos hb, if_pos hb]
  · rw [if_neg hb, if_neg hb]
theorem cut_some {h : Heap} {L b : Addr} {o : Obj} : (cut h L).get? b = some o ↔ (b < L ∧ h.get? b = some o) := by
  rw [cut_get]
  by_cases hb : b < L
  · rw [if_pos hb]
    exact ⟨fun e => And.intro hb e, fun e => e.2⟩
  · rw [if_neg hb]
    exact ⟨fun e => (nomatch e), fun e => absurd e.1 hb⟩
theorem ex_size {α : Type} (a : Array α) (L : Nat) : (a.extract 0 L).size ≤ L := by
  rw [Array.size_extract]
  omega
theorem cut_size (h : Heap) (L : Addr) : (cut h L).objs.size ≤ L := ex_size h.objs L
theorem ex_ge {α : Type} (a : Array α) (L m : Nat) (h1 : L < a.size) (h2 : m ≤ L) : m ≤ (a.extract 0 L).size := by
  rw [Array.size_extract]
  omega

/-! ### a generator's body, and what it knows when it is woken -/
/-- where the body of a generator runs: its frame env, the frames around it -/
structure Bd where
  prog : Program
  w : World
  K : PySem.W.Frag
  mg : Str → Option Value
  base : Heap
  A : Around
  N : List Str
  env : Env
  outer : List Env
abbrev Bd.L (B : Bd) : Addr := B.env.locals
structure Bd.Ok (B : Bd) : Prop where
  mod : Mod B.K B.mg B.base
  kind : B.env.scope.kind = .function
  glob : B.env.globals = mainGlobals
  blt : B.env.builtins = builtinsNs
  nocell : B.env.cells = []
  names : ∀ y ∈ B.env.scope.names, y.2 ≠ .cell ∧ y.2 ≠ .free
  hd : B.A.handled = none
  frames : B.A.frames = some (B.env :: B.outer)
  fr : B.env.frame = some B.env.locals
  bsz : B.base.objs.size ≤ B.env.locals
  frL : ∀ b ∈ frs B.outer, b < B.env.locals
/-- the tuples that are known (TT), all else above the frame exactly as it stands but the private objects (pv) -/
def hpT (B : Bd) (TT : (Addr → Option (List V))) (pv : List Addr) (h : Heap) : Hp := fun b => match TT b with
  | some xs => (h.get? b).map fun o => .frz o (.tup xs)
  | none => if b < B.L ∨ b ∈ pv then none else (h.get? b).map fun o => .ext fun h' => h'.get? b = some o
def Bd.cx (B : Bd) (TT : (Addr → Option (List V))) (pv : List Addr) (s : Shared) : Cx where
  prog := B.prog
  w := B.w
  K := B.K
  mg := B.mg
  base := B.base
  A := B.A
  N := B.N
  s_0 := { s with heap := cut s.heap B.L }
  H_0 := fun b => if b < B.L then hpT B TT pv s.heap b else none
  env := B.env
  outer := B.outer
  stack := B.env :: B.outer
  ex := []
  fn := fun _ => true
  calm := true
  pn := []
  xe := fun _ _ => False
/-- the generator's state at its waking -/
structure Up (B : Bd) (TT : (Addr → Option (List V))) (pv : List Addr) (ip : List (Addr × Obj)) (σ : L2.St) (s : Shared) : Prop where
  bare : AllBare s.gens
  base : ∀ b o, B.base.get? b = some o → s.heap.get? b = some o
  funs : s.heap.FunFrames B.base B.outer
  tt : ∀ b xs, TT b = some xs → (xs.length ≤ sizeLine ∧ ∃ its : List Value, Vals xs its ∧ IsTup s.heap b its.toArray) ∧ B.base.get? b = none ∧ b ∉ frs B.outer ∧ b ∉ pv
  loc : ∃ m, s.heap.Ns B.L m ∧ ∀ (i : Nat) (x : Str) (v : V), B.N[i]? = some x → σ[i]? = some (some v) → Vis B.env.scope x → ∃ u, RelV v u ∧ m x = some u
  pin : ∀ p ∈ ip, s.heap.get? p.1 = some p.2 ∧ p.1 ∈ pv ∧ p.1 ≠ B.L ∧ ∀ v, p.2.data ≠ .cell v
  pvL : B.L ∈ pv
  pvA : ∀ b ∈ pv, B.L ≤ b
  len : σ.length = B.N.length
theorem lk_mem {x : Str} {k : NameKind} : ∀ {l : List (Str × NameKind)}, l.lookup x = some k → (x, k) ∈ l := fun h => PySem.mem_of_lookup h
theorem funFrames_cut {h base : Heap} {L : Addr} : ∀ {l : List Env}, h.FunFrames base l → (∀ b ∈ frs l, b < L) → (cut h L).FunFrames base l
  | [], _, _ => trivial
  | env :: r, ⟨hk, ⟨M, o, hf, hn, ho, hd⟩, hr⟩, hl => by
    have e : frs (env :: r) = M :: frs r := by unfold frs; rw [List.filterMap_cons, hf]
    rw [e] at hl
    exact ⟨hk, ⟨M, o, hf, hn, cut_some.mpr ⟨hl M List.mem_cons_self, ho⟩, hd⟩, funFrames_cut hr fun b hb => hl b (List.mem_cons_of_mem _ hb)⟩
section
variable {B : Bd} {TT : (Addr → Option (List V))} {pv : List Addr} {ip : List (Addr × Obj)} {σ : L2.St} {H : Hp} {s s' : Shared}
theorem hpT_out {b : Addr} {h : Heap} (h1 : TT b = none) (h2 : b < B.L ∨ b ∈ pv) : hpT B TT pv h b = none := by
  unfold hpT
  rw [h1]
  exact if_pos h2
theorem hpT_tt {b : Addr} {h : Heap} {xs : List V} {o : Obj} (h1 : TT b = some xs) (h2 : h.get? b = some o) : hpT B TT pv h b = some (.frz o (.tup xs)) := by
  unfold hpT
  rw [h1, h2]
  rfl
theorem hpT_ext {b : Addr} {h : Heap} {o : Obj} (h1 : TT b = none) (h2 : ¬ (b < B.L ∨ b ∈ pv)) (h3 : h.get? b = some o) : hpT B TT pv h b = some (.ext fun h' => h'.get? b = some o) := by
  unfold hpT
  rw [h1]
  show (if _ then _ else _) = _
  rw [if_neg h2, h3]
  rfl
/-- what the abstract heap at the waking says -/
theorem hpT_cases {b : Addr} {h : Heap} {u : HO} (e : hpT B TT pv h b = some u) : ∃ o, h.get? b = some o ∧ ((∃ xs, TT b = some xs ∧ u = .frz o (.tup xs)) ∨ (TT b = none ∧ ¬ (b < B.L ∨ b ∈ pv) ∧ u = .ext fun h' => h'.get? b = some o)) := by
  unfold hpT at e
  cases q : TT b with
  | some xs =>
    rw [q] at e
    cases g : h.get? b with
    | none => rw [g] at e; cases e
    | some o =>
      rw [g] at e
      exact ⟨o, rfl, .inl ⟨xs, rfl, (Option.some.inj e).symm⟩⟩
  | none =>
    rw [q] at e
    have e' : (if b < B.L ∨ b ∈ pv then none else (h.get? b).map fun o => HO.ext fun h' => h'.get? b = some o) = some u := e
    by_cases c : b < B.L ∨ b ∈ pv
    · rw [if_pos c] at e'; cases e'
    · rw [if_neg c] at e'
      cases g : h.get? b with
      | none => rw [g] at e'; cases e'
      | some o =>
        rw [g] at e'
        exact ⟨o, rfl, .inr ⟨rfl, c, (Option.some.inj e').symm⟩⟩
theorem Up.noTT (U : Up B TT pv ip σ s) {b : Addr} (h : (B.base.get? b).isSome = true ∨ b ∈ frs B.outer ∨ b ∈ pv) : TT b = none := by
  cases e : TT b with
  | none => rfl
  | some xs =>
    obtain ⟨_, h1, h2, h3⟩ := U.tt b xs e
    rcases h with h | h | h
    · rw [h1] at h; cases h
    · exact absurd h h2
    · exact absurd h h3
/-- WAKING: the invariant of the layer, anew -/
theorem Up.inv (ok : B.Ok) (U : Up B TT pv ip σ s) : Inv (B.cx TT pv s) ip σ (hpT B TT pv s.heap) s := by
  have nc : ∀ x, B.env.kindOf x ≠ some .cell := fun x e => (ok.names _ (lk_mem e)).1 rfl
  have nf : ∀ x, B.env.kindOf x ≠ some .free := fun x e => (ok.names _ (lk_mem e)).2 rfl
  have cl0 : ∀ x c, B.env.cells.lookup x = some c → False := fun x c e => by rw [ok.nocell] at e; cases e
  have bL : ∀ b o, B.base.get? b = some o → b < B.L := fun b o e => Nat.lt_of_lt_of_le (Heap.lt_size e) ok.bsz
  have baseN : ∀ b o, B.base.get? b = some o → hpT B TT pv s.heap b = none := fun b o e => hpT_out (U.noTT (.inl (by rw [e]; rfl))) (.inl (bL b o e))
  have frN : ∀ b ∈ frs B.outer, hpT B TT pv s.heap b = none := fun b hb => hpT_out (U.noTT (.inr (.inl hb))) (.inl (ok.frL b hb))
  have pvN : ∀ b ∈ pv, hpT B TT pv s.heap b = none := fun b hb => hpT_out (U.noTT (.inr (.inr hb))) (.inr hb)
  have h0 : ∀ b, b < B.L → (B.cx TT pv s).H_0 b = hpT B TT pv s.heap b := fun b hb => if_pos hb
  refine ⟨⟨ok.mod, ok.kind, ok.glob, ok.blt, cut_size _ _, fun x y c h1 _ => (cl0 x c h1).elim, fun x h => ?_, fun x c _ h1 => (cl0 x c h1).elim, fun _ => ok.hd, ok.frames, .inr ⟨rfl, ok.fr⟩, fun b hb => (nomatch hb), fun b o e => ?_, ?_, fun b _ _ hb => (nomatch hb), fun b hb => (nomatch hb), funFrames_cut U.funs ok.frL, fun b hb => ?_⟩,
    rfl, U.bare, ?_, ?_, fun x c e => (cl0 x c e).elim, pvN _ U.pvL, fun x c e => (cl0 x c e).elim, fun p hp => ?_, fun b u e => ?_, U.len⟩
  · rcases h with h | h
    · exact absurd h (nc x)
    · exact absurd h (nf x)
  · exact ⟨cut_some.mpr ⟨bL b o e, U.base b o e⟩, (h0 b (bL b o e)).trans (baseN b o e)⟩
  · exact ex_ge s.heap.objs B.L _ (let ⟨_, hn, _⟩ := U.loc; hn.lt) ok.bsz
  · exact (h0 b (ok.frL b hb)).trans (frN b hb)
  · have lt : ∀ b o, (cut s.heap B.L).get? b = some o → b < B.L ∧ s.heap.get? b = some o := fun b o e => cut_some.mp e
    refine ⟨fun b o e n _ _ => (lt b o e).2, fun b o e n _ _ => ⟨o.slots, (lt b o e).2⟩, fun b o e n _ => ?_, fun b o e _ => ⟨o, (lt b o e).2⟩, fun b xs e => ?_, fun b o u e => ?_, fun b ps e => ?_⟩
    · have n' : (if b < B.L then hpT B TT pv s.heap b else none) = none := n
      rw [if_pos (lt b o e).1] at n'
      exact n'
    all_goals
      have e' : (if b < B.L then hpT B TT pv s.heap b else none) = _ := e
      by_cases c : b < B.L
      · rw [if_pos c] at e'
        first
          | exact e'
          | exact ⟨#[], by rw [e']; simp⟩
      · rw [if_neg c] at e'; cases e'
  · obtain ⟨m, hn, hl⟩ := U.loc
    refine ⟨m, hn, fun i x v h1 h2 h3 => ?_⟩
    obtain ⟨u, r, e⟩ := hl i x v h1 h2 h3
    refine ⟨u, r, .inl ⟨?_, e⟩⟩
    rcases h3 with h3 | h3 | h3
    · exact h3
    · exact absurd h3 (nc x)
    · exact absurd h3 (nf x)
  · obtain ⟨h1, h2, h3, h4⟩ := U.pin p (by simpa [Bd.cx] using hp)
    refine ⟨h1, pvN _ h2, h3, fun z => ?_, h4⟩
    have := ok.frL p.1 z
    have h5 := U.pvA p.1 h2
    exact absurd this (Nat.not_lt.mpr h5)
  · obtain ⟨o, ho, c⟩ := hpT_cases e
    rcases c with ⟨xs, hx, rfl⟩ | ⟨_, _, rfl⟩
    · obtain ⟨⟨hl, its, rv, ht⟩, _⟩ := U.tt b xs hx
      exact ⟨ho, hl, its, rv, ht⟩
    · exact ⟨ho, ⟨o, ho⟩, fun h1 h2 p k => k o p⟩
/-- what stands behind a piece of the body: all objects but the private ones are kept -/
theorem kept_of (I : Inv (B.cx TT pv s) ip σ H s') (hs : ∀ b u, hpT B TT pv s.heap b = some u → H b = some u) : ∀ b o, b ∉ pv → b ∉ frs B.outer → s.heap.get? b = some o → s'.heap.get? b = some o := fun b o h1 h2 e => by
  cases q : hpT B TT pv s.heap b with
  | some u =>
    obtain ⟨o', ho', c⟩ := hpT_cases q
    rw [e] at ho'
    cases ho'
    have k := I.hok b u (hs b u q)
    rcases c with ⟨xs, _, rfl⟩ | ⟨_, _, rfl⟩
    · exact k.1
    · exact k.1
  | none =>
    have hb : b < B.L := by
      by_cases c : b < B.L
      · exact c
      · cases g : TT b with
        | some xs => rw [hpT_tt g e] at q; cases q
        | none => rw [hpT_ext g (fun z => z.elim c h1) e] at q; cases q
    refine I.base.keep b o (cut_some.mpr ⟨hb, e⟩) ?_ h2 (fun z => nomatch z)
    show (if b < B.L then hpT B TT pv s.heap b else none) = none
    rw [if_pos hb, q]
/-- SLEEPING: what is known is known again -/
theorem Up.of (ok : B.Ok) (I : Inv (B.cx TT pv s) ip σ H s') {TT' : (Addr → Option (List V))} {pv' : List Addr} (h1 : ∀ b xs, TT' b = some xs → Rd H b (.tup xs)) (h2 : B.L ∈ pv') (h3 : ∀ b ∈ pv', B.L ≤ b ∧ H b = none) (h4 : ∀ p ∈ ip, p.1 ∈ pv') :
    Up B TT' pv' ip σ s' where
  bare := I.bare
  base := I.bk
  funs := I.funs
  tt := fun b xs e => by
    have r := h1 b xs e
    have hn : H b ≠ none := by
      rcases r with r | ⟨o, r⟩
      · rw [r]; exact fun z => nomatch z
      · rw [r]; exact fun z => nomatch z
    refine ⟨r.ok I.hok, ?_, fun z => ?_, fun z => hn (h3 b z).2⟩
    · cases q : B.base.get? b with
      | none => rfl
      | some o => exact absurd (I.bs b o q).2 hn
    · refine hn (I.stkFree b ?_)
      show b ∈ frs (B.env :: B.outer)
      unfold frs
      rw [List.filterMap_cons, ok.fr]
      exact List.mem_cons_of_mem _ z
  loc := by
    obtain ⟨m, hn, hl⟩ := I.loc
    refine ⟨m, hn, fun i x v e1 e2 e3 => ?_⟩
    obtain ⟨u, r, l⟩ := hl i x v e1 e2 e3
    refine ⟨u, r, ?_⟩
    rcases l with ⟨_, e⟩ | ⟨_, c, e, _⟩
    · exact e
    · have e' : B.env.cells.lookup x = some c := e
      rw [ok.nocell] at e'
      cases e'
  pin := fun p hp => by
    obtain ⟨q1, _, q3, _, q5⟩ := I.pin p (List.mem_append_right _ hp)
    exact ⟨q1, h4 p hp, q3, q5⟩
  pvL := h2
  pvA := fun b hb => (h3 b hb).1
  len := I.len
/-- while it sleeps -/
theorem Up.move (U : Up B TT pv ip σ s) (hb : AllBare s'.gens) (h1 : ∀ b o, B.base.get? b = some o → s'.heap.get? b = some o) (h2 : s'.heap.FunFrames B.base B.outer) (h3 : ∀ b ∈ pv, ∀ o, s.heap.get? b = some o → s'.heap.get? b = some o)
    (h4 : ∀ b xs, TT b = some xs → ∃ its : List Value, Vals xs its ∧ IsTup s'.heap b its.toArray) : Up B TT pv ip σ s' where
  bare := hb
  base := h1
  funs := h2
  tt := fun b xs e => let ⟨⟨l, _⟩, r⟩ := U.tt b xs e; ⟨⟨l, h4 b xs e⟩, r⟩
  loc := let ⟨m, ⟨o, es, ep, ho, r⟩, hl⟩ := U.loc; ⟨m, ⟨o, es, ep, h3 _ U.pvL o ho, r⟩, hl⟩
  pin := fun p hp => let ⟨q1, q2, q3, q4⟩ := U.pin p hp; ⟨h3 _ q2 _ q1, q2, q3, q4⟩
  pvL := U.pvL
  pvA := U.pvA
  len := U.len
end

/-! ### pieces of a body: the sleepers sleep on -/
section
variable {X : Cx} {pins : List (Addr × Obj)} {σ : L2.St} {H : Hp} {s : Shared} {G : Array GenState}
theorem inv_wg (I : Inv X pins σ H s) (hG : AllBare G) : Inv X pins σ H (wg s G) := ⟨I.ok, I.os, hG, I.base, I.loc, I.cell, I.free, I.freeC, I.pin, I.hok, I.len⟩
theorem deaf_all (h : AllBare G) : AllBare (G.map deaf) := fun y hy => by
  obtain ⟨x, hx, rfl⟩ := Array.mem_map.mp hy
  exact deaf_bare (h x hx)
theorem asl {M : Model} {A : Around} {α : Type} {t : Sem α} {Q : α → Shared → Prop} {E : Value → Shared → Prop} (hE : ∀ x a, ¬ E x a) (I : Inv X pins σ H s) (h : ∀ s, Inv X pins σ H s → wpAny M A t Q E s) (hQ : ∀ x a, Q x a → AllBare a.gens) :
    wpAny M A t (fun x s' => Asleep s.gens s'.gens ∧ ∃ a, Q x a ∧ AllBare s'.gens ∧ s' = wg a s'.gens) (fun _ _ => False) s := by
  have q := h (wg s (s.gens.map deaf)) (inv_wg I (deaf_all I.bare))
  refine wpAny_mono (wpAny_asleep (Q := Q) (E := fun _ _ => False) I.bare (wpAny_mono q (fun x a hx => ⟨hQ x a hx, hx⟩) fun x a hx => (hE x a hx).elim)) (fun x s' hx => ?_) fun x s' hx => ?_
  · obtain ⟨h1, h2, a, h3, h4⟩ := hx
    exact ⟨h2, a, h3, h1, h4⟩
  · obtain ⟨_, _, _, h3, _⟩ := hx
    exact h3
theorem SP.bare {D : Ends} {f : Flow} {a : Shared} (h : SP X pins D f a) : AllBare a.gens := by
  cases f with
  | next => obtain ⟨_, _, I, _⟩ := h; exact I.bare
  | brk => obtain ⟨_, _, I, _⟩ := h; exact I.bare
  | cont => obtain ⟨_, _, I, _⟩ := h; exact I.bare
  | ret u => obtain ⟨_, _, _, I, _⟩ := h; exact I.bare
theorem SP.wg {D : Ends} {f : Flow} {a : Shared} (h : SP X pins D f a) (hG : AllBare G) : SP X pins D f (wg a G) := by
  cases f with
  | next => obtain ⟨σ', H', I, q⟩ := h; exact ⟨σ', H', inv_wg I hG, q⟩
  | brk => obtain ⟨σ', H', I, q⟩ := h; exact ⟨σ', H', inv_wg I hG, q⟩
  | cont => obtain ⟨σ', H', I, q⟩ := h; exact ⟨σ', H', inv_wg I hG, q⟩
  | ret u => obtain ⟨v, σ', H', I, r, q⟩ := h; exact ⟨v, σ', H', inv_wg I hG, r, q⟩
theorem ps_asleep {st : Stmt} {t : TS} {D : Ends} (h : PS X st t) (hE : ∀ x a, ¬ X.xe x a) (I : Inv X pins σ H s) (ht : t D σ H) :
    wpAny (model X.prog X.w) X.A (exec st X.env) (fun f s' => Asleep s.gens s'.gens ∧ SP X pins D f s') (fun _ _ => False) s :=
  wpAny_mono (asl hE I (fun s I => h.run pins s σ H D I ht) fun f a hs => SP.bare hs) (fun f s' ⟨h1, a, h2, h3, h4⟩ => ⟨h1, by rw [h4]; exact SP.wg h2 h3⟩) fun _ _ z => z
theorem pe_asleep {e : Expr} {t : TE} {Q : VK} (h : PE X e t) (hE : ∀ x a, ¬ X.xe x a) (I : Inv X pins σ H s) (ht : t σ H Q) :
    wpAny (model X.prog X.w) X.A (eval e X.env) (fun u s' => Asleep s.gens s'.gens ∧ EP X pins σ Q u s') (fun _ _ => False) s :=
  wpAny_mono (asl hE I (fun s I => h.run pins s σ H Q I ht) fun f a ⟨_, _, I', _⟩ => I'.bare) (fun f s' ⟨h1, a, ⟨v, H', I', r⟩, h3, h4⟩ => ⟨h1, by rw [h4]; exact ⟨v, H', inv_wg I' h3, r⟩⟩) fun _ _ z => z
theorem pt_asleep {e : Expr} {t : TT} {Q : Bool → Hp → Prop} (h : PT X e t) (hE : ∀ x a, ¬ X.xe x a) (I : Inv X pins σ H s) (ht : t σ H Q) :
    wpAny (model X.prog X.w) X.A (isTrue e X.env (eval e X.env)) (fun b s' => Asleep s.gens s'.gens ∧ TP X pins σ Q b s') (fun _ _ => False) s :=
  wpAny_mono (asl hE I (fun s I => h.run pins s σ H Q I ht) fun f a ⟨_, I', _⟩ => I'.bare) (fun f s' ⟨h1, a, ⟨H', I', r⟩, h3, h4⟩ => ⟨h1, by rw [h4]; exact ⟨H', inv_wg I' h3, r⟩⟩) fun _ _ z => z
theorem pg_asleep {tg : Expr} {t : TG} {v : V} {u : Value} {Q : L2.St → Hp → Prop} (h : PG X tg t) (hE : ∀ x a, ¬ X.xe x a) (I : Inv X pins σ H s) (r : RelV v u) (ht : t v σ H Q) :
    wpAny (model X.prog X.w) X.A (assign tg X.env u) (fun _ s' => Asleep s.gens s'.gens ∧ ∃ σ' H', Inv X pins σ' H' s' ∧ Q σ' H') (fun _ _ => False) s :=
  wpAny_mono (asl hE I (fun s I => h.run pins s σ H v u Q I r ht) fun f a ⟨_, _, I', _⟩ => I'.bare) (fun f s' ⟨h1, a, ⟨σ', H', I', r⟩, h3, h4⟩ => ⟨h1, by rw [h4]; exact ⟨σ', H', inv_wg I' h3, r⟩⟩) fun _ _ z => z
end
end Gk

/-! Go -/
set_option Elab.async false
set_option linter.all false
set_option maxRecDepth 100000
set_option maxHeartbeats 1000000
namespace Gk
open PySem PySem.Spec PyProof.Rows L2
/-- a generator's code up to its next yield, or its end -/
def Go (M : Model) (A : Around) (F : End → Shared → Prop) (c : Code) (t : Sem PySem.Fin) (fs : List Frame) (s : Shared) : Prop :=
  ∀ (Γ : PySem.Ctx) (p : Pos), Γ.code = c → Γ.Woken A → ∃ e s', Runs M Γ p t fs s e s' ∧ F e s'
section
variable {M : Model} {A : Around} {F : End → Shared → Prop} {c : Code} {fs : List Frame} {s : Shared} {env : Env}
theorem go_wrap {α : Type} {m : Sem α} {K : α → Sem PySem.Fin} {J : Value → Sem PySem.Fin} {gd : Bool → Bool} {lv : List Value → List Value}
    (h : wpAny M (A.over c fs) m (fun a s' => Go M A F c (K a) fs s') (fun x s' => Go M A F c (J x) fs s') s) : Go M A F c (m.wrap K J gd lv) fs s := by
  intro Γ p hc hΓ
  subst hc
  exact runs_wrap_of_wp K J gd lv m (h (Γ.over fs) p (hΓ.over fs)) (fun a p' s' h' => h' Γ p' rfl hΓ) fun x p' s' h' => h' Γ p' rfl hΓ
theorem go_bind {α β : Type} {m : Sem α} {f : α → Sem β} {K : β → Sem PySem.Fin} {J : Value → Sem PySem.Fin} {gd : Bool → Bool} {lv : List Value → List Value}
    (h : wpAny M (A.over c fs) m (fun a s' => Go M A F c ((f a).wrap K J gd lv) fs s') (fun x s' => Go M A F c (J x) fs s') s) : Go M A F c ((m >>= f).wrap K J gd lv) fs s := by
  rw [Sem.bind_eq_wrap', Sem.wrap_wrap]
  exact go_wrap h
theorem go_call {c' : Code} {h : Option Value} {g : Bool} {l : List Value} {k : Result → Sem PySem.Fin} (hc : ∀ p, Go M A F c' (M.den c') (.ret k h g l c p [] :: fs) s) : Go M A F c (.call c' h g l k) fs s := by
  intro Γ p e hΓ
  subst e
  obtain ⟨e, s', hr, he⟩ := hc p (Γ.goto c') p rfl (hΓ.goto c')
  exact ⟨e, s', runs_call_seg hr, he⟩
theorem go_leaf {k : Result → Sem PySem.Fin} {h g l c₁ p₁ kp} (r : Result) (hk : Go M A F c₁ (k r) fs s) : Go M A F c (leafOf r) (.ret k h g l c₁ p₁ kp :: fs) s := by
  intro Γ p e hΓ
  subst e
  obtain ⟨e, s', hr, he⟩ := hk (Γ.goto c₁) p₁ rfl (hΓ.goto c₁)
  exact ⟨e, s', Runs.pop r hr, he⟩
theorem go_again {c' : Code} (hq : c'.quiet = true) (hc : Go M A F c' (M.den c') fs s) : Go M A F c (.pure (.again c')) fs s := by
  intro Γ p e hΓ
  subst e
  obtain ⟨e, s', hr, he⟩ := hc (Γ.goto c') p rfl (hΓ.goto c')
  exact ⟨e, s', Runs.head (c₁ := c') (fun _ _ x => .again hq x) hr, he⟩
theorem go_end (r : Result) (h : F (.ret r) s) : Go M A F c (leafOf r) [] s := by
  intro Γ p e _
  subst e
  exact ⟨.ret r, s, Runs.leaf r, h⟩
theorem go_yield {v : Value} {g : Bool} {l : List Value} {k : Resume → Sem PySem.Fin} (hfs : splitAtGen fs = none) (h : ∀ p, F (.susp v g l k c p fs) s) : Go M A F c (.yield v g l k) fs s := by
  intro Γ p e _
  subst e
  exact ⟨_, s, Runs.yield' fs hfs, h p⟩
theorem go_cons {st : Stmt} {rest : List Stmt} {K : Flow → Sem PySem.Fin} {J : Value → Sem PySem.Fin} {gd : Bool → Bool} {lv : List Value → List Value}
    (h : Go M A F c ((exec st env).wrap (fun f => match f with | .next => (execs rest env).wrap K J gd lv | f => K f) J gd lv) fs s) : Go M A F c ((execs (st :: rest) env).wrap K J gd lv) fs s := by
  rw [execs_cons_wrap]
  exact h
theorem go_nil {K : Flow → Sem PySem.Fin} {J : Value → Sem PySem.Fin} {gd : Bool → Bool} {lv : List Value → List Value} (h : Go M A F c (K .next) fs s) : Go M A F c ((execs [] env).wrap K J gd lv) fs s := h
/-- yield e, as a statement -/
theorem go_yields {e : Expr} {yp pos : Pos} {K : Flow → Sem PySem.Fin} {J : Value → Sem PySem.Fin} {gd : Bool → Bool} {lv : List Value → List Value} {A' : Around} (hfs : splitAtGen fs = none) (hA : A.over c fs = A')
    (h : wpAny M A' (eval e env) (fun v s' => ∀ (k : Resume → Sem PySem.Fin) (l : List Value) (p : Pos), k (.send .none) = K .next → F (.susp v (gd false) l k c p fs) s') (fun _ _ => False) s)
    (hco : env.scope.isCoroutine = false := by rfl) (hi : interactive env = false := by rfl) : Go M A F c ((exec (.Expr (.Yield (some e) yp) pos) env).wrap K J gd lv) fs s := by
  subst hA
  rw [exec_Expr env _ pos hi rfl]
  refine go_bind (wpAny_standAt ?_)
  show Go M A F c ((((eval e env >>= fun v => (standAt yp >>= fun _ => yieldOut env v))) >>= fun x => dropValue (.Yield (some e) yp) pos x).wrap K J gd lv) fs s
  have hy : ∀ v, yieldOut env v = yieldValue v := fun v => by simp only [yieldOut, hco, Bool.false_eq_true, if_false]
  simp only [hy]
  rw [Sem.bind_eq_wrap', Sem.bind_eq_wrap', Sem.wrap_wrap, Sem.wrap_wrap]
  refine go_wrap (wpAny_mono h (fun v s' h' => ?_) fun _ _ x => False.elim x)
  refine go_bind (wpAny_standAt ?_)
  exact go_yield hfs fun p => h' _ _ p rfl
end
section
variable {P : Program} {w : World} {A : Around} {F : End → Shared → Prop} {s₀ s : Shared} {c : Code} {fs : List Frame} {env : Env}
  {K : Flow → Sem PySem.Fin} {J : Value → Sem PySem.Fin} {gd : Bool → Bool} {lv : List Value → List Value}
abbrev NoE : Value → Shared → Prop := fun _ _ => False
/-- what a loop's frame does when its code comes back -/
def backK (env : Env) (K : Flow → Sem PySem.Fin) (J : Value → Sem PySem.Fin) (gd : Bool → Bool) (lv : List Value → List Value) : Result → Sem PySem.Fin := fun r =>
  ((match r with | .ok f => (.pure f : Sem Flow) | .error e => .raise e).onRaise fun (x : Value) => do
    if (← field x 1) == Value.none then unsupported "frame.own-activation:exception-without-traceback"
    setFlight x env.frame).wrap K J gd lv
theorem backK_ok {f : Flow} : backK env K J gd lv (.ok f) = K f := rfl
theorem sg_if {test : Expr} {a b : List Stmt} {pos : Pos} {A' : Around} (hA : A.over c fs = A') (h : wpAny (model P w) A' (isTrue test env (eval test env)) (fun d s' => Go (model P w) A F c ((execs (if d = true then a else b) env).wrap K J gd lv) fs s') NoE s) :
    Go (model P w) A F c ((exec (.If test a b pos) env).wrap K J gd lv) fs s := by
  subst hA
  rw [arm_exec_If]
  refine go_bind (wpAny_standAt ?_)
  refine go_bind (wpAny_mono h (fun d s' hd => ?_) fun _ _ z => False.elim z)
  cases d with
  | true => exact hd
  | false => exact hd
theorem sg_for {tg iter : Expr} {body : List Stmt} {pos : Pos} {A' : Around} (hA : A.over c fs = A')
    (h : wpAny (model P w) A' (eval iter env) (fun x s1 => wpAny (model P w) A' (pyIter x) (fun it s2 => ∀ p,
      Go (model P w) A F (.forLoop tg it body [] env) ((model P w).den (.forLoop tg it body [] env)) (.ret (backK env K J gd lv) none (gd false) (lv []) c p [] :: fs) s2) NoE s1) NoE s)
    (hs : ∀ x, foldedSetIterable iter env x = pure x := by intro _; rfl) : Go (model P w) A F c ((exec (.For tg iter body [] pos) env).wrap K J gd lv) fs s := by
  subst hA
  rw [arm_exec_For]
  refine go_bind (wpAny_standAt ?_)
  refine go_bind (wpAny_mono h (fun x s1 hx => ?_) fun _ _ z => False.elim z)
  refine go_bind (wpAny_of_eq (hs x) ?_)
  refine go_bind (wpAny_standAt ?_)
  refine go_bind (wpAny_holding (wpAny_mono hx (fun it s2 hi => ?_) fun _ _ z => False.elim z))
  exact go_call hi
/-- one turn -/
theorem sg_turn {tg : Expr} {it : Value} {body : List Stmt}
    (h : wpAny (model P w) (A.over (.forLoop tg it body [] env) fs) (pyNext it) (fun r s1 => match r with
      | none => Go (model P w) A F (.block [] env) (leafOf (.ok .next)) fs s1
      | some v => wpAny (model P w) (A.over (.forLoop tg it body [] env) fs) (letOwnedTupleGo tg it v) (fun _ s2 => wpAny (model P w) (A.over (.forLoop tg it body [] env) fs) (assign tg env v) (fun _ s3 =>
          Go (model P w) A F (.forLoop tg it body [] env) ((execs body env).wrap (fun f => match f with
            | .next | .cont => .pure (.again (.forLoop tg it body [] env))
            | .brk => .pure (.done .next)
            | .ret v => .pure (.done (.ret v))) (fun e => (do noteFrame e env; theTreesLotGoes e : Sem Unit).wrap (fun _ => .raise e) .raise id id) id id) fs s3) NoE s2) NoE s1) NoE s) :
    Go (model P w) A F (.forLoop tg it body [] env) ((model P w).den (.forLoop tg it body [] env)) fs s := by
  show Go _ A F _ ((forTurn tg it body [] env).onRaise (fun x => do noteFrame x env; theTreesLotGoes x)) fs s
  unfold forTurn
  rw [Sem.onRaise_eq_wrap]
  refine go_bind (wpAny_standAt ?_)
  refine go_bind (wpAny_onRaise (wpAny_mono h (fun r s1 hr => ?_) fun _ _ z => False.elim z))
  cases r with
  | none =>
    refine go_again rfl ?_
    show Go _ A F _ (((execs [] env).onRaise (fun x => do noteFrame x env; theTreesLotGoes x)) >>= fun f => pure (.done f)) fs s1
    exact hr
  | some v =>
    refine go_bind (wpAny_mono hr (fun _ s2 h2 => ?_) fun _ _ z => False.elim z)
    refine go_bind (wpAny_mono h2 (fun _ s3 h3 => ?_) fun _ _ z => False.elim z)
    rw [Sem.bind_eq_wrap', Sem.wrap_wrap]
    rw [Sem.wrap_congr (execs body env) _ _ (K' := fun f => match f with
            | .next | .cont => .pure (.again (.forLoop tg it body [] env))
            | .brk => .pure (.done .next)
            | .ret v => .pure (.done (.ret v))) (H' := (fun e => (do noteFrame e env; theTreesLotGoes e : Sem Unit).wrap (fun _ => .raise e) .raise id id))
        (fun f => by cases f <;> rfl)
        (fun e => by first | exact Sem.bind_eq_wrap _ _ | (show (do noteFrame e env; theTreesLotGoes e : Sem Unit).bind (fun _ => .raise e) = _; rw [Sem.bind_eq_wrap]))]
    exact h3
/-- behind the last turn, the loop's frame goes -/
theorem sg_done {k : Result → Sem PySem.Fin} {c' : Code} {h g l p kp} (hk : Go (model P w) A F c (k (.ok .next)) fs s) : Go (model P w) A F c' (leafOf (.ok .next)) (.ret k h g l c p kp :: fs) s := go_leaf (.ok .next) hk
theorem sg_ps {B : Bd} {TT : (Addr → Option (List V))} {pv : List Addr} {ip : List (Addr × Obj)} {σ : L2.St} {H : Hp} {st : Stmt} {t : TS} {D : Ends} (h : PS (B.cx TT pv s₀) st t) (hA : A.over c fs = B.A) (I : Inv (B.cx TT pv s₀) ip σ H s) (ht : t D σ H)
    (k : ∀ f s', Asleep s.gens s'.gens → SP (B.cx TT pv s₀) ip D f s' → Go (model B.prog B.w) A F c (K f) fs s') : Go (model B.prog B.w) A F c ((exec st B.env).wrap K J gd lv) fs s :=
  go_wrap (by rw [hA]; exact wpAny_mono (ps_asleep h (fun _ _ z => z) I ht) (fun f s' hq => k f s' hq.1 hq.2) fun _ _ z => False.elim z)
/-- .. that goes on behind itself -/
theorem sg_nx {B : Bd} {TT : (Addr → Option (List V))} {pv : List Addr} {ip : List (Addr × Obj)} {σ : L2.St} {H : Hp} {st : Stmt} {rest : List Stmt} {t : TS} {N : L2.St → Hp → Prop} (h : PS (B.cx TT pv s₀) st t) (hA : A.over c fs = B.A) (I : Inv (B.cx TT pv s₀) ip σ H s)
    (ht : t { nx := N, rt := fun _ _ => False } σ H)
    (k : ∀ σ' H' s', Asleep s.gens s'.gens → Inv (B.cx TT pv s₀) ip σ' H' s' → N σ' H' → Go (model B.prog B.w) A F c ((execs rest B.env).wrap K J gd lv) fs s') : Go (model B.prog B.w) A F c ((execs (st :: rest) B.env).wrap K J gd lv) fs s := by
  refine go_cons (sg_ps h hA I ht fun f s' ha hs => ?_)
  cases f with
  | next => obtain ⟨σ', H', I', q⟩ := hs; exact k σ' H' s' ha I' q
  | brk => obtain ⟨_, _, _, q⟩ := hs; exact q.elim
  | cont => obtain ⟨_, _, _, q⟩ := hs; exact q.elim
  | ret u => obtain ⟨_, _, _, _, _, q⟩ := hs; exact q.elim
end
end Gk

/-! Nx -/
set_option Elab.async false
set_option linter.all false
set_option maxRecDepth 100000
set_option maxHeartbeats 1000000
namespace Gk
open PySem PySem.Spec PyProof.Rows L2
/-! ### the waking of a generator -/
/-- a generator that has not begun, or sleeps, is woken -/
def Wk (M : Model) (A : Around) (F : End → Shared → Prop) (gs : GenState) (s : Shared) : Prop :=
  match gs with
  | .fresh c => Go M A F c (M.den c) [] s
  | .suspended k _ c _ fs _ => Go M A F c (k (.send .none)) fs s
  | _ => False
theorem wp_resume {M : Model} {A : Around} {F : End → Shared → Prop} {E : Value → Shared → Prop} {s : Shared} {g : Nat} {gs : GenState} {l : List Value} {α : Type} {k : GenResult → Sem α} {Q : α → Shared → Prop} (hg : s.gens[g]? = some gs)
    (hw : Wk M A F gs (s.setGen g .running)) (hF : ∀ e s1, F e s1 → s.gens.size ≤ s1.gens.size → e.quiet = true ∧ wpAny M A (k e.result) Q E (s1.setGen g e.genState)) : wpAny M A (.resume g (.send .none) l k) Q E s := by
  intro Γ p hΓ
  rw [Sem.wp_resume]
  have sz : ∀ {Γ p t fs e s1}, Runs M Γ p t fs (s.setGen g .running) e s1 → s.gens.size ≤ s1.gens.size := fun {Γ p t fs e s1} hr => by
    have q := GenW.runs_gsz hr
    rw [GenW.setGen_size] at q
    exact q
  cases gs with
  | fresh c =>
    obtain ⟨e, s1, hr, he⟩ := hw (Γ.wake c p) p rfl (hΓ.wake c p)
    obtain ⟨hq, h⟩ := hF e s1 he (sz hr)
    exact ⟨_, _, by unfold Wakes; rw [hg]; exact ⟨e, s1, hr, hq, rfl, rfl⟩, h Γ p hΓ⟩
  | suspended k₀ l₀ c p₀ fs cl =>
    obtain ⟨e, s1, hr, he⟩ := hw (Γ.wake c p) p₀ rfl (hΓ.wake c p)
    obtain ⟨hq, h⟩ := hF e s1 he (sz hr)
    exact ⟨_, _, by unfold Wakes; rw [hg]; exact ⟨e, s1, hr, hq, rfl, rfl⟩, h Γ p hΓ⟩
  | running => exact hw.elim
  | finished => exact hw.elim
section
variable {P : Program} {w : World} {A : Around} {F : End → Shared → Prop} {E : Value → Shared → Prop} {s : Shared} {a : Addr} {g : Nat} {gs : GenState}
/-- it hands out v -/
def Out (Q : Value → Shared → Prop) (g : Nat) (e : End) (s1 : Shared) : Prop := ∃ v gd l k c p fs, e = .susp v gd l k c p fs ∧ e.quiet = true ∧ Q v (s1.setGen g e.genState)
/-- it has ended: an exception x at hand -/
def Ended (E : Value → Shared → Prop) (g : Nat) (e : End) (s1 : Shared) : Prop := (e = .ret (.ok (.ret .none)) ∨ e = .ret (.ok .next)) ∧
  ∀ h' x, (∀ b o, s1.heap.get? b = some o → h'.get? b = some o) → (∃ o, h'.get? x = some o ∧ o.cls = .type "StopIteration") → E (.ref x) { s1.setGen g .finished with heap := h' }
theorem call_next {Q : Option Value → Shared → Prop} (hh : A.handled = none) (hl : s.heap.NoLimit) (hroom : A.depth < recursionLimit) (hg : s.heap.IsGen a g) (hgs : s.gens[g]? = some gs) (hw : Wk (model P w) A.in1 F gs (s.setGen g .running))
    (hF : ∀ e s1, F e s1 → s.gens.size ≤ s1.gens.size → Out (fun v s' => Q (some v) s') g e s1 ∨ Ended E g e s1) : wpAny (model P w) A (callSpecial? (.ref a) "__next__") Q E s := by
  refine wpAny_callSpecial?_slot (name := Str.ofString "__next__") hg.typeIs slot_gen_next (wpAny_call_entry slot_gen_next hg.typeIs entry_gen_next ?_ (args_gen_next _))
  show wpAny _ A.in1 (Builtin.Generator.genWake (.ref a) (.send .none)) _ _ s
  unfold Builtin.Generator.genWake
  refine wpAny_bind (wpAny_holding (wpAny_genNumber hg (wpAny_bind (wpAny_genState hgs ?_))))
  have main : wpAny (model P w) A.in1 (.resume g (.send .none) [] fun x => (Sem.pure x).bind fun res => match res with
      | .yielded v => ret v
      | .returned v => do
        if v == .none then raiseNew (← newExc (.type "StopIteration") [])
        rule "generator.return-value"; throw (← newExc (.type "StopIteration") [v])
      | .raised e => Builtin.Generator.genLeft (.ref a) e
      | .running => do rule "generator.already-executing"; raiseError "ValueError" "generator already executing"
      | .justStarted => do rule "generator.send-to-fresh"; raiseError "TypeError" "can't send non-None value to a just-started generator"
      | .finished => do raiseNew (← newExc (.type "StopIteration") [])) (fun fin s' => ∃ v, fin = .done (.ret v) ∧ Q (some v) s') E s := by
    refine wp_resume hgs hw fun e s1 he hz => ?_
    rcases hF e s1 he hz with ⟨v, gd, l, k, c, p, fs, rfl, hq, hQ⟩ | ⟨hr, hE⟩
    · exact ⟨hq, wpAny_pure ⟨v, rfl, hQ⟩⟩
    · have hres : e.result = .returned .none ∧ e.genState = .finished ∧ e.quiet = true := by
        rcases hr with rfl | rfl <;> exact ⟨rfl, rfl, rfl⟩
      refine ⟨hres.2.2, ?_⟩
      rw [hres.1, hres.2.1]
      show wpAny _ A.in1 (newExc (.type "StopIteration") [] >>= _) _ _ _
      refine wpAny_bind ?_
      simp only [newExc, newTuple]
      refine wpAny_bind (wpAny_newObj_type ?_ (by size_fits))
      refine wpAny_bind (m := firstArgMember _ _) (wpAny_of_eq (a := Value.none) (by first | rfl | (simp only [firstArgMember]; rfl)) ?_)
      refine wpAny_newObj_type ?_ (by size_fits)
      simp only [raiseNew]
      refine wpAny_bind (wpAny_bind (wpAny_handled ?_))
      first | rw [show A.in1.handled = none from hh] | rw [hh]
      refine wpAny_throw ?_
      exact hE _ _ (fun b o hb => Heap.get?_push_of_some _ (Heap.get?_push_of_some _ hb)) ⟨_, Heap.get?_push_size _ rfl, rfl⟩
  cases gs with
  | running => exact hw.elim
  | finished => exact hw.elim
  | _ =>
    refine wpAny_bind (wpAny_roomToWake hl hroom ?_)
    exact main
end
end Gk

/-! Al -/
set_option Elab.async false
set_option linter.all false
set_option maxRecDepth 100000
set_option maxHeartbeats 1000000
namespace Gk
open PySem PySem.Spec PyProof.Rows L2
/-! ### a generator that is alive -/
/-- what its consumer keeps while it sleeps: tuples, private objects, other sleepers, objects as they are -/
structure Gh where
  TT : Addr → Option (List V)
  pv : List Addr
  sl : List (Nat × GenState)
  ex : List (Addr × Obj)
structure Back (B : Bd) (gh : Gh) (s s' : Shared) : Prop where
  os : s'.os = s.os
  bare : AllBare s'.gens
  base : ∀ b o, B.base.get? b = some o → s'.heap.get? b = some o
  funs : s'.heap.FunFrames B.base B.outer
  priv : ∀ b ∈ gh.pv, ∀ o, s.heap.get? b = some o → s'.heap.get? b = some o
  tt : ∀ b xs, gh.TT b = some xs → ∃ its : List Value, Vals xs its ∧ IsTup s'.heap b its.toArray
  sl : ∀ p ∈ gh.sl, s'.gens[p.1]? = some p.2
  ex : ∀ p ∈ gh.ex, s'.heap.get? p.1 = some p.2
/-- what a stretch of its run leaves as it was -/
structure Kept (fs pv : List Addr) (s s' : Shared) : Prop where
  os : s'.os = s.os
  bare : AllBare s'.gens
  keep : ∀ b o, b ∉ pv → b ∉ fs → s.heap.get? b = some o → s'.heap.get? b = some o
  frm : ∀ b o, b ∈ fs → s.heap.get? b = some o → ∃ sl, s'.heap.get? b = some { o with slots := sl }
/-- what the consumer is told at a yield -/
structure Told (B : Bd) (KT : Gh → Prop) (gok : Nat → Prop) (gh gh' : Gh) (s' s1 : Shared) : Prop where
  tt : KT gh'
  tup : ∀ b xs, gh'.TT b = some xs → ∃ its : List Value, Vals xs its ∧ IsTup s1.heap b its.toArray
  pv : ∀ b ∈ gh'.pv, (b ∈ gh.pv ∨ s'.heap.get? b = none) ∧ B.L ≤ b ∧ ∃ o, s1.heap.get? b = some o ∧ ∀ v, o.data ≠ .cell v
  sl : ∀ p ∈ gh'.sl, (gok p.1 ∧ s1.gens[p.1]? = some p.2) ∨ (¬ gok p.1 ∧ p.2 = .running)
  ex : ∀ p ∈ gh'.ex, s1.heap.get? p.1 = some p.2 ∧ p.2.cls = .type "tuple"
/-- n items are still to come; It n tells of the item that is handed out with n behind it -/
def Alv (M : Model) (B : Bd) (A : Around) (It : Nat → Gh → Gh → Shared → Value → Shared → Prop) (KT : Gh → Prop) (gok : Nat → Prop) : Nat → Gh → GenState → Shared → Prop
  | 0 => fun gh gs s => ∀ s', Back B gh s s' → Wk M A (fun e s1 => (e = .ret (.ok (.ret .none)) ∨ e = .ret (.ok .next)) ∧ Kept (frs B.outer) gh.pv s' s1) gs s'
  | n + 1 => fun gh gs s => ∀ s', Back B gh s s' → Wk M A (fun e s1 => ∃ v gd l k c p fs gh', e = .susp v gd l k c p fs ∧ e.quiet = true ∧ Kept (frs B.outer) gh.pv s' s1 ∧ It n gh gh' s' v s1 ∧ Told B KT gok gh gh' s' s1 ∧
      Alv M B A It KT gok n gh' e.genState s1) gs s'
/-- what a stretch of the run ends with -/
def Post (M : Model) (B : Bd) (A : Around) (It : Nat → Gh → Gh → Shared → Value → Shared → Prop) (KT : Gh → Prop) (gok : Nat → Prop) (n : Nat) (gh : Gh) (s' : Shared) (e : End) (s1 : Shared) : Prop :=
  match n with
  | 0 => (e = .ret (.ok (.ret .none)) ∨ e = .ret (.ok .next)) ∧ Kept (frs B.outer) gh.pv s' s1
  | n + 1 => ∃ v gd l k c p fs gh', e = .susp v gd l k c p fs ∧ e.quiet = true ∧ Kept (frs B.outer) gh.pv s' s1 ∧ It n gh gh' s' v s1 ∧ Told B KT gok gh gh' s' s1 ∧ Alv M B A It KT gok n gh' e.genState s1
theorem alv_iff {M : Model} {B : Bd} {A : Around} {It : Nat → Gh → Gh → Shared → Value → Shared → Prop} {KT : Gh → Prop} {gok : Nat → Prop} {n : Nat} {gh : Gh} {gs : GenState} {s : Shared} :
    Alv M B A It KT gok n gh gs s ↔ ∀ s', Back B gh s s' → Wk M A (Post M B A It KT gok n gh s') gs s' := by cases n <;> rfl
/-- a consumer's invariant over such a stretch -/
theorem inv_over {X : Cx} {pins : List (Addr × Obj)} {σ : L2.St} {H : Hp} {s s' : Shared} {pv : List Addr} (I : Inv X pins σ H s) (k : Kept (frs X.stack) pv s s')
    (hpv : ∀ b ∈ pv, H b = none ∧ (b ∈ X.ex ∨ X.s_0.heap.objs.size ≤ b) ∧ b ≠ X.env.locals ∧ (∀ x c, X.env.cells.lookup x = some c → c ≠ b) ∧ ∀ p ∈ X.pn ++ pins, p.1 ≠ b) : Inv X pins σ H s' := by
  have npv : ∀ b u, H b = some u → b ∉ pv := fun b u e z => by rw [(hpv b z).1] at e; cases e
  have nfs : ∀ b u, H b = some u → b ∉ frs X.stack := fun b u e z => by rw [I.stkFree b z] at e; cases e
  refine I.call' (ch := pv) k.os ⟨fun b o e _ h1 h2 => k.keep b o h2 h1 e, fun b o e _ h1 _ => k.frm b o h1 e, fun _ _ _ n _ => n, fun b o e h2 => ?_, fun _ _ e => e, fun _ _ _ e => e, fun b ps e => ⟨#[], by rw [e]; simp⟩⟩ (fun b u e => ?_) k.bare fun b hb => (hpv b hb).2
  · by_cases h1 : b ∈ frs X.stack
    · obtain ⟨sl, q⟩ := k.frm b o h1 e
      exact ⟨_, q⟩
    · exact ⟨o, k.keep b o h2 h1 e⟩
  · refine (I.hok b u e).stay (fun c v hc q => ?_) (fun _ q => q) fun _ _ q => q
    rcases hc with rfl | hc
    · exact k.keep _ _ (npv _ _ e) (nfs _ _ e) q
    · exact k.keep _ _ (npv _ _ hc) (nfs _ _ hc) q
theorem kept_refl {fs pv : List Addr} {s : Shared} (h : AllBare s.gens) : Kept fs pv s s := ⟨rfl, h, fun _ _ _ _ e => e, fun _ o _ e => ⟨o.slots, e⟩⟩
/-- the stretch from a waking, in the layer's words -/
theorem kept_inv {B : Bd} {TT : Addr → Option (List V)} {pv : List Addr} {ip : List (Addr × Obj)} {σ : L2.St} {H : Hp} {s s' : Shared} (ok : B.Ok) (U : ∀ b, b ∈ frs B.outer → (∃ o, s.heap.get? b = some o) → TT b = none) (I : Inv (B.cx TT pv s) ip σ H s') (hs : ∀ b u, hpT B TT pv s.heap b = some u → H b = some u) : Kept (frs B.outer) pv s s' where
  os := I.os
  bare := I.bare
  keep := kept_of I hs
  frm := fun b o hb e => by
    have hL : b < B.L := ok.frL b hb
    refine I.base.slot b o (cut_some.mpr ⟨hL, e⟩) ?_ hb (fun z => nomatch z)
    show (if b < B.L then hpT B TT pv s.heap b else none) = none
    rw [if_pos hL]
    exact hpT_out (U b hb ⟨o, e⟩) (.inl hL)

/-! ### the body's first code, and its loops -/
section
variable {P : Program} {w : World} {A : Around} {F : End → Shared → Prop} {s : Shared} {fs : List Frame} {env : Env}
theorem go_func {body : List Stmt} (h : Go (model P w) A F (.func body env) ((execs body env).wrap (fun f => .pure (.done (.ret (match f with | .ret v => v | _ => .none)))) (fun e => (leaving env e).wrap (fun _ => .raise e) .raise id id) id id) fs s) :
    Go (model P w) A F (.func body env) ((model P w).den (.func body env)) fs s := by
  show Go _ A F _ (point >>= fun _ => ((execs body env).onRaise (leaving env)) >>= _) fs s
  rw [Sem.bind_eq_wrap']
  refine go_wrap (wpAny_point ?_)
  rw [Sem.onRaise_eq_wrap, Sem.bind_eq_wrap', Sem.wrap_wrap]
  rw [Sem.wrap_congr (execs body env) _ _ (K' := fun f => .pure (.done (.ret (match f with | .ret v => v | _ => .none))))
    (H' := fun e => (leaving env e).wrap (fun _ => .raise e) .raise id id) (fun f => by cases f <;> rfl)
    (fun e => by rw [Sem.bind_eq_wrap, Sem.wrap_wrap]; rfl)]
  exact h
end
/-- what a turn of a loop goes on with -/
abbrev lpK (tg : Expr) (it : Value) (body : List Stmt) (env : Env) : Flow → Sem PySem.Fin := fun f => match f with
  | .next | .cont => .pure (.again (.forLoop tg it body [] env))
  | .brk => .pure (.done .next)
  | .ret v => .pure (.done (.ret v))
abbrev lpJ (env : Env) : Value → Sem PySem.Fin := fun e => (do noteFrame e env; theTreesLotGoes e : Sem Unit).wrap (fun _ => .raise e) .raise id id
section
variable {B : Bd} {TT : Addr → Option (List V)} {pv : List Addr} {ip : List (Addr × Obj)} {σ : L2.St} {H : Hp} {A : Around} {F : End → Shared → Prop} {s₀ s : Shared} {fs : List Frame}
  {tg : Expr} {g : TG} {body : List Stmt} {J : It} {fp : List Addr} {it : Addr} {tn : Nat → Heap → Prop} {i : Nat}
theorem go_item (hA : A.over (.forLoop tg (.ref it) body [] B.env) fs = B.A) (T : Turn B.prog B.w B.K tg J fp it tn) (hg : PG (B.cx TT pv s₀) tg g) (I : Inv (B.cx TT pv s₀) ip σ H s) (hf : ∀ b ∈ fp, FpOk (B.cx TT pv s₀) ip H b) (st : tn i s.heap) (go : J.go i H)
    {N : L2.St → Hp → Prop} (hs : ∀ x H1, J.yld i H x H1 → g x σ H1 N)
    (k : ∀ (pl : List (Addr × Obj)) σ' H' s', (∀ p ∈ pl, p.1 ∈ fp) → (∀ b ∈ fp, ∃ o, (b, o) ∈ pl ∧ ∀ v, o.data ≠ .cell v) → Inv (B.cx TT pv s₀) (ip ++ pl) σ' H' s' → (∀ h' : Heap, (∀ p ∈ pl, h'.get? p.1 = some p.2) → tn (i + 1) h') → (∀ b ∈ fp, H' b = none) → N σ' H' →
      Go (model B.prog B.w) A F (.forLoop tg (.ref it) body [] B.env) ((execs body B.env).wrap (lpK tg (.ref it) body B.env) (lpJ B.env) id id) fs s') :
    Go (model B.prog B.w) A F (.forLoop tg (.ref it) body [] B.env) ((model B.prog B.w).den (.forLoop tg (.ref it) body [] B.env)) fs s := by
  refine sg_turn ?_
  rw [hA]
  refine wpAny_mono (T.item (B.cx TT pv s₀) rfl rfl rfl rfl i ip s σ H NoE I hf st go) (fun r s4 h4 => ?_) fun _ _ z => z
  obtain ⟨u, rfl, h4⟩ := h4
  refine wpAny_mono h4 (fun _ s5 h5 => ?_) fun _ _ z => z
  obtain ⟨x, H5, I5, r5, y5, st5, fr5⟩ := h5
  have I5' := I5.pinned (fun b hb => ⟨fr5 b hb, (hf b hb).2⟩) (T.obj _ _ st5)
  refine wpAny_mono (hg.run _ s5 σ H5 x u _ I5' r5 (hs x H5 y5)) (fun _ s6 h6 => ?_) fun _ _ z => z
  obtain ⟨σ6, H6, I6, q6⟩ := h6
  have pl : ∀ b ∈ fp, ∃ o, (b, o) ∈ pinsAt fp s5.heap ∧ ∀ v, o.data ≠ .cell v := fun b hb => by
    obtain ⟨o, e, d⟩ := T.obj _ _ st5 b hb
    exact ⟨o, mem_pinsAt hb e, d⟩
  refine k (pinsAt fp s5.heap) σ6 H6 s6 (fun p hp => (of_pinsAt hp).1) pl I6 (fun h' hp => T.keep _ _ _ st5 fun b hb o e => hp (b, o) (mem_pinsAt hb e)) (fun b hb => ?_) q6
  obtain ⟨o, ho, _⟩ := pl b hb
  exact (I6.pin (b, o) (List.mem_append_right _ (List.mem_append_right _ ho))).2.1
theorem go_stop (hA : A.over (.forLoop tg (.ref it) body [] B.env) fs = B.A) (T : Turn B.prog B.w B.K tg J fp it tn) (I : Inv (B.cx TT pv s₀) ip σ H s) (hf : ∀ b ∈ fp, FpOk (B.cx TT pv s₀) ip H b) (st : tn i s.heap) (sp : J.stop i H)
    (k : ∀ s', Inv (B.cx TT pv s₀) ip σ H s' → Go (model B.prog B.w) A F (.block [] B.env) (leafOf (.ok .next)) fs s') :
    Go (model B.prog B.w) A F (.forLoop tg (.ref it) body [] B.env) ((model B.prog B.w).den (.forLoop tg (.ref it) body [] B.env)) fs s := by
  refine sg_turn ?_
  rw [hA]
  refine wpAny_mono (T.done (B.cx TT pv s₀) rfl rfl rfl rfl i ip s σ H NoE I hf st sp) (fun r s4 h4 => ?_) fun _ _ z => z
  obtain ⟨rfl, I4⟩ := h4
  exact k s4 I4
end
end Gk

/-! Tx -/
set_option Elab.async false
set_option linter.all false
set_option maxRecDepth 100000
namespace Gk
open PySem L2
/-! ### the text by places -/
def topS (i : Nat) : Stmt := PySem.Challenge.pw_heapeffects_k39_whole_sorting_by_a_heap.main.body.getD i (.Pass ⟨0, 0, 0, 0⟩)
abbrev sIsInt : Stmt := topS 10
abbrev sIsCount : Stmt := topS 11
abbrev sIsBag : Stmt := topS 12
abbrev sChkCount : Stmt := topS 13
abbrev sChkBag : Stmt := topS 14
abbrev sFrom : Stmt := topS 15
abbrev sAdd : Stmt := topS 16
abbrev sSub : Stmt := topS 17
abbrev sTotal : Stmt := topS 18
abbrev sScale : Stmt := topS 19
abbrev sDrop : Stmt := topS 21
abbrev sIsStep : Stmt := topS 24
abbrev sFind : Stmt := topS 25
abbrev sChkProg : Stmt := topS 26
abbrev sCount : Stmt := topS 27
abbrev sElem : Stmt := topS 28
abbrev sJoin : Stmt := topS 31
abbrev sStepP : Stmt := topS 33
abbrev sProgP : Stmt := topS 34
abbrev sFault : Stmt := topS 35
abbrev sEffInit : Stmt := inClass (topS 36) 1
abbrev sEffOf : Stmt := inClass (topS 36) 3
abbrev sEffEq : Stmt := inClass (topS 36) 15
abbrev sHeaps : Stmt := topS 38
abbrev sRemoved : Stmt := topS 39
abbrev sPool : Stmt := topS 41
abbrev sDraw : Stmt := topS 42
abbrev sRandom : Stmt := topS 43
abbrev sBag : Stmt := topS 44
abbrev sLaw : Stmt := topS 45
/-- the name that a def's statement binds -/
def defName (s : Stmt) : Str := match s with
  | .FunctionDef n _ _ _ _ _ _ _ _ _ => n
  | _ => ""
example : [sIsInt, sIsCount, sIsBag, sChkCount, sChkBag, sFrom, sAdd, sSub, sTotal, sScale, sDrop, sIsStep, sFind, sChkProg, sCount, sElem, sJoin, sStepP, sProgP, sFault, sEffInit, sEffOf, sEffEq, sHeaps, sRemoved, sPool, sDraw, sRandom, sBag, sLaw].map defName =
  ([("is_integer" : Str), "is_count", "is_bag", "check_count", "check_bag", "from_counts", "add", "subtract", "total", "scale", "drop", "is_step", "find_invalid", "check_program", "count_steps", "elementary", "join_parts", "step_parts", "program_parts", "find_fault",
   "__init__", "of", "__eq__", "heaps_along", "removed_along", "_law_pool", "_law_draw", "_law_random_numbers", "_law_bag", "law"] : List Str) := by decide +kernel
end Gk

/-! El -/
set_option Elab.async false
set_option linter.all false
set_option maxRecDepth 100000
set_option maxHeartbeats 1000000
namespace Gk
open PySem PySem.Spec PyProof.Rows L2
/-! ### programs of insertions and removals -/
inductive Sx where
  | ins (x : Int) | rem (n : Nat)
def Sx.vs : Sx → List V
  | .ins x => [.str "insert", .int x, .int 1]
  | .rem n => [.str "remove", .int n]
def Sx.cnt : Sx → Nat
  | .ins _ => 1
  | .rem n => n
/-- its elementary step -/
def Sx.el : Sx → List V
  | .ins x => [.str "insert", .int x, .int 1]
  | .rem _ => [.str "remove", .int 1]
def Sx.outs (s : Sx) : List (List V) := List.replicate s.cnt s.el
def IsProg (K : PySem.W.Frag) (H : Hp) (a : Addr) (ps : List Sx) : Prop := ∃ as : List Addr, SqT K H a (as.map V.ref) ∧ Paired (fun (b : Addr) (s : Sx) => SqT K H b s.vs) as ps
theorem sqt_same {K : PySem.W.Frag} {H H' : Hp} {a : Addr} {xs : List V} (e : Same H H') (h : SqT K H a xs) : SqT K H' a xs := by
  rcases h with (h | ⟨o, h⟩) | h
  · exact .inl (.inl (e _ _ h))
  · exact .inl (.inr ⟨o, e _ _ h⟩)
  · exact .inr h
theorem Paired.imp {α β : Type} {F G : α → β → Prop} (h : ∀ a b, F a b → G a b) : ∀ {l : List α} {m : List β}, Paired F l m → Paired G l m
  | _, _, .nil => .nil
  | _, _, .cons r t => .cons (h _ _ r) (Paired.imp h t)
theorem Paired.at {α β : Type} {F : α → β → Prop} : ∀ {l : List α} {m : List β} {i : Nat} {a : α}, Paired F l m → l[i]? = some a → ∃ b, m[i]? = some b ∧ F a b
  | _, _, _, _, .nil, e => by simp at e
  | _, _, 0, _, .cons r _, e => by simp at e; subst e; exact ⟨_, rfl, r⟩
  | _, _, i + 1, _, .cons _ t, e => by
    obtain ⟨b, h1, h2⟩ := Paired.at (i := i) t (by simpa using e)
    exact ⟨b, by simpa using h1, h2⟩
theorem IsProg.same {K : PySem.W.Frag} {H H' : Hp} {a : Addr} {ps : List Sx} (e : Same H H') (h : IsProg K H a ps) : IsProg K H' a ps :=
  let ⟨as, h1, h2⟩ := h; ⟨as, sqt_same e h1, Paired.imp (fun _ _ q => sqt_same e q) h2⟩
/-- the tuples that an abstract heap tells of -/
def tups (H : Hp) : Addr → Option (List V) := fun b => match H b with
  | some (.tup xs) => some xs
  | some (.frz _ (.tup xs)) => some xs
  | _ => none
theorem tups_rd {H : Hp} {b : Addr} {xs : List V} (h : tups H b = some xs) : Rd H b (.tup xs) := by
  unfold tups at h
  split at h
  · cases h; exact .inl (by assumption)
  · cases h; exact .inr ⟨_, by assumption⟩
  · cases h
theorem rd_tups {H : Hp} {b : Addr} {xs : List V} (h : Rd H b (.tup xs)) : tups H b = some xs := by
  unfold tups
  rcases h with h | ⟨o, h⟩
  · rw [h]
  · rw [h]
/-- .. are read again at the waking -/
theorem sqt_tups {B : Bd} {H : Hp} {pv : List Addr} {h : Heap} {a : Addr} {xs : List V} (ht : ∀ b ys, tups H b = some ys → ∃ o, h.get? b = some o) (q : SqT B.K H a xs) : SqT B.K (hpT B (tups H) pv h) a xs := by
  rcases q with q | q
  · have e := rd_tups q
    obtain ⟨o, ho⟩ := ht a xs e
    exact .inl (.inr ⟨o, hpT_tt e ho⟩)
  · exact .inr q

/-! ### elementary -/
def eN : List Str := ["program", "step", "turns", "turn"]
def eB (P : Program) (w : World) (K : PySem.W.Frag) (mg : Str → Option Value) (base : Heap) (L f : Addr) (cd : Value) (A : Around) (outer : List Env) : Bd where
  prog := P
  w := w
  K := K
  mg := mg
  base := base
  A := A.deeper (envOfC "elementary" (defScope sElem) L f cd)
  N := eN
  env := envOfC "elementary" (defScope sElem) L f cd
  outer := outer
/-- the tuple that is handed out is new, its items as asked -/
def eIt (outs : List (List V)) : Nat → Gh → Gh → Shared → Value → Shared → Prop := fun n gh gh' s' v s1 => ∃ (t : Addr) (xs : List V) (its : List Value), v = .ref t ∧ (t ∈ gh.pv ∨ s'.heap.get? t = none) ∧ t ∉ gh'.pv ∧ outs.reverse[n]? = some xs ∧ Vals xs its ∧ IsTup s1.heap t its.toArray ∧ xs.length ≤ sizeLine
abbrev eFor : Stmt := (defBody sElem).getD 0 (.Pass ⟨0, 0, 0, 0⟩)
def forTg : Stmt → Expr
  | .For t _ _ _ _ => t
  | _ => .Name "" ⟨0, 0, 0, 0⟩
def forIt : Stmt → Expr
  | .For _ i _ _ _ => i
  | _ => .Name "" ⟨0, 0, 0, 0⟩
def forBd : Stmt → List Stmt
  | .For _ _ b _ _ => b
  | _ => []
def ifElse : Stmt → List Stmt
  | .If _ _ b _ => b
  | _ => []
abbrev eIf : Stmt := (forBd eFor).getD 0 (.Pass ⟨0, 0, 0, 0⟩)
abbrev eFor2 : Stmt := (ifElse eIf).getD 0 (.Pass ⟨0, 0, 0, 0⟩)
section
variable {P : Program} {w : World} {K : PySem.W.Frag} {mg : Str → Option Value} {base : Heap} {L f : Addr} {cd : Value} {A : Around} {outer : List Env}
theorem e_nd : eN.Nodup := by decide +kernel
def ifTest : Stmt → Expr
  | .If t _ _ _ => t
  | _ => .Name "" ⟨0, 0, 0, 0⟩
def yieldE : Stmt → Expr
  | .Expr (.Yield (some e) _) _ => e
  | _ => .Name "" ⟨0, 0, 0, 0⟩
abbrev eYield : Stmt := (forBd eFor2).getD 0 (.Pass ⟨0, 0, 0, 0⟩)
theorem cut_el (st : Sx) : cutV st.vs (none) (some (-1)) ++ [V.int 1] = st.el ∧ cutV st.vs none (some (-1)) ≠ [] := by
  cases st <;> exact ⟨rfl, fun z => nomatch z⟩
/-- step[:-1] + (1,) -/
theorem e_item (X : Cx) (hN : X.N = eN) (he : X.env.scope = defScope sElem) : ∃ t, PE X (yieldE eYield) t ∧ ∀ (σ : L2.St) (H : Hp) (a : Addr) (st : Sx), σ[1]? = some (some (.ref a)) → SqT X.K H a st.vs →
    t σ H fun v H1 => ∃ p, v = .ref p ∧ Same H H1 ∧ H p = none ∧ H1 p = some (.tup st.el) := by
  refine ⟨_, pe_op op_catT (pe_slice sl_tup (L2.pv 1 (by rw [hN]; rfl) (by rw [he]; exact .inl rfl)) po_none (po_some (pe_un un_neg pe_int))) (pe_tup (pa_cons pe_int pa_nil)), fun σ H a st hσ ha => ?_⟩
  obtain ⟨c1, c2⟩ := cut_el st
  have hl : st.vs.length = 3 ∨ st.vs.length = 2 := by
    cases st with
    | ins x => exact .inl rfl
    | rem n => exact .inr rfl
  refine ⟨_, hσ, 1, rfl, -1, rfl, a, st.vs, rfl, ha, ?_, fun p hp => ?_⟩
  · rcases hl with hl | hl <;> rw [hl] <;> decide
  · refine ⟨by decide, fun q hq => ?_⟩
    have s1 : Same H (upd H p (.tup (cutV st.vs none (some (-1))))) := fun b o e => by rw [upd_ne (ne_of_none e hp)]; exact e
    have s2 : Same H (upd (upd H p (.tup (cutV st.vs none (some (-1))))) q (.tup [V.int 1])) := fun b o e => by rw [upd_ne (ne_of_none (s1 b o e) hq)]; exact s1 b o e
    have npq : p ≠ q := ne_of_none (H := upd H p (.tup (cutV st.vs none (some (-1))))) upd_same hq
    refine ⟨p, q, _, [V.int 1], rfl, rfl, SqT.of (by rw [upd_ne npq]; exact upd_same), SqT.of upd_same, c2, ?_, fun z => (nomatch z), fun _ r hr => ⟨r, rfl, fun b o e => ?_, s2.free hr, ?_⟩⟩
    · have := cutV_length st.vs none (some (-1))
      have h4 : (4 : Nat) ≤ sizeLine := by decide
      show (cutV st.vs none (some (-1))).length + 1 ≤ sizeLine
      omega
    · rw [upd_ne (ne_of_none (s2 b o e) hr)]
      exact s2 b o e
    · rw [c1]
      exact upd_same
/-- step[0] == 'repeat' -/
theorem e_test (X : Cx) (hN : X.N = eN) (he : X.env.scope = defScope sElem) : ∃ t, PT X (ifTest eIf) t ∧ ∀ (σ : L2.St) (H : Hp) (a : Addr) (st : Sx) (Q : Bool → Hp → Prop), σ[1]? = some (some (.ref a)) → SqT X.K H a st.vs → Q false H → t σ H Q := by
  refine ⟨_, pt_cmpR op_eq (pe_ix ix_tup (L2.pv 1 (by rw [hN]; rfl) (by rw [he]; exact .inl rfl)) pe_int (fun _ _ => rfl)) pe_str (nomark _), fun σ H a st Q hσ ha hQ => ?_⟩
  cases st with
  | ins x => exact ⟨_, hσ, a, _, _, .str "insert", rfl, rfl, ha, rfl, rfl, false, rfl, hQ⟩
  | rem n => exact ⟨_, hσ, a, _, _, .str "remove", rfl, rfl, ha, rfl, rfl, false, rfl, hQ⟩
/-- range(step[-1]) -/
theorem e_range (X : Cx) (hN : X.N = eN) (he : X.env.scope = defScope sElem) (hm : X.mg "range" = none) : ∃ wi, PI X (forTg eFor2) (forIt eFor2) wi ∧ ∀ (σ : L2.St) (H : Hp) (a : Addr) (st : Sx) (R : It → Hp → Prop), st.cnt < 2 ^ 62 → σ[1]? = some (some (.ref a)) → SqT X.K H a st.vs → R (Itr 0 st.cnt) H → wi σ H R := by
  refine ⟨_, pi_range1 (by show X.env.kindOf _ = _; unfold Env.kindOf; rw [he]; rfl) hm (pa_cons (pe_ix ix_tup (L2.pv 1 (by rw [hN]; rfl) (by rw [he]; exact .inl rfl)) (pe_un un_neg pe_int) (fun _ _ => rfl)) pa_nil), fun σ H a st R hl hσ ha hR => ?_⟩
  cases st with
  | ins x => exact ⟨_, hσ, 1, rfl, a, _, -1, .int 1, rfl, rfl, ha, rfl, 1, rfl, by decide, by decide, hR⟩
  | rem n =>
    have hl' : (n : Int) < 2 ^ 62 := by have : n < 2 ^ 62 := hl; omega
    exact ⟨_, hσ, 1, rfl, a, _, -1, .int n, rfl, rfl, ha, rfl, n, rfl, by omega, hl', by simpa [Sx.cnt] using hR⟩
end
/-! ### its loops -/
section
variable {B : Bd} {TT : Addr → Option (List V)} {pv : List Addr} {ip : List (Addr × Obj)} {σ : L2.St} {H : Hp} {s₀ s : Shared}
theorem cut_ge (I : Inv (B.cx TT pv s₀) ip σ H s) {b : Addr} (h : b ∈ (B.cx TT pv s₀).ex ∨ (B.cx TT pv s₀).s_0.heap.objs.size ≤ b) (hL : B.L < s₀.heap.objs.size) : B.L ≤ b := by
  rcases h with h | h
  · exact nomatch h
  · exact Nat.le_trans (ex_ge s₀.heap.objs B.L B.L hL (Nat.le_refl _)) h
theorem fp_of (ok : B.Ok) {b : Addr} (h1 : H b = none) (h2 : B.L ≤ b) (h3 : b ≠ B.L) (h4 : ∀ p ∈ ip, p.1 ≠ b) : FpOk (B.cx TT pv s₀) ip H b :=
  have nc : ∀ x c, B.env.cells.lookup x = some c → c ≠ b := fun x c e => by
    rw [ok.nocell] at e
    cases e
  ⟨h1, h3, fun z => absurd (ok.frL b z) (Nat.not_lt.mpr h2), .inr (Nat.le_trans (cut_size _ _) h2), nc, fun p hp => h4 p (by simpa [Bd.cx] using hp)⟩
/-- what is untracked at a waking and lies above the frame: private, or not there yet -/
theorem hpT_none {b : Addr} {h : Heap} (e : hpT B TT pv h b = none) (hL : B.L ≤ b) : b ∈ pv ∨ h.get? b = none := by
  cases q : h.get? b with
  | none => exact .inr rfl
  | some o =>
    refine .inl ?_
    cases g : TT b with
    | some xs => rw [hpT_tt g q] at e; cases e
    | none =>
      by_cases c : b < B.L ∨ b ∈ pv
      · rcases c with c | c
        · exact absurd c (Nat.not_lt.mpr hL)
        · exact c
      · rw [hpT_ext g c q] at e; cases e
end
def remN (ps : List Sx) : Nat := (ps.map Sx.cnt).sum
theorem outs_len (ps : List Sx) : (ps.flatMap Sx.outs).length = remN ps := by
  induction ps with
  | nil => rfl
  | cons a r ih =>
    rw [List.flatMap_cons, List.length_append, ih]
    show (List.replicate a.cnt a.el).length + _ = _
    rw [List.length_replicate]
    rfl
/-- the item with n behind it -/
theorem outs_at (ps : List Sx) {i j : Nat} {st : Sx} (h : ps[i]? = some st) (hj : j < st.cnt) {n : Nat} (hn : n + 1 = (st.cnt - j) + remN (ps.drop (i + 1))) : (ps.flatMap Sx.outs).reverse[n]? = some st.el := by
  have hi : i < ps.length := (List.getElem?_eq_some_iff.mp h).1
  have e0 : ps = ps.take i ++ st :: ps.drop (i + 1) := by
    have e1 : ps[i] = st := (List.getElem?_eq_some_iff.mp h).2
    have e2 : ps.drop i = ps[i] :: ps.drop (i + 1) := List.drop_eq_getElem_cons hi
    rw [← e1, ← e2, List.take_append_drop]
  have e1 : ps.flatMap Sx.outs = (ps.take i).flatMap Sx.outs ++ (st.outs ++ (ps.drop (i + 1)).flatMap Sx.outs) := by
    conv => lhs; rw [e0]
    rw [List.flatMap_append, List.flatMap_cons]
  rw [e1, List.reverse_append, List.reverse_append]
  have l1 : ((ps.drop (i + 1)).flatMap Sx.outs).reverse.length = remN (ps.drop (i + 1)) := by rw [List.length_reverse, outs_len]
  have l2 : st.outs.reverse = List.replicate st.cnt st.el := by unfold Sx.outs; rw [List.reverse_replicate]
  rw [l2, List.append_assoc, List.getElem?_append_right (by rw [l1]; omega), l1, List.getElem?_append_left (by rw [List.length_replicate]; omega), List.getElem?_replicate, if_pos (by omega)]

section
variable (P : Program) (w : World) (K : PySem.W.Frag) (mg : Str → Option Value) (base : Heap) (L f : Addr) (cd : Value) (A : Around) (outer : List Env) (TT : Addr → Option (List V)) (ps : List Sx) (pa it1 : Addr) (fs1 : List Frame)
abbrev ePost (n : Nat) (gh : Gh) (s₀ : Shared) : End → Shared → Prop := Post (model P w) (eB P w K mg base L f cd A outer) A (eIt (ps.flatMap Sx.outs)) (fun gh => gh.TT = TT ∧ gh.ex = [] ∧ gh.sl = []) (fun _ => False) n gh s₀
/-- at the head of the loop over the program -/
def EOut (i : Nat) : Prop := ∀ (gh : Gh) (s₀ s : Shared) (σ : L2.St) (H : Hp), gh.TT = TT → Inv ((eB P w K mg base L f cd A outer).cx TT gh.pv s₀) [] σ H s → Same (hpT (eB P w K mg base L f cd A outer) TT gh.pv s₀.heap) H → L < s₀.heap.objs.size →
  (∀ b xs, TT b = some xs → ∃ o, s₀.heap.get? b = some o) → IsProg K (hpT (eB P w K mg base L f cd A outer) TT gh.pv s₀.heap) pa ps → s.heap.IsTupleIter it1 pa i → H it1 = none → L ≤ it1 → it1 ≠ L →
  Go (model P w) A (ePost P w K mg base L f cd A outer TT ps (remN (ps.drop i)) gh s₀) (.forLoop (forTg eFor) (.ref it1) (forBd eFor) [] (envOfC "elementary" (defScope sElem) L f cd))
    ((model P w).den (.forLoop (forTg eFor) (.ref it1) (forBd eFor) [] (envOfC "elementary" (defScope sElem) L f cd))) fs1 s
/-- at the head of the loop over the turns of the i-th step -/
def EIn (i : Nat) (st : Sx) (a it2 : Addr) (fp2 : List Addr) (tn2 : Nat → Heap → Prop) (fs2 : List Frame) (j : Nat) : Prop := ∀ (gh : Gh) (s₀ s : Shared) (σ : L2.St) (H : Hp) (pl : List (Addr × Obj)), gh.TT = TT → Inv ((eB P w K mg base L f cd A outer).cx TT gh.pv s₀) pl σ H s →
  Same (hpT (eB P w K mg base L f cd A outer) TT gh.pv s₀.heap) H → L < s₀.heap.objs.size → (∀ b xs, TT b = some xs → ∃ o, s₀.heap.get? b = some o) → IsProg K (hpT (eB P w K mg base L f cd A outer) TT gh.pv s₀.heap) pa ps →
  SqT K (hpT (eB P w K mg base L f cd A outer) TT gh.pv s₀.heap) a st.vs → (∀ p ∈ pl, p.1 = it1) → (∃ o, (it1, o) ∈ pl ∧ ∀ v, o.data ≠ .cell v) → (∀ h' : Heap, (∀ p ∈ pl, h'.get? p.1 = some p.2) → h'.IsTupleIter it1 pa (i + 1)) → L ≤ it1 → it1 ≠ L →
  σ[1]? = some (some (.ref a)) → tn2 j s.heap → (∀ b ∈ fp2, FpOk ((eB P w K mg base L f cd A outer).cx TT gh.pv s₀) pl H b) →
  Go (model P w) A (ePost P w K mg base L f cd A outer TT ps ((st.cnt - j) + remN (ps.drop (i + 1))) gh s₀) (.forLoop (forTg eFor2) (.ref it2) (forBd eFor2) [] (envOfC "elementary" (defScope sElem) L f cd))
    ((model P w).den (.forLoop (forTg eFor2) (.ref it2) (forBd eFor2) [] (envOfC "elementary" (defScope sElem) L f cd))) fs2 s
end
end Gk

/-! El2 -/
set_option Elab.async false
set_option linter.all false
set_option maxRecDepth 100000
set_option maxHeartbeats 2000000
namespace Gk
open PySem PySem.Spec PyProof.Rows L2
section
variable {P : Program} {w : World} {K : PySem.W.Frag} {mg : Str → Option Value} {base : Heap} {L f : Addr} {cd : Value} {A : Around} {outer : List Env} {TT : Addr → Option (List V)} {ps : List Sx} {pa it1 : Addr} {fs1 : List Frame}
theorem e_in (ok : (eB P w K mg base L f cd A outer).Ok) (hTf : ∀ b ∈ frs outer, TT b = none) {i : Nat} {st : Sx} {a it2 : Addr} {fp2 : List Addr} {tn2 : Nat → Heap → Prop} {k2 : Result → Sem PySem.Fin} {p2 : Pos} {h1 : List Value}
    (hst : ps[i]? = some st) (T2 : Turn P w K (forTg eFor2) (Itr 0 st.cnt) fp2 it2 tn2) (ov1 : A.over (.forLoop (forTg eFor) (.ref it1) (forBd eFor) [] (envOfC "elementary" (defScope sElem) L f cd)) fs1 = (eB P w K mg base L f cd A outer).A) (hn1 : NoGen fs1) (hg1 : fs1.any Frame.guarded = false)
    (hk2 : k2 (.ok .next) = .pure (.again (.forLoop (forTg eFor) (.ref it1) (forBd eFor) [] (envOfC "elementary" (defScope sElem) L f cd))))
    (OH : EOut P w K mg base L f cd A outer TT ps pa it1 fs1 (i + 1)) : ∀ m j, j + m = st.cnt →
      EIn P w K mg base L f cd A outer TT ps pa it1 i st a it2 fp2 tn2 (.ret k2 none false h1 (.forLoop (forTg eFor) (.ref it1) (forBd eFor) [] (envOfC "elementary" (defScope sElem) L f cd)) p2 [] :: fs1) j := by
  have ov2 : ∀ body, A.over (.forLoop (forTg eFor2) (.ref it2) body [] (envOfC "elementary" (defScope sElem) L f cd)) (.ret k2 none false h1 (.forLoop (forTg eFor) (.ref it1) (forBd eFor) [] (envOfC "elementary" (defScope sElem) L f cd)) p2 [] :: fs1) = (eB P w K mg base L f cd A outer).A := fun body => (GenW.over_loop rfl rfl).trans ov1
  intro m
  induction m with
  | zero =>
    intro j hj gh s₀ s σ H pl hTT I hS hL hex hpr ha hpl1 hpl2 hpl3 hL1 hn1 hσ st2 hf2
    have ej : j = st.cnt := by omega
    subst ej
    refine go_stop (J := Itr 0 st.cnt) (ov2 _) T2 I hf2 st2 (Nat.le_refl _) fun s' I' => ?_
    refine sg_done ?_
    rw [hk2]
    refine go_again rfl ?_
    have hz : (st.cnt - st.cnt) + remN (ps.drop (i + 1)) = remN (ps.drop (i + 1)) := by omega
    rw [hz]
    obtain ⟨o1, ho1, _⟩ := hpl2
    refine OH gh s₀ s' σ H hTT (Inv.unpinned (pins := []) (by simpa using I')) hS hL hex hpr (hpl3 _ fun p hp => (I'.pin p (List.mem_append_right _ hp)).1) (I'.pin _ (List.mem_append_right _ ho1)).2.1 hL1 hn1
  | succ m ih =>
    intro j hj gh s₀ s σ H pl hTT I hS hL hex hpr ha hpl1 hpl2 hpl3 hL1 hne1 hσ st2 hf2
    have hjl : j < st.cnt := by omega
    obtain ⟨n, hn⟩ : ∃ n, (st.cnt - j) + remN (ps.drop (i + 1)) = n + 1 := ⟨(st.cnt - j) + remN (ps.drop (i + 1)) - 1, by omega⟩
    rw [hn]
    refine go_item (J := Itr 0 st.cnt) (ov2 _) T2 (pg_name (i := 3) e_nd rfl (.inl rfl)) I hf2 st2 hjl (N := fun σ' H' => σ' = σ.set 3 (some (.int (0 + j))) ∧ H' = H) (fun x H1 y => ?_) fun pl2 σ' H' s' q1 q2 I' q3 q4 q5 => ?_
    · obtain ⟨rfl, rfl⟩ := y
      exact ⟨rfl, rfl⟩
    obtain ⟨rfl, rfl⟩ := q5
    have hσ' : (σ.set 3 (some (V.int (0 + j))))[1]? = some (some (.ref a)) := by rw [List.getElem?_set_ne (by decide)]; exact hσ
    obtain ⟨te, pe, rd⟩ := e_item ((eB P w K mg base L f cd A outer).cx TT gh.pv s₀) rfl rfl
    have ha' : SqT K H' a st.vs := sqt_same hS ha
    show Go _ A _ _ ((execs [eYield] _).wrap _ _ id id) _ s'
    refine go_cons ?_
    refine go_yields (NoGen.cons hn1) (ov2 _) ?_ (hco := rfl) (hi := rfl)
    refine wpAny_mono (pe.run _ s' _ H' _ I' (rd _ H' a st hσ' ha')) (fun v s1 h1 => ?_) fun _ _ z => False.elim z
    obtain ⟨x, H1, I1, rv, p, rfl, hs1, hp0, hp1⟩ := h1
    cases rv
    intro k l pos hk
    have hS1 : Same (hpT (eB P w K mg base L f cd A outer) TT gh.pv s₀.heap) H1 := hS.trans hs1
    have pinAt : ∀ b, (∃ o, (b, o) ∈ pl ++ pl2 ∧ ∀ v, o.data ≠ .cell v) → H1 b = none ∧ ∃ o, s1.heap.get? b = some o ∧ ∀ v, o.data ≠ .cell v := fun b ⟨o, ho, d⟩ => by
      obtain ⟨e1, e2, _⟩ := I1.pin (b, o) (List.mem_append_right _ ho)
      exact ⟨e2, o, e1, d⟩
    have atI : H1 it1 = none ∧ ∃ o, s1.heap.get? it1 = some o ∧ ∀ v, o.data ≠ .cell v := pinAt it1 (let ⟨o, h, d⟩ := hpl2; ⟨o, List.mem_append_left _ h, d⟩)
    have atF : ∀ b ∈ fp2, H1 b = none ∧ ∃ o, s1.heap.get? b = some o ∧ ∀ v, o.data ≠ .cell v := fun b hb => pinAt b (let ⟨o, h, d⟩ := q2 b hb; ⟨o, List.mem_append_right _ h, d⟩)
    have geF : ∀ b ∈ fp2, L ≤ b ∧ b ≠ L := fun b hb => ⟨cut_ge I (hf2 b hb).2.2.2.1 hL, (hf2 b hb).2.1⟩
    have pvIn : ∀ b ∈ L :: it1 :: fp2, L ≤ b ∧ H1 b = none := fun b hb => by
      rcases List.mem_cons.mp hb with e | hb
      · rw [e]; exact ⟨Nat.le_refl _, I1.free⟩
      · rcases List.mem_cons.mp hb with e | hb
        · rw [e]; exact ⟨hL1, atI.1⟩
        · exact ⟨(geF b hb).1, (atF b hb).1⟩
    have U1 : Up (eB P w K mg base L f cd A outer) TT (L :: it1 :: fp2) (pl ++ pl2) (σ.set 3 (some (V.int (0 + j)))) s1 := Up.of ok I1 (fun b xs e => by
      obtain ⟨o, ho⟩ := hex b xs e
      exact .inr ⟨o, hS1 b _ (hpT_tt e ho)⟩) List.mem_cons_self pvIn fun p hp => by
        rcases List.mem_append.mp hp with hp | hp
        · rw [hpl1 p hp]; exact List.mem_cons_of_mem _ List.mem_cons_self
        · exact List.mem_cons_of_mem _ (List.mem_cons_of_mem _ (q1 p hp))
    have newP : ∀ b, L ≤ b → H1 b = none → b ∈ gh.pv ∨ s₀.heap.get? b = none := fun b hb hn => hpT_none (hS1.free hn) hb
    have npv : p ∉ L :: it1 :: fp2 := fun z => by rw [(pvIn p z).2] at hp1; cases hp1
    refine ⟨.ref p, id false, l, k, _, pos, _, ⟨TT, L :: it1 :: fp2, [], []⟩, rfl, ?_, kept_inv ok (fun b hb _ => hTf b hb) I1 hS1, ⟨p, st.el, ?_⟩, ⟨⟨rfl, rfl, rfl⟩, fun b xs e => ?_, fun b hb => ?_, fun p hp => (nomatch hp), fun p hp => nomatch hp⟩, ?_⟩
    · show (!(false || (false || fs1.any Frame.guarded))) = true
      rw [hg1]; rfl
    · obtain ⟨hz, its, rits, ht⟩ := I1.hok p _ hp1
      refine ⟨its, rfl, ?_, npv, outs_at ps hst hjl hn.symm, rits, ht, hz⟩
      by_cases hpL : L ≤ p
      · rcases hpT_none (hS.free hp0) hpL with z | z
        · exact .inl z
        · exact .inr z
      · refine .inr ?_
        cases q : s₀.heap.get? p with
        | none => rfl
        | some o =>
          have e0 : hpT (eB P w K mg base L f cd A outer) TT gh.pv s₀.heap p = none := hS.free hp0
          have hlt : p < L := Nat.lt_of_not_le hpL
          have := I1.base.free p o (cut_some.mpr ⟨hlt, q⟩) (by
            show (if p < L then hpT (eB P w K mg base L f cd A outer) TT gh.pv s₀.heap p else none) = none
            rw [if_pos hlt, e0]) (fun z => nomatch z)
          rw [this] at hp1
          cases hp1
    · exact (U1.tt b xs e).1.2
    · obtain ⟨h1, h2⟩ := pvIn b hb
      refine ⟨newP b h1 h2, h1, ?_⟩
      rcases List.mem_cons.mp hb with e | hb
      · obtain ⟨m, ⟨o, es, ep, ho, hd, _⟩, _⟩ := I1.loc
        rw [e]
        exact ⟨o, ho, fun v z => by rw [hd] at z; cases z⟩
      · rcases List.mem_cons.mp hb with e | hb
        · rw [e]; exact atI.2
        · exact (atF b hb).2
    · rw [alv_iff]
      intro s3 Bk
      show Go _ A _ _ (k (.send .none)) _ s3
      rw [hk]
      show Go _ A _ _ ((execs [] _).wrap _ _ id id) _ s3
      refine go_nil (go_again rfl ?_)
      have U3 : Up (eB P w K mg base L f cd A outer) TT (L :: it1 :: fp2) (pl ++ pl2) (σ.set 3 (some (V.int (0 + j)))) s3 := U1.move Bk.bare Bk.base Bk.funs Bk.priv Bk.tt
      have I3 := U3.inv ok
      have hex3 : ∀ b xs, TT b = some xs → ∃ o, s3.heap.get? b = some o := fun b xs e => let ⟨⟨_, _, _, o, ho, _⟩, _⟩ := U3.tt b xs e; ⟨o, ho⟩
      have tr : ∀ b xs, SqT K (hpT (eB P w K mg base L f cd A outer) TT gh.pv s₀.heap) b xs → SqT K (hpT (eB P w K mg base L f cd A outer) TT (L :: it1 :: fp2) s3.heap) b xs := fun b xs q => by
        rcases q with q | q
        · have e : TT b = some xs := by
            rcases q with q | ⟨o', q⟩
            · obtain ⟨o, _, c⟩ := hpT_cases q
              rcases c with ⟨ys, _, e⟩ | ⟨_, _, e⟩ <;> cases e
            · obtain ⟨o, _, c⟩ := hpT_cases q
              rcases c with ⟨ys, e1, e⟩ | ⟨_, _, e⟩
              · cases e; exact e1
              · cases e
          obtain ⟨o, ho⟩ := hex3 b xs e
          exact .inl (.inr ⟨o, hpT_tt e ho⟩)
        · exact .inr q
      have pinned3 : ∀ p ∈ pl ++ pl2, s3.heap.get? p.1 = some p.2 := fun p hp => (U3.pin p hp).1
      have hfp : ∀ b ∈ fp2, hpT (eB P w K mg base L f cd A outer) TT (L :: it1 :: fp2) s3.heap b = none := fun b hb => hpT_out (U3.noTT (.inr (.inr (List.mem_cons_of_mem _ (List.mem_cons_of_mem _ hb))))) (.inr (List.mem_cons_of_mem _ (List.mem_cons_of_mem _ hb)))
      have hr : n = (st.cnt - (j + 1)) + remN (ps.drop (i + 1)) := by omega
      rw [hr]
      refine ih (j + 1) (by omega) ⟨TT, L :: it1 :: fp2, [], []⟩ s3 s3 _ _ pl rfl I3.unpinned (Same.refl _) ?_ hex3 (let ⟨as, h1, h2⟩ := hpr; ⟨as, tr _ _ h1, Paired.imp (fun _ _ q => tr _ _ q) h2⟩) (tr _ _ ha) hpl1 hpl2 hpl3 hL1 hne1 hσ' (q3 _ fun p hp => pinned3 p (List.mem_append_right _ hp)) (fun b hb => ?_)
      · obtain ⟨m, hm, _⟩ := U3.loc
        exact hm.lt
      · refine fp_of ok (hfp b hb) (geF b hb).1 (geF b hb).2 fun p hp => (hf2 b hb).2.2.2.2.2 p (by simpa [Bd.cx] using hp)
end
end Gk

/-! El3 -/
set_option Elab.async false
set_option linter.all false
set_option maxRecDepth 100000
set_option maxHeartbeats 2000000
namespace Gk
open PySem PySem.Spec PyProof.Rows L2
section
variable {P : Program} {w : World} {K : PySem.W.Frag} {mg : Str → Option Value} {base : Heap} {L f : Addr} {cd : Value} {A : Around} {outer : List Env} {TT : Addr → Option (List V)} {ps : List Sx} {pa it1 : Addr}
theorem remN_drop (ps : List Sx) {i : Nat} {st : Sx} (h : ps[i]? = some st) : remN (ps.drop i) = (st.cnt - 0) + remN (ps.drop (i + 1)) := by
  have hi : i < ps.length := (List.getElem?_eq_some_iff.mp h).1
  have e1 : ps[i] = st := (List.getElem?_eq_some_iff.mp h).2
  rw [List.drop_eq_getElem_cons hi, e1]
  show st.cnt + remN _ = _
  omega
theorem e_out (ok : (eB P w K mg base L f cd A outer).Ok) (hTf : ∀ b ∈ frs outer, TT b = none) (hcnt : ∀ st ∈ ps, st.cnt < 2 ^ 62) (hm : mg "range" = none) {k1 : Result → Sem PySem.Fin} {p1 : Pos} {h1 : List Value}
    (hk1 : k1 (.ok .next) = leafOf (.ok (.ret .none))) : ∀ r i, i + r = ps.length →
      EOut P w K mg base L f cd A outer TT ps pa it1 [.ret k1 none false h1 (.func (defBody sElem) (envOfC "elementary" (defScope sElem) L f cd)) p1 []] i := by
  have ov : ∀ tg it body, A.over (.forLoop tg it body [] (envOfC "elementary" (defScope sElem) L f cd)) [.ret k1 none false h1 (.func (defBody sElem) (envOfC "elementary" (defScope sElem) L f cd)) p1 []] = (eB P w K mg base L f cd A outer).A := fun tg it body =>
    (GenW.over_loop rfl rfl).trans GenW.over_func
  intro r
  induction r with
  | zero =>
    intro i hi gh s₀ s σ H hTT I hS hL hex hpr hit hH hL1 hne1
    obtain ⟨as, hq, hps⟩ := hpr
    have hlen : as.length = ps.length := Paired.length hps
    refine go_stop (J := Itt K pa) (ov _ _ _) (turn_tuple pa it1) I (fun b hb => ?_) hit ⟨_, sqt_same hS hq, by rw [List.length_map, hlen]; omega⟩ fun s' I' => ?_
    · rw [List.mem_singleton.mp hb]
      exact fp_of ok hH hL1 hne1 fun p hp => nomatch hp
    · refine sg_done ?_
      rw [hk1]
      refine go_end (.ok (.ret .none)) ?_
      have hz : remN (ps.drop i) = 0 := by
        rw [List.drop_eq_nil_of_le (by omega)]
        rfl
      rw [hz]
      exact ⟨.inl rfl, kept_inv ok (fun b hb _ => hTf b hb) I' hS⟩
  | succ r ih =>
    intro i hi gh s₀ s σ H hTT I hS hL hex hpr hit hH hL1 hne1
    have hil : i < ps.length := by omega
    obtain ⟨as, hq, hps⟩ := id hpr
    have hlen : as.length = ps.length := Paired.length hps
    obtain ⟨a, ha⟩ : ∃ a, as[i]? = some a := ⟨as[i]'(by omega), List.getElem?_eq_getElem (by omega)⟩
    obtain ⟨st, hst, hsq⟩ := Paired.at hps ha
    have hq' := sqt_same hS hq
    refine go_item (J := Itt K pa) (ov _ _ _) (turn_tuple pa it1) (pg_name (i := 1) e_nd rfl (.inl rfl)) I (fun b hb => ?_) hit ⟨_, .ref a, hq', by rw [List.getElem?_map, ha]; rfl⟩ (N := fun σ' H' => σ' = σ.set 1 (some (.ref a)) ∧ H' = H) (fun x H1 y => ?_) fun pl σ' H' s' q1 q2 I' q3 q4 q5 => ?_
    · rw [List.mem_singleton.mp hb]
      exact fp_of ok hH hL1 hne1 fun p hp => nomatch hp
    · obtain ⟨rfl, y⟩ := y
      have e := y _ hq'
      rw [List.getElem?_map, ha] at e
      cases e
      exact ⟨rfl, rfl⟩
    obtain ⟨rfl, rfl⟩ := q5
    have hl2 : 1 < σ.length := by rw [I.len]; show 1 < eN.length; decide
    have hσ' : (σ.set 1 (some (V.ref a)))[1]? = some (some (.ref a)) := List.getElem?_set_self hl2
    have hsq' : SqT K H' a st.vs := sqt_same hS hsq
    have I'' : Inv ((eB P w K mg base L f cd A outer).cx TT gh.pv s₀) pl (σ.set 1 (some (V.ref a))) H' s' := by simpa using I'
    show Go _ A _ _ ((execs [eIf] _).wrap _ _ id id) _ s'
    refine go_cons ?_
    obtain ⟨tt, pt, rdt⟩ := e_test ((eB P w K mg base L f cd A outer).cx TT gh.pv s₀) rfl rfl
    refine sg_if (ov _ _ _) (wpAny_mono (pt.run _ s' _ H' (fun b H1 => b = false ∧ H1 = H') I'' (rdt _ H' a st _ hσ' hsq' ⟨rfl, rfl⟩)) (fun d s1 h1 => ?_) fun _ _ z => False.elim z)
    obtain ⟨H1, I1, rfl, rfl⟩ := h1
    show Go _ A _ _ ((execs [eFor2] _).wrap _ _ id id) _ s1
    refine go_cons ?_
    obtain ⟨wi, pi, rdr⟩ := e_range ((eB P w K mg base L f cd A outer).cx TT gh.pv s₀) rfl rfl hm
    have hc : st.cnt < 2 ^ 62 := hcnt st (List.mem_of_getElem? hst)
    refine sg_for (tg := forTg eFor2) (iter := forIt eFor2) (body := forBd eFor2) (ov _ _ _) (wpAny_mono (pi.run _ s1 _ H1 (fun J H2 => J = Itr 0 st.cnt ∧ H2 = H1) I1 (rdr _ H1 a st _ hc hσ' hsq' ⟨rfl, rfl⟩)) (fun v s2 h2 => ?_) fun _ _ z => False.elim z)
    refine wpAny_mono h2 (fun itv s3 h3 => ?_) fun _ _ z => False.elim z
    obtain ⟨it2, fp2, tn2, J, H2, rfl, I3, T2, st2, hf2, rfl, rfl⟩ := h3
    intro p2
    rw [remN_drop ps hst]
    refine e_in ok hTf hst T2 (ov _ _ _) (NoGen.cons NoGen.nil) rfl rfl (ih (i + 1) (by omega)) st.cnt 0 (by omega) gh s₀ s3 _ _ pl hTT I3 hS hL hex hpr hsq (fun p hp => List.mem_singleton.mp (q1 p hp)) (q2 it1 (List.mem_singleton.mpr rfl)) q3 hL1 hne1 hσ' st2 hf2
/-- for step in program -/
theorem e_prog (X : Cx) (hN : X.N = eN) (he : X.env.scope = defScope sElem) : ∃ wi, PE X (forIt eFor) wi ∧ ∀ (σ : L2.St) (H : Hp) (v : V) (Q : VK), σ[0]? = some (some v) → Q v H → wi σ H Q :=
  ⟨_, L2.pv 0 (by rw [hN]; rfl) (by rw [he]; exact .inl rfl), fun σ H v Q h q => ⟨v, h, q⟩⟩
/-- THE GENERATOR elementary, not begun -/
theorem e_alv (ok : (eB P w K mg base L f cd A outer).Ok) (hTf : ∀ b ∈ frs outer, TT b = none) (hcnt : ∀ st ∈ ps, st.cnt < 2 ^ 62) (hm : mg "range" = none) {s : Shared} {σ : L2.St} (U : Up (eB P w K mg base L f cd A outer) TT [L] [] σ s) (hσ : σ[0]? = some (some (.ref pa)))
    (hpr : ∀ h : Heap, (∀ b xs, TT b = some xs → ∃ o, h.get? b = some o) → IsProg K (hpT (eB P w K mg base L f cd A outer) TT [L] h) pa ps) :
    Alv (model P w) (eB P w K mg base L f cd A outer) A (eIt (ps.flatMap Sx.outs)) (fun gh => gh.TT = TT ∧ gh.ex = [] ∧ gh.sl = []) (fun _ => False) (remN ps) ⟨TT, [L], [], []⟩ (.fresh (.func (defBody sElem) (envOfC "elementary" (defScope sElem) L f cd))) s := by
  rw [alv_iff]
  intro s' Bk
  have U' : Up (eB P w K mg base L f cd A outer) TT [L] [] σ s' := U.move Bk.bare Bk.base Bk.funs Bk.priv Bk.tt
  have I := U'.inv ok
  have hex : ∀ b xs, TT b = some xs → ∃ o, s'.heap.get? b = some o := fun b xs e => let ⟨⟨_, _, _, o, ho, _⟩, _⟩ := U'.tt b xs e; ⟨o, ho⟩
  have hp := hpr s'.heap hex
  have hL : L < s'.heap.objs.size := let ⟨_, hm, _⟩ := U'.loc; hm.lt
  obtain ⟨as, hq, hps⟩ := id hp
  show Go _ A _ (.func (defBody sElem) _) _ [] s'
  refine go_func ?_
  show Go _ A _ _ ((execs [eFor] _).wrap _ _ id id) [] s'
  refine go_cons ?_
  obtain ⟨wi, pe, rd⟩ := e_prog ((eB P w K mg base L f cd A outer).cx TT [L] s') rfl rfl
  refine sg_for (tg := forTg eFor) (iter := forIt eFor) (body := forBd eFor) GenW.over_func (wpAny_mono (pe.run _ s' _ _ (fun v H1 => v = .ref pa ∧ H1 = hpT (eB P w K mg base L f cd A outer) TT [L] s'.heap) I (rd _ _ _ _ hσ ⟨rfl, rfl⟩)) (fun v s1 h1 => ?_) fun _ _ z => False.elim z)
  obtain ⟨x, H1, I1, rv, rfl, rfl⟩ := h1
  cases rv
  obtain ⟨its, rits, ht, hz⟩ := I1.tuple hq
  refine wpAny_pyIter_tuple (show s1.heap.IsTuple pa its.toArray from ht) ?_
  intro p1
  have n0 : hpT (eB P w K mg base L f cd A outer) TT [L] s'.heap s1.heap.objs.size = none := I1.hok.fresh (Nat.le_refl _)
  have I2 : Inv ((eB P w K mg base L f cd A outer).cx TT [L] s') [] σ (hpT (eB P w K mg base L f cd A outer) TT [L] s'.heap) { s1 with heap := s1.heap.push { cls := .type "tuple_iterator", data := .fields #[.ref pa, .int 0 0] } } := I1.kept (t' := s1.toks) fun b o e => Heap.get?_push_of_some _ e
  have hge : L < s1.heap.objs.size := I1.lt
  have e0 : ps.drop 0 = ps := rfl
  have main := e_out (pa := pa) (it1 := s1.heap.objs.size) ok hTf hcnt hm (k1 := backK (envOfC "elementary" (defScope sElem) L f cd) (fun f_1 => match f_1 with
      | .next => (execs [] (envOfC "elementary" (defScope sElem) L f cd)).wrap (fun f => .pure (.done (.ret (match f with | .ret v => v | _ => .none)))) (fun e => (leaving (envOfC "elementary" (defScope sElem) L f cd) e).wrap (fun _ => .raise e) .raise id id) id id
      | f_2 => .pure (.done (.ret (match f_2 with | .ret v => v | _ => .none)))) (fun e => (leaving (envOfC "elementary" (defScope sElem) L f cd) e).wrap (fun _ => .raise e) .raise id id) id id) (p1 := p1) (h1 := []) rfl ps.length 0 (by omega) ⟨TT, [L], [], []⟩ s' _ σ _ rfl I2 (Same.refl _) hL hex hp ⟨_, Heap.get?_push_size _ rfl, rfl, rfl⟩ n0 (Nat.le_of_lt hge) (Nat.ne_of_gt hge)
  exact main
end
end Gk

/-! Mk -/
set_option Elab.async false
set_option linter.all false
set_option maxRecDepth 100000
set_option maxHeartbeats 2000000
namespace Gk
open PySem PySem.Spec PyProof.Rows L2
/-! ### a generator is made -/
/-- a fresh generator at a, number g, its frame at L; the consumer's state was s -/
structure Made (X : Cx) (N : List Str) (qual : Str) (scope : Scope) (f : Addr) (cdv : Value) (body : List Stmt) (vs : List V) (H : Hp) (s s' : Shared) (a : Addr) : Prop where
  gens : s'.gens = s.gens.push (.fresh (.func body (envOfC qual scope s.heap.objs.size f cdv)))
  gen : s'.heap.IsGen a s.gens.size
  lt : s.heap.objs.size < a
  ltz : a < s'.heap.objs.size
  nogen : ∃ o, s'.heap.get? a = some o ∧ ∀ v, o.data ≠ .cell v
  keep : ∀ b o, s.heap.get? b = some o → s'.heap.get? b = some o
  os : s'.os = s.os
  fr : ∃ o, s'.heap.get? s.heap.objs.size = some o ∧ ∀ v, o.data ≠ .cell v
  up : ∀ Aw : Around, Aw.handled = none → Aw.frames = some X.stack →
    Bd.Ok ⟨X.prog, X.w, X.K, X.mg, X.base, Aw.deeper (envOfC qual scope s.heap.objs.size f cdv), N, envOfC qual scope s.heap.objs.size f cdv, X.stack⟩ ∧
    Up ⟨X.prog, X.w, X.K, X.mg, X.base, Aw.deeper (envOfC qual scope s.heap.objs.size f cdv), N, envOfC qual scope s.heap.objs.size f cdv, X.stack⟩ (tups H) [s.heap.objs.size] [] (start N vs) s'
theorem gen_made {X : Cx} {pins : List (Addr × Obj)} {σ : L2.St} {H : Hp} {s : Shared} {f : Addr} {name qual : Str} {params : Arguments} {body : List Stmt} {scope : Scope} {dV kV doc pm cdv ct oc : Value} {an od : Option Addr} {osl : Array (Option Value)} {N ps : List Str} {us us' : List Value} {vs : List V} {k : Nat} {Q : Value → Shared → Prop} {E : Value → Shared → Prop}
    (I : Inv X pins σ H s) (lk : X.K.lookup f = some ⟨oc, od, .func (PySem.W.fnOf name qual params body scope dV kV doc pm an cdv ct), osl⟩) (hcd : PySem.W.codeIn X.K cdv qual = true) (S : GScope N ps scope) (hnc : ∀ n, cellsFrom n scope.names [] = []) (hnm : ∀ y ∈ scope.names, y.2 ≠ .cell ∧ y.2 ≠ .free)
    (hr : Room k X.A) (hb : BindsTo s (PySem.W.fnOf name qual params body scope dV kV doc pm an cdv ct) ⟨us, []⟩ (ps.zip us')) (hl : vs.length = ps.length) (r : Vals vs us')
    (hQ : ∀ a s', Made X N qual scope f cdv body vs H s s' a → Inv X pins σ H s' → Q (.ref a) s') : wpAny (model X.prog X.w) X.A (call (.ref f) us) Q E s := by
  have KX : X.K.In s.heap := I.kIn
  have lim : s.heap.NoLimit := I.nolimit
  have hkind : ∀ y ∈ ps.zip us', scope.names.lookup y.1 = some .local ∨ (scope.names.lookup y.1 = some .cell ∧ ((cellsFrom (s.heap.objs.size + 1) scope.names []).lookup y.1).isSome = true) := fun ⟨n, v⟩ hy => by
    rcases S.par n (List.of_mem_zip hy).1 with q | q
    · exact .inl q
    · exact .inr ⟨q, PySem.W.cellsFrom_some _ _ _ (.inl q)⟩
  refine wpAny_call (codeAny_call_generator hr.depth (KX _ _ lk) rfl S.co S.gen rfl (PySem.W.codeRec_of KX hcd) (hb _ _ _ _ ?_))
  refine wpAny_newFunctionEnv_cells S.kind hkind fun env he s1 x => ?_
  subst he
  have lim1 : s1.heap.NoLimit := lim.keeps x.toInCall.keep
  refine ⟨lim1, ?_⟩
  obtain ⟨h1, tk, es1, hk1⟩ := x.done
  have os1 : s1.os = s.os := by rw [es1]
  have gen1 : s1.gens = s.gens := by rw [es1]
  have lt1 : s.heap.objs.size < s1.heap.objs.size := x.toInCall.ns.lt
  have kp1 : ∀ b o, s.heap.get? b = some o → s1.heap.get? b = some o := x.toInCall.keep
  have main : ∀ (go : Obj) (nm qn : Value) (tk2 : Nat), go.cls = .type "generator" → go.data = .fields #[.int s1.gens.size 0, nm, qn] → go.slots = #[] → (∀ h : Heap, (h.push go).get? h.objs.size = some go) →
      Q (.ref s1.heap.objs.size) { s1 with gens := s1.gens.push (.fresh (.func body (envOfC qual scope s.heap.objs.size f cdv))), toks := tk2, heap := s1.heap.push go } := by
    intro go nm qn tk2 hgc hgd hgs hgp
    have hb2 : AllBare (s1.gens.push (.fresh (.func body (envOfC qual scope s.heap.objs.size f cdv)))) := AllBare.push (by rw [gen1]; exact I.bare) rfl
    have kp2 : ∀ b o, s.heap.get? b = some o → (s1.heap.push go).get? b = some o := fun b o e => Heap.get?_push_of_some _ (kp1 b o e)
    have I2 : Inv X pins σ H { s1 with gens := s1.gens.push (.fresh (.func body (envOfC qual scope s.heap.objs.size f cdv))), toks := tk2, heap := s1.heap.push go } :=
      I.call' (ch := []) os1 (Un.kept kp2) (I.hok.kept kp2) hb2 fun b z => nomatch z
    refine hQ _ _ ⟨?_, ?_, lt1, ?_, ⟨go, hgp _, fun v z => by rw [hgd] at z; cases z⟩, kp2, os1, ?_, fun Aw hAd hAf => ?_⟩ I2
    · show s1.gens.push _ = s.gens.push _
      rw [gen1]
    · exact ⟨go, nm, qn, hgp _, hgc, by rw [hgd, gen1], hgs⟩
    · show _ < (s1.heap.push _).objs.size
      rw [Heap.size_push]; exact Nat.lt_succ_self _
    · obtain ⟨o, es, ep, ho, hd, _⟩ := x.toInCall.ns
      exact ⟨o, Heap.get?_push_of_some _ ho, fun v z => by rw [hd] at z; cases z⟩
    · have e0 : Env0 X.prog X.w X.K X.mg X.base Aw X.stack s H := ⟨hAf, I.ok.mod, I.bs, Nat.le_trans I.ok.bsz I.sz, I.stack, I.stkFree, I.hok, I.bare⟩
      have I1 : Inv (gcxOf X.prog X.w X.K X.mg X.base N qual scope f cdv Aw X.stack s H (fun _ _ _ => False) []) [] (start N vs) H s1 := inv_startG S hAd e0 hl r x
      have frL : ∀ b ∈ frs X.stack, b < s.heap.objs.size := fun b hb => by
        rcases List.mem_cons.mp (I.stkSub b hb) with e | hb
        · rw [e]; exact I.lt
        · obtain ⟨_, o, ho, _⟩ := I.funs.mem hb
          exact Heap.lt_size ho
      refine ⟨⟨I.ok.mod, S.kind, rfl, rfl, hnc _, hnm, hAd, Around.frames_deeper hAf, rfl, Nat.le_trans I.ok.bsz I.sz, frL⟩, ⟨hb2, fun b o e => kp2 b o (I.bk b o e), ?_, fun b xs e => ?_, ?_, fun p hp => (nomatch hp), List.mem_singleton.mpr rfl, fun b hb => by rw [List.mem_singleton.mp hb]; exact Nat.le_refl _, I1.len⟩⟩
      · exact PySem.Heap.FunFrames.of_keeps (fun b o e _ => ⟨o, kp2 b o e, rfl⟩) I.stack
      · have rd := tups_rd e
        have hn : H b ≠ none := by
          rcases rd with rd | ⟨o, rd⟩
          · rw [rd]; exact fun z => nomatch z
          · rw [rd]; exact fun z => nomatch z
        obtain ⟨hz, its, rv, ht⟩ := rd.ok I2.hok
        refine ⟨⟨hz, its, rv, ht⟩, ?_, fun z => hn (I.stkFree b z), fun z => hn ?_⟩
        · cases q : X.base.get? b with
          | none => rfl
          | some o => exact absurd (I.bs b o q).2 hn
        · rw [List.mem_singleton.mp z]
          exact I.hok.fresh (Nat.le_refl _)
      · obtain ⟨m, hn, hlo⟩ := I1.loc
        obtain ⟨o, es, ep, ho, hrest⟩ := hn
        refine ⟨m, ⟨o, es, ep, Heap.get?_push_of_some _ ho, hrest⟩, fun i y v e1 e2 e3 => ?_⟩
        obtain ⟨u, ru, l⟩ := hlo i y v e1 e2 e3
        refine ⟨u, ru, ?_⟩
        rcases l with ⟨_, e⟩ | ⟨_, c, e, _⟩
        · exact e
        · have e' : (cellsFrom (s.heap.objs.size + 1) scope.names []).lookup y = some c := e
          rw [hnc] at e'
          cases e'
  exact main _ _ _ _ rfl rfl rfl fun h => Heap.get?_push_size _ rfl
/-! ### enumerate over it -/
theorem meets_enum_gen (a g : Nat) (o : Obj) :
    Meets (Builtin.«enumerate.__new__» ⟨[.type "enumerate", .ref a], []⟩) (fun _ R s => s.heap.IsGen a g ∧
      R (.ok (.ret (.ref s.heap.objs.size))) { s with heap := s.heap.push { cls := .type "enumerate", data := .fields #[.none, .bool false, .ref a, rawInt 0, .none, .none] } }) :=
  .of_wp fun prog w A R s h => by
    obtain ⟨hp, gg, d, tk, os⟩ := s
    obtain ⟨hg, h⟩ := h
    have hsub := sub_enumerate
    have hG : (Shared.heap ⟨hp, gg, d, tk, os⟩).IsGen a g := hg
    obtain ⟨oo, nm, qn, ho, hc, hd, hs⟩ := id hg
    wp_walk using AutoSeq1.wpAny_loadPart' ho
    refine wpAny_stack_any fun st => wpAny_pure ?_
    split
    · rename_i c _ _ _ _ _
      cases (c == Value.type "enumerate")
      · wp_walk using AutoSeq1.wpAny_loadPart' ho, wpAny_pyIter_gen hG
        exact ⟨_, rfl, h⟩
      · wp_walk using AutoSeq1.wpAny_loadPart' ho, wpAny_pyIter_gen hG
        exact ⟨_, rfl, h⟩
    · wp_walk using AutoSeq1.wpAny_loadPart' ho, wpAny_pyIter_gen hG
      exact ⟨_, rfl, h⟩
theorem call_enum_gen {prog : Program} {w : World} {A : Around} {E : Value → Shared → Prop} {s : Shared} {a : Addr} {g : Nat} {Q : Value → Shared → Prop} (hg : s.heap.IsGen a g)
    (h : ∀ h', IsEnum h' s.heap.objs.size a 0 .none → h'.objs.size = s.heap.objs.size + 1 → (∀ b o, s.heap.get? b = some o → h'.get? b = some o) → Q (.ref s.heap.objs.size) { s with heap := h' }) :
    wpAny (model prog w) A (call (.type "enumerate") [.ref a]) Q E s := by
  obtain ⟨oo, nm, qn, ho, hc, hd, hs⟩ := id hg
  refine callType_new F.called_enumerate (by decide) (F.typeCall_enumerate_1 _) (F.newCall_enumerate_1 _) (fun obj => F.args_object_init_2 obj _) F.entry_enumerate_new
    (meets_enum_gen a g oo) ⟨hg, ?_⟩
  show _ ∧ _
  have he : IsEnum (s.heap.push { cls := .type "enumerate", data := .fields #[.none, .bool false, .ref a, rawInt 0, .none, .none] }) s.heap.objs.size a 0 .none := Heap.get?_push_size _ rfl
  exact ⟨⟨_, he, rfl⟩, h _ he (Heap.size_push ..) fun b o x => Heap.get?_push_of_some _ x⟩
end Gk

/-! En -/
set_option Elab.async false
set_option linter.all false
set_option maxRecDepth 100000
set_option maxHeartbeats 2000000
namespace Gk
open PySem PySem.Spec PyProof.Rows L2
section
variable {P : Program} {w : World} {A : Around} {E : Value → Shared → Prop} {s : Shared} {e a : Addr} {i : Nat} {old : Value}
/-- what next(enumerate) has made of the item x -/
structure EnOut (e a : Addr) (i : Nat) (x : Value) (s1 : Shared) (h' : Heap) : Prop where
  out : IsEnumOut h' e a ((i : Int) + 1) x s1.heap.objs.size
  tup : h'.get? s1.heap.objs.size = some { cls := .type "tuple", data := .seq #[.int i s1.toks, x] }
  size : h'.objs.size = s1.heap.objs.size + 1
  keep : ∀ b o, b ≠ e → s1.heap.get? b = some o → h'.get? b = some o
theorem next_enum {Q : Option Value → Shared → Prop} (he : IsEnum s.heap e a i old)
    (h : wpAny (model P w) A.in1 (Builtin.SmallTypes.nextOf (.ref a)) (fun x s1 => IsEnum s1.heap e a i old ∧ ∀ h', EnOut e a i x s1 h' → Q (some (.ref s1.heap.objs.size)) { s1 with heap := h', toks := s1.toks + 1 })
      (fun x s1 => ∃ b o, x = .ref b ∧ s1.heap.get? b = some o ∧ o.cls = .type "StopIteration" ∧ Q none s1) s) : wpAny (model P w) A (pyNext (.ref e)) Q E s := by
  have hT : s.TypeIs (.ref e) "enumerate" := ⟨_, he, rfl⟩
  unfold pyNext
  refine wpAny_bind (wpAny_attempt (wpAny_callSpecial?_slot (name := Str.ofString "__next__") hT F.slot_enumerate_next
    (wpAny_call_entry F.slot_enumerate_next hT F.entry_enumerate_next ?_ (F.args_enumerate_next_1 _))))
  show wpAny _ _ (field (.ref e) 2 >>= _) _ _ _
  refine wpAny_bind (wpAny_field he rfl (x := .ref a) rfl ?_)
  refine wpAny_bind (wpAny_mono h (fun x s1 hx => ?_) fun x s1 hx => ?_)
  · obtain ⟨he₁, hx⟩ := hx
    obtain ⟨h₁, g, d, tk, os⟩ := s1
    replace he₁ : IsEnum h₁ e a i old := he₁
    show wpAny _ _ (field (.ref e) 3 >>= _) _ _ ⟨h₁, g, d, tk, os⟩
    refine wpAny_bind (wpAny_field he₁ rfl (x := rawInt i) rfl ?_)
    show wpAny _ _ (field (.ref e) 4 >>= _) _ _ ⟨h₁, g, d, tk, os⟩
    refine wpAny_bind (wpAny_field he₁ rfl (x := .none) rfl ?_)
    show wpAny _ _ (mkInt i >>= _) _ _ ⟨h₁, g, d, tk, os⟩
    refine wpAny_bind (wpAny_mkInt ?_)
    show wpAny _ _ (setField (.ref e) 3 (rawInt ((i : Int) + 1)) >>= _) _ _ ⟨h₁, g, d, tk + 1, os⟩
    refine wpAny_bind (wpAny_setField_rec he₁ (by simp) fun h₂ he₂ hs₂ => ?_)
    replace hs₂ : Heap.SameBut e h₁ h₂ := hs₂
    replace he₂ : IsEnum h₂ e a ((i : Int) + 1) old := he₂
    show wpAny _ _ (setField (.ref e) 4 .none >>= _) _ _ ⟨h₂, g, d, tk + 1, os⟩
    refine wpAny_bind (wpAny_setField_rec he₂ (by simp) fun h₃ he₃ hs₃ => ?_)
    replace hs₃ : Heap.SameBut e h₂ h₃ := hs₃
    replace he₃ : IsEnum h₃ e a ((i : Int) + 1) old := he₃
    show wpAny _ _ (newTuple [.int i tk, x] >>= _) _ _ ⟨h₃, g, d, tk + 1, os⟩
    refine wpAny_bind (wpAny_newTuple ?_)
    have he₄ : IsEnum (h₃.push { cls := .type "tuple", data := .seq #[.int i tk, x] }) e a ((i : Int) + 1) old := Heap.get?_push_of_some _ he₃
    generalize hh₄ : h₃.push { cls := .type "tuple", data := .seq #[.int i tk, x] } = h₄ at he₄
    have hsz : h₃.objs.size = h₁.objs.size := by rw [hs₃.1, hs₂.1]
    have hel : e < h₁.objs.size := Heap.lt_size he₁
    have ht₄ : h₄.get? h₁.objs.size = some { cls := .type "tuple", data := .seq #[.int i tk, x] } := by rw [← hh₄, ← hsz]; exact Heap.get?_push_size _ rfl
    have hz₄ : h₄.objs.size = h₁.objs.size + 1 := by rw [← hh₄, Heap.size_push, hsz]
    have hk₄ : ∀ b o, b ≠ e → h₁.get? b = some o → h₄.get? b = some o := fun b o hbe hb => by
      rw [← hh₄]; exact Heap.get?_push_of_some _ (hs₃.extBut b o hbe (hs₂.extBut b o hbe hb))
    show wpAny _ _ (Builtin.SmallTypes.ownedTupleIsFree (.ref e) >>= _) _ _ ⟨h₄, g, d, tk + 1, os⟩
    rw [hsz]
    clear hh₄ he₃ hs₃ he₂ hs₂ hsz h₃ h₂
    refine wpAny_bind ?_
    · unfold Builtin.SmallTypes.ownedTupleIsFree
      refine wpAny_bind (wpAny_field he₄ rfl (x := .none) rfl (wpAny_pure ?_))
      simp only [if_true]
      refine wpAny_bind (wpAny_rule ?_)
      refine wpAny_bind (wpAny_field he₄ rfl (x := old) rfl ?_)
      refine wpAny_bind (wpAny_setField_rec he₄ (by simp) fun h₅ he₅ hs₅ => ?_)
      replace hs₅ : Heap.SameBut e h₄ h₅ := hs₅
      replace he₅ : IsEnum h₅ e a ((i : Int) + 1) x := he₅
      show wpAny _ _ (Builtin.SmallTypes.ownedTupleHandOut (.ref e) (.ref h₁.objs.size) >>= _) _ _ ⟨h₅, g, d, tk + 1, os⟩
      refine wpAny_bind ?_
      · unfold Builtin.SmallTypes.ownedTupleHandOut
        refine wpAny_bind (wpAny_setField_rec he₅ (by simp) fun h₆ he₆ hs₆ => ?_)
        replace hs₆ : Heap.SameBut e h₅ h₆ := hs₆
        replace he₆ : IsEnumOut h₆ e a ((i : Int) + 1) x h₁.objs.size := he₆
        refine wpAny_setField_rec he₆ (by simp) fun h₇ he₇ hs₇ => ?_
        replace hs₇ : Heap.SameBut e h₆ h₇ := hs₇
        replace he₇ : IsEnumOut h₇ e a ((i : Int) + 1) x h₁.objs.size := he₇
        refine wpAny_bind (wpAny_letGo (wpAny_pure ⟨_, rfl, wpAny_pure (hx h₇ ⟨he₇, ?_, ?_, ?_⟩)⟩))
        · exact hs₇.extBut _ _ (Nat.ne_of_gt hel) (hs₆.extBut _ _ (Nat.ne_of_gt hel) (hs₅.extBut _ _ (Nat.ne_of_gt hel) ht₄))
        · rw [hs₇.1, hs₆.1, hs₅.1, hz₄]
        · exact fun b o hbe hb => hs₇.extBut b o hbe (hs₆.extBut b o hbe (hs₅.extBut b o hbe (hk₄ b o hbe hb)))
  · obtain ⟨b, o, rfl, ho, hc, hq⟩ := hx
    refine wpAny_bind (wpAny_isInstance (T := "StopIteration") (b := true) ⟨o, ho, hc⟩ isSubtype_stop ?_)
    exact wpAny_pure hq
/-- the item of a generator -/
theorem nextOf_gen {g : Nat} {gs : GenState} {F : End → Shared → Prop} {Q : Value → Shared → Prop} (hh : A.handled = none) (hl : s.heap.NoLimit) (hroom : A.depth < recursionLimit) (hg : s.heap.IsGen a g) (hgs : s.gens[g]? = some gs) (hw : Wk (model P w) A.in1 F gs (s.setGen g .running))
    (hF : ∀ e s1, F e s1 → s.gens.size ≤ s1.gens.size → Out Q g e s1 ∨ Ended E g e s1) : wpAny (model P w) A (Builtin.SmallTypes.nextOf (.ref a)) Q E s := by
  unfold Builtin.SmallTypes.nextOf
  refine wpAny_bind (call_next hh hl hroom hg hgs hw fun e s1 he hz => ?_)
  rcases hF e s1 he hz with ⟨v, gd, l, k, c, p, fs, h1, h2, h3⟩ | h
  · exact .inl ⟨v, gd, l, k, c, p, fs, h1, h2, wpAny_pure h3⟩
  · exact .inr h
end
end Gk

/-! Ot -/
set_option Elab.async false
set_option linter.all false
set_option maxRecDepth 100000
set_option maxHeartbeats 2000000
namespace Gk
open PySem PySem.Spec PyProof.Rows L2
theorem obj_there {P : Program} {w : World} {H : Hp} {h : Heap} {a : Addr} {o : HO} (x : ObjOk P w H h a o) : ∃ ob, h.get? a = some ob := by
  cases o with
  | lst xs => obtain ⟨_, _, _, _, e⟩ := x; exact ⟨_, e⟩
  | tup xs => obtain ⟨_, _, _, ob, e, _⟩ := x; exact ⟨_, e⟩
  | dK kvs => obtain ⟨_, _, _, _, o, _, _, e, _⟩ := x; exact ⟨_, e⟩
  | dT kvs => obtain ⟨_, _, _, _, o, _, _, e, _⟩ := x; exact ⟨_, e⟩
  | set S n => obtain ⟨o, _, _, _, e, _⟩ := x; exact ⟨_, e⟩
  | ins C dx fs => obtain ⟨_, _, _, e, _⟩ := x; exact ⟨_, e⟩
  | own y => exact x
  | xd fs => obtain ⟨_, ⟨_, _, _, e, _⟩, _⟩ := x; exact ⟨_, e⟩
  | rng lo hi => obtain ⟨_, _, _, e⟩ := x; exact ⟨_, e⟩
  | frz ob u => exact ⟨_, x.1⟩
  | tbl ps => exact ⟨_, x⟩
  | met f y => exact ⟨_, x⟩
  | ext φ => exact x.2.1
section
variable {X : Cx} {pins : List (Addr × Obj)} {σ : L2.St} {H : Hp} {s : Shared}
theorem inv_gone (I : Inv X pins σ H s) {b : Addr} (h : s.heap.get? b = none) : H b = none := by
  cases e : H b with
  | none => rfl
  | some u =>
    obtain ⟨o, q⟩ := obj_there (I.hok b u e)
    rw [h] at q
    cases q
/-- an object that stands is told of -/
theorem inv_obj (I : Inv X pins σ H s) {t : Addr} {ob : HO} (new : ObjOk X.prog X.w (upd H t ob) s.heap t ob) (hn : H t = none) (h0 : X.s_0.heap.get? t = none) (hL : t ≠ X.env.locals) (hc : ∀ x c, X.env.cells.lookup x = some c → c ≠ t) (hp : ∀ p ∈ X.pn ++ pins, p.1 ≠ t) :
    Inv X pins σ (upd H t ob) s := by
  have ne : ∀ b u, H b = some u → b ≠ t := fun b u e z => by rw [z, hn] at e; cases e
  refine ⟨I.ok, I.os, I.bare, ⟨I.base.keep, I.base.slot, fun b o e n hx => ?_, I.base.there, fun b ys e => ?_, fun b o u e => ?_, fun b ps e => ?_⟩, I.loc, I.cell, ?_, fun x c e => ?_, fun p h => ?_, fun b u e => ?_, I.len⟩
  · rw [upd_ne (fun z => by rw [z, h0] at e; cases e)]
    exact I.base.free b o e n hx
  · have q := I.base.tups b ys e
    rw [upd_ne (ne b _ q)]; exact q
  · have q := I.base.frzs b o u e
    rw [upd_ne (ne b _ q)]; exact q
  · obtain ⟨m, q⟩ := I.base.tbls b ps e
    exact ⟨m, by rw [upd_ne (ne b _ q)]; exact q⟩
  · rw [upd_ne (Ne.symm hL)]; exact I.free
  · rw [upd_ne (hc x c e)]; exact I.freeC x c e
  · obtain ⟨q1, q2, q3⟩ := I.pin p h
    exact ⟨q1, by rw [upd_ne (hp p h)]; exact q2, q3⟩
  · by_cases hb : b = t
    · subst hb
      rw [upd_same] at e
      cases e
      exact new
    · rw [upd_ne hb] at e
      exact (I.hok b u e).stay (fun _ _ _ q => q) (fun c q => by rw [upd_ne (ne c _ q)]; exact q) fun c ys q => by rw [upd_ne (ne c _ q)]; exact q
/-- a tuple that stands is told of -/
theorem inv_track (I : Inv X pins σ H s) {t : Addr} {xs : List V} {its : List Value} (ht : IsTup s.heap t its.toArray) (rv : Vals xs its) (hz : xs.length ≤ sizeLine) (hn : H t = none) (h0 : X.s_0.heap.get? t = none) (hL : t ≠ X.env.locals) (hc : ∀ x c, X.env.cells.lookup x = some c → c ≠ t) (hp : ∀ p ∈ X.pn ++ pins, p.1 ≠ t) :
    Inv X pins σ (upd H t (.tup xs)) s := inv_obj I ⟨hz, its, rv, ht⟩ hn h0 hL hc hp
end
/-! ### a loop over enumerate of a generator, in a generator's body -/
/-- the inner generator and its enumerate, at rest: as the pins pl tell -/
structure EnSt (M : Model) (Bi : Bd) (Aw : Around) (outs : List (List V)) (TTi : Addr → Option (List V)) (e a : Addr) (g : Nat) (n i : Nat) (pl : List (Addr × Obj)) (gh : Gh) (gs : GenState) (os : OsState) : Prop where
  en : ∃ old, (e, ({ cls := .type "enumerate", dict := none, data := .fields #[.none, .bool false, .ref a, rawInt i, .none, old], slots := #[] } : Obj)) ∈ pl
  gn : ∃ o nm qn, (a, o) ∈ pl ∧ o.cls = .type "generator" ∧ o.data = .fields #[.int g 0, nm, qn] ∧ o.slots = #[]
  al : ∃ s0 : Shared, s0.os = os ∧ Alv M Bi Aw (eIt outs) (fun gh => gh.TT = TTi ∧ gh.ex = [] ∧ gh.sl = []) (fun _ => False) n gh gs s0 ∧ ∀ b ∈ gh.pv, ∃ o, s0.heap.get? b = some o ∧ (b, o) ∈ pl
  tt : gh.TT = TTi
  sl : gh.sl = []
  ex : gh.ex = []
  ea : e ≠ a
  epv : e ∉ gh.pv
  apv : a ∉ gh.pv
  only : ∀ p ∈ pl, p.1 = e ∨ p.1 = a ∨ p.1 ∈ gh.pv
  ge : ∀ b ∈ gh.pv, Bi.L ≤ b
  gee : Bi.L ≤ e
  gea : Bi.L ≤ a
section
variable {Bo Bi : Bd} {TTo : Addr → Option (List V)} {pvo : List Addr} {A : Around} {F : End → Shared → Prop} {s₀ s : Shared} {fs : List Frame} {elts : List Expr} {kk : Nat} {tp : Pos} {gg : TG} {body : List Stmt}
  {outs : List (List V)} {TTi : Addr → Option (List V)} {e a : Addr} {g n i : Nat} {pl : List (Addr × Obj)} {gh : Gh} {gs : GenState} {σ : L2.St} {H : Hp}
/-- the waking is allowed -/
theorem en_back (hbase : Bi.base = Bo.base) (hout : Bi.outer = Bo.env :: Bo.outer) (I : Inv (Bo.cx TTo pvo s₀) pl σ H s) (S : EnSt (model Bo.prog Bo.w) Bi Bo.A.in1.in1 outs TTi e a g n i pl gh gs s.os) (hTT : ∀ b xs, TTi b = some xs → Rd H b (.tup xs)) :
    Wk (model Bo.prog Bo.w) Bo.A.in1.in1 (Post (model Bo.prog Bo.w) Bi Bo.A.in1.in1 (eIt outs) (fun gh => gh.TT = TTi ∧ gh.ex = [] ∧ gh.sl = []) (fun _ => False) n gh (s.setGen g .running)) gs (s.setGen g .running) := by
  obtain ⟨s0, h0, al, hp⟩ := S.al
  refine alv_iff.mp al _ ⟨h0.symm, allBare_setGen I.bare rfl, fun b o q => ?_, ?_, fun b hb o ho => ?_, fun b xs q => ?_, fun p hpp => ?_, fun p hpp => ?_⟩
  · rw [hbase] at q; exact I.bk b o q
  · rw [hbase, hout]; exact I.stack
  · obtain ⟨o', ho', hin⟩ := hp b hb
    rw [ho] at ho'
    cases ho'
    exact (I.pin (b, o) (List.mem_append_right _ hin)).1
  · rw [S.tt] at q
    exact ((hTT b xs q).ok I.hok).2
  · rw [S.sl] at hpp
    cases hpp
  · rw [S.ex] at hpp
    cases hpp
theorem en_heads (S : EnSt (model Bo.prog Bo.w) Bi Bo.A.in1.in1 outs TTi e a g n i pl gh gs s.os) (I : Inv (Bo.cx TTo pvo s₀) pl σ H s) : (∃ old, IsEnum s.heap e a i old) ∧ s.heap.IsGen a g := by
  obtain ⟨old, h1⟩ := S.en
  obtain ⟨o, nm, qn, h2, h3⟩ := S.gn
  exact ⟨⟨old, (I.pin _ (List.mem_append_right _ h1)).1⟩, o, nm, qn, (I.pin _ (List.mem_append_right _ h2)).1, h3⟩
theorem frs_cx {Bo : Bd} {TTo : Addr → Option (List V)} {pvo : List Addr} {s₀ : Shared} : frs (Bo.cx TTo pvo s₀).stack = frs (Bo.env :: Bo.outer) := rfl
theorem en_done (ok : Bo.Ok) (hbase : Bi.base = Bo.base) (hout : Bi.outer = Bo.env :: Bo.outer) (hLi : Bo.L < Bi.L) (hA : A.over (.forLoop (.Tuple elts kk tp) (.ref e) body [] Bo.env) fs = Bo.A) (hd : Bo.A.depth < recursionLimit)
    (I : Inv (Bo.cx TTo pvo s₀) pl σ H s) (hgs : s.gens[g]? = some gs) (S : EnSt (model Bo.prog Bo.w) Bi Bo.A.in1.in1 outs TTi e a g 0 i pl gh gs s.os) (hTT : ∀ b xs, TTi b = some xs → Rd H b (.tup xs))
    (k : ∀ s', Inv (Bo.cx TTo pvo s₀) [] σ H s' → Go (model Bo.prog Bo.w) A F (.block [] Bo.env) (leafOf (.ok .next)) fs s') :
    Go (model Bo.prog Bo.w) A F (.forLoop (.Tuple elts kk tp) (.ref e) body [] Bo.env) ((model Bo.prog Bo.w).den (.forLoop (.Tuple elts kk tp) (.ref e) body [] Bo.env)) fs s := by
  obtain ⟨⟨old, he⟩, hgen⟩ := en_heads S I
  refine sg_turn ?_
  rw [hA]
  refine next_enum he (nextOf_gen (A := Bo.A.in1) ok.hd I.nolimit hd hgen hgs (en_back hbase hout I S hTT) fun en s1 hF hz => .inr ?_)
  obtain ⟨hr, kp⟩ := hF
  refine ⟨hr, fun h' x hk hx => ?_⟩
  obtain ⟨o, ho, hc⟩ := hx
  refine ⟨x, o, rfl, ho, hc, ?_⟩
  have I0 : Inv (Bo.cx TTo pvo s₀) [] σ H s := Inv.unpinned (pins := []) (by simpa using I)
  have kp' : Kept (frs (Bo.cx TTo pvo s₀).stack) gh.pv s s1 := by
    rw [hout] at kp
    exact ⟨kp.os, kp.bare, kp.keep, kp.frm⟩
  have hpv : ∀ b ∈ gh.pv, H b = none ∧ (b ∈ (Bo.cx TTo pvo s₀).ex ∨ (Bo.cx TTo pvo s₀).s_0.heap.objs.size ≤ b) ∧ b ≠ (Bo.cx TTo pvo s₀).env.locals ∧ (∀ x c, (Bo.cx TTo pvo s₀).env.cells.lookup x = some c → c ≠ b) ∧ ∀ p ∈ (Bo.cx TTo pvo s₀).pn ++ [], p.1 ≠ b := fun b hb => by
    obtain ⟨s0, _, _, hp⟩ := S.al
    obtain ⟨o, _, hin⟩ := hp b hb
    obtain ⟨_, q2, q3, _⟩ := I.pin (b, o) (List.mem_append_right _ hin)
    refine ⟨q2, .inr (Nat.le_trans (cut_size _ _) (Nat.le_of_lt (Nat.lt_of_lt_of_le hLi (S.ge b hb)))), q3, fun x c q => ?_, fun p hp => nomatch hp⟩
    have q' : Bo.env.cells.lookup x = some c := q
    rw [ok.nocell] at q'
    cases q'
  have I1 : Inv (Bo.cx TTo pvo s₀) [] σ H s1 := inv_over I0 kp' hpv
  have I2 : Inv (Bo.cx TTo pvo s₀) [] σ H (s1.setGen g .finished) := inv_wg I1 (allBare_setGen I1.bare rfl)
  exact k _ (I2.kept (h' := h') (t' := s1.toks) hk)
/-- private objects of the sleeping generator, seen from the body that consumes it -/
theorem en_priv (ok : Bo.Ok) (hLi : Bo.L < Bi.L) (I : Inv (Bo.cx TTo pvo s₀) pl σ H s) (S : EnSt (model Bo.prog Bo.w) Bi Bo.A.in1.in1 outs TTi e a g n i pl gh gs s.os) : ∀ b ∈ gh.pv, H b = none ∧ (b ∈ (Bo.cx TTo pvo s₀).ex ∨ (Bo.cx TTo pvo s₀).s_0.heap.objs.size ≤ b) ∧ b ≠ (Bo.cx TTo pvo s₀).env.locals ∧
    (∀ x c, (Bo.cx TTo pvo s₀).env.cells.lookup x = some c → c ≠ b) ∧ ∀ p ∈ (Bo.cx TTo pvo s₀).pn ++ [], p.1 ≠ b := fun b hb => by
  obtain ⟨s0, _, _, hp⟩ := S.al
  obtain ⟨o, _, hin⟩ := hp b hb
  obtain ⟨_, q2, q3, _⟩ := I.pin (b, o) (List.mem_append_right _ hin)
  refine ⟨q2, .inr (Nat.le_trans (cut_size _ _) (Nat.le_of_lt (Nat.lt_of_lt_of_le hLi (S.ge b hb)))), q3, fun x c q => ?_, fun p hp => nomatch hp⟩
  have q' : Bo.env.cells.lookup x = some c := q
  rw [ok.nocell] at q'
  cases q'
theorem gone_s0 (I : Inv (Bo.cx TTo pvo s₀) pl σ H s) {t : Addr} (h : s.heap.get? t = none) : (Bo.cx TTo pvo s₀).s_0.heap.get? t = none := by
  cases q : (Bo.cx TTo pvo s₀).s_0.heap.get? t with
  | none => rfl
  | some o =>
    obtain ⟨o', e⟩ := I.base.there t o q (fun z => nomatch z)
    rw [h] at e
    cases e
theorem en_item (ok : Bo.Ok) (hbase : Bi.base = Bo.base) (hout : Bi.outer = Bo.env :: Bo.outer) (hLi : Bo.L < Bi.L) (hA : A.over (.forLoop (.Tuple elts kk tp) (.ref e) body [] Bo.env) fs = Bo.A) (hd : Bo.A.depth < recursionLimit) (hg : PG (Bo.cx TTo pvo s₀) (.Tuple elts kk tp) gg)
    (I : Inv (Bo.cx TTo pvo s₀) pl σ H s) (hgs : s.gens[g]? = some gs) (S : EnSt (model Bo.prog Bo.w) Bi Bo.A.in1.in1 outs TTi e a g (n + 1) i pl gh gs s.os) (hTT : ∀ b xs, TTi b = some xs → Rd H b (.tup xs)) {N : Addr → List V → L2.St → Hp → Prop}
    (hs : ∀ t T xs H1, outs.reverse[n]? = some xs → Same H H1 → H1 t = some (.tup xs) → H1 T = some (.tup [.int i, .ref t]) → gg (.ref T) σ H1 (N t xs))
    (k : ∀ t xs pl' gh' gs' σ' H' s', outs.reverse[n]? = some xs → Inv (Bo.cx TTo pvo s₀) pl' σ' H' s' → N t xs σ' H' → s'.gens[g]? = some gs' → sleeps gs' = true → EnSt (model Bo.prog Bo.w) Bi Bo.A.in1.in1 outs TTi e a g n (i + 1) pl' gh' gs' s'.os →
      Go (model Bo.prog Bo.w) A F (.forLoop (.Tuple elts kk tp) (.ref e) body [] Bo.env) ((execs body Bo.env).wrap (lpK (.Tuple elts kk tp) (.ref e) body Bo.env) (lpJ Bo.env) id id) fs s') :
    Go (model Bo.prog Bo.w) A F (.forLoop (.Tuple elts kk tp) (.ref e) body [] Bo.env) ((model Bo.prog Bo.w).den (.forLoop (.Tuple elts kk tp) (.ref e) body [] Bo.env)) fs s := by
  obtain ⟨⟨old, he⟩, hgen⟩ := en_heads S I
  have hgl : g < s.gens.size := (Array.getElem?_eq_some_iff.mp hgs).1
  refine sg_turn ?_
  rw [hA]
  refine next_enum he (nextOf_gen (A := Bo.A.in1) ok.hd I.nolimit hd hgen hgs (en_back hbase hout I S hTT) fun en s1 hF hz => .inl ?_)
  obtain ⟨v, gd, l, kk1, c1, p1, fs1, gh', rfl, hq, kp, ⟨t, xs, its, rfl, ht1, ht2, hxs, rits, htup, hzl⟩, told, al⟩ := hF
  refine ⟨_, gd, l, kk1, c1, p1, fs1, rfl, hq, ?_⟩
  have I0 : Inv (Bo.cx TTo pvo s₀) [] σ H s := Inv.unpinned (pins := []) (by simpa using I)
  have hpv := en_priv ok hLi I S
  have kp' : Kept (frs (Bo.cx TTo pvo s₀).stack) gh.pv s s1 := by
    rw [hout] at kp
    exact ⟨kp.os, kp.bare, kp.keep, kp.frm⟩
  have I1 : Inv (Bo.cx TTo pvo s₀) [] σ H s1 := inv_over I0 kp' hpv
  have nfr : ∀ b, (∃ o, (b, o) ∈ pl) → b ∉ frs (Bo.cx TTo pvo s₀).stack := fun b ⟨o, hb⟩ z => by
    obtain ⟨q1, _, q3, q4, _⟩ := I.pin (b, o) (List.mem_append_right _ hb)
    rcases List.mem_cons.mp (I.stkSub b z) with z | z
    · exact q3 z
    · exact q4 z
  obtain ⟨old', hen⟩ := S.en
  obtain ⟨og, nm, qn, hgn, hgc, hgd, hgs'⟩ := S.gn
  have he1 : IsEnum s1.heap e a i old := kp'.keep e _ S.epv (nfr e ⟨_, hen⟩) he
  have hg1 : s1.heap.get? a = some og := kp'.keep a _ S.apv (nfr a ⟨_, hgn⟩) (I.pin _ (List.mem_append_right _ hgn)).1
  have hb1 : (End.susp (.ref t) gd l kk1 c1 p1 fs1).genState.bare = true := End.bare_of_quiet hq
  have I2 : Inv (Bo.cx TTo pvo s₀) [] σ H (s1.setGen g (End.susp (.ref t) gd l kk1 c1 p1 fs1).genState) := inv_wg I1 (allBare_setGen I1.bare hb1)
  have hgs2 : (s1.setGen g (End.susp (.ref t) gd l kk1 c1 p1 fs1).genState).gens[g]? = some (End.susp (.ref t) gd l kk1 c1 p1 fs1).genState := setGen_at (Nat.lt_of_lt_of_le hgl hz)
  refine ⟨he1, fun h3 eo => ?_⟩
  obtain ⟨eo1, eo2, eo3, eo4⟩ := eo
  have cl : ∀ b x c, (Bo.cx TTo pvo s₀).env.cells.lookup x = some c → c ≠ b := fun b x c q => by
    have q' : Bo.env.cells.lookup x = some c := q
    rw [ok.nocell] at q'
    cases q'
  have Hne : H e = none := (I.pin _ (List.mem_append_right _ hen)).2.1
  have eL : e ≠ Bo.L := (I.pin _ (List.mem_append_right _ hen)).2.2.1
  have aL : a ≠ Bo.L := (I.pin _ (List.mem_append_right _ hgn)).2.2.1
  have Hna : H a = none := (I.pin _ (List.mem_append_right _ hgn)).2.1
  have Tsz : (s1.setGen g (End.susp (.ref t) gd l kk1 c1 p1 fs1).genState).heap.objs.size = s1.heap.objs.size := rfl
  rw [Tsz] at eo1 eo2 eo3
  have eT : e < s1.heap.objs.size := Heap.lt_size he1
  show wpAny _ _ (letOwnedTupleGo (.Tuple elts kk tp) (.ref e) (.ref s1.heap.objs.size)) _ _ _
  refine wpAny_letOwnedTupleGo_enum eo1 fun h4 he4 hs4 => ?_
  replace hs4 : Heap.SameBut e h3 h4 := hs4
  have k4 : ∀ b o, b ≠ e → s1.heap.get? b = some o → h4.get? b = some o := fun b o hb q => (hs4.2 b hb).trans (eo4 b o hb q)
  have lo : ∀ b, Bi.L ≤ b → Bo.L ≤ b ∧ b ≠ Bo.L := fun b hb => ⟨Nat.le_of_lt (Nat.lt_of_lt_of_le hLi hb), Nat.ne_of_gt (Nat.lt_of_lt_of_le hLi hb)⟩
  have I3 : Inv (Bo.cx TTo pvo s₀) [] σ H { s1.setGen g (End.susp (.ref t) gd l kk1 c1 p1 fs1).genState with heap := h4, toks := s1.toks + 1 } :=
    I2.turned (it := e) (fun b o hb q => k4 b o hb q) Hne eL (.inr (Nat.le_trans (cut_size _ _) (lo e S.gee).1)) (cl e) fun p hp => nomatch hp
  have ht1' : t ∈ gh.pv ∨ s.heap.get? t = none := ht1
  have te : t ≠ e := fun z => by
    rcases ht1' with q | q
    · exact S.epv (z ▸ q)
    · rw [z, he] at q; cases q
  have ta : t ≠ a := fun z => by
    rcases ht1' with q | q
    · exact S.apv (z ▸ q)
    · obtain ⟨o, _, _, ho, _⟩ := hgen
      rw [z, ho] at q; cases q
  have Ht : H t = none := ht1'.elim (fun q => (hpv t q).1) fun q => inv_gone I q
  have tL : t ≠ Bo.L := ht1'.elim (fun q => (hpv t q).2.2.1) fun q z => by
    obtain ⟨m, ⟨o, _, _, ho, _⟩, _⟩ := I.loc
    have ho' : s.heap.get? Bo.L = some o := ho
    rw [z, ho'] at q; cases q
  have t0 : (Bo.cx TTo pvo s₀).s_0.heap.get? t = none := ht1'.elim (fun q => by
    cases z : (Bo.cx TTo pvo s₀).s_0.heap.get? t with
    | none => rfl
    | some o => exact absurd (cut_some.mp z).1 (Nat.not_lt.mpr (lo t (S.ge t q)).1)) fun q => gone_s0 I q
  obtain ⟨ot, hot, hoc, nt, hod⟩ := id htup
  have I4 := inv_track I3 (t := t) (xs := xs) (its := its) ⟨ot, k4 t ot te hot, hoc, nt, hod⟩ rits hzl Ht t0 tL (cl t) fun p hp => nomatch hp
  have tT : t ≠ s1.heap.objs.size := Nat.ne_of_lt (Heap.lt_size hot)
  have HT : H s1.heap.objs.size = none := I1.hok.fresh (Nat.le_refl _)
  have hT4 : h4.get? s1.heap.objs.size = some { cls := .type "tuple", data := .seq #[.int i s1.toks, .ref t] } := (hs4.2 _ (Nat.ne_of_gt eT)).trans eo2
  have I5 := inv_track I4 (t := s1.heap.objs.size) (xs := [.int i, .ref t]) (its := [.int i s1.toks, .ref t]) ⟨_, hT4, rfl, _, rfl⟩ (.cons ⟨_, rfl⟩ (.cons rfl .nil)) (by show 2 ≤ sizeLine; decide)
    (by rw [upd_ne (Ne.symm tT)]; exact HT) (Heap.get?_none_of_le (Nat.le_trans (cut_size _ _) (Nat.le_of_lt I1.lt))) (Nat.ne_of_gt I1.lt) (cl _) fun p hp => nomatch hp
  have sm1 : Same H (upd H t (.tup xs)) := fun b o q => by rw [upd_ne (ne_of_none q Ht)]; exact q
  have sm2 : Same H (upd (upd H t (.tup xs)) s1.heap.objs.size (.tup [.int i, .ref t])) := fun b o q => by rw [upd_ne (ne_of_none q HT)]; exact sm1 b o q
  have H5n : ∀ b, H b = none → b ≠ t → b ≠ s1.heap.objs.size → upd (upd H t (.tup xs)) s1.heap.objs.size (.tup [.int i, .ref t]) b = none := fun b q1 q2 q3 => by
    rw [upd_ne q3, upd_ne q2]; exact q1
  have ePv' : e ∉ gh'.pv := fun z => by
    rcases (told.pv e z).1 with q | q
    · exact S.epv q
    · have q' : s.heap.get? e = none := q
      rw [he] at q'; cases q'
  have aPv' : a ∉ gh'.pv := fun z => by
    rcases (told.pv a z).1 with q | q
    · exact S.apv q
    · have q' : s.heap.get? a = none := q
      obtain ⟨o, _, _, ho, _⟩ := hgen
      rw [ho] at q'; cases q'
  have pvH : ∀ b ∈ gh'.pv, H b = none := fun b hb => (told.pv b hb).1.elim (fun q => (hpv b q).1) fun q => inv_gone I q
  have aT : a < s1.heap.objs.size := Heap.lt_size hg1
  have fpk : ∀ b ∈ e :: a :: gh'.pv, FpOk (Bo.cx TTo pvo s₀) [] (upd (upd H t (.tup xs)) s1.heap.objs.size (.tup [.int i, .ref t])) b := fun b hb => by
    rcases List.mem_cons.mp hb with q | hb
    · rw [q]; exact fp_of ok (H5n e Hne (Ne.symm te) (Nat.ne_of_lt eT)) (lo e S.gee).1 (lo e S.gee).2 fun p hp => nomatch hp
    · rcases List.mem_cons.mp hb with q | hb
      · rw [q]; exact fp_of ok (H5n a Hna (Ne.symm ta) (Nat.ne_of_lt aT)) (lo a S.gea).1 (lo a S.gea).2 fun p hp => nomatch hp
      · obtain ⟨_, q2, o, q3, _⟩ := told.pv b hb
        exact fp_of ok (H5n b (pvH b hb) (fun z => ht2 (z ▸ hb)) (Nat.ne_of_lt (Heap.lt_size q3))) (lo b q2).1 (lo b q2).2 fun p hp => nomatch hp
  have obs : ∀ b ∈ e :: a :: gh'.pv, ∃ o, h4.get? b = some o ∧ ∀ v, o.data ≠ .cell v := fun b hb => by
    rcases List.mem_cons.mp hb with q | hb
    · rw [q]; exact ⟨_, he4, fun v z => nomatch z⟩
    · rcases List.mem_cons.mp hb with q | hb
      · rw [q]; exact ⟨og, k4 a og (Ne.symm S.ea) hg1, fun v z => by rw [hgd] at z; cases z⟩
      · obtain ⟨_, _, o, q3, q4⟩ := told.pv b hb
        exact ⟨o, k4 b o (fun z => ePv' (z ▸ hb)) q3, q4⟩
  have I6 := I5.pinned (fp := e :: a :: gh'.pv) fpk obs
  refine wpAny_mono (pg_asleep (v := .ref s1.heap.objs.size) hg (fun _ _ z => z) I6 (u := .ref s1.heap.objs.size) (show RelV (.ref s1.heap.objs.size) (.ref s1.heap.objs.size) from rfl) (hs t s1.heap.objs.size xs _ hxs sm2 (by rw [upd_ne tT]; exact upd_same) upd_same)) (fun _ s5 h5 => ?_) fun _ _ z => False.elim z
  obtain ⟨as5, σ5, H5, I7, hN⟩ := h5
  refine k t xs _ gh' _ σ5 H5 s5 hxs I7 hN (as5 g _ hgs2 rfl) rfl ⟨⟨.ref t, mem_pinsAt List.mem_cons_self he4⟩, ⟨og, nm, qn, mem_pinsAt (List.mem_cons_of_mem _ List.mem_cons_self) (k4 a og (Ne.symm S.ea) hg1), hgc, hgd, hgs'⟩, ⟨s1, ?_, al, fun b hb => ?_⟩, told.tt.1, told.tt.2.2, told.tt.2.1, S.ea, ePv', aPv', fun p hp => ?_, fun b hb => (told.pv b hb).2.1, S.gee, S.gea⟩
  · exact I1.os.trans I7.os.symm
  · obtain ⟨_, _, o, q3, _⟩ := told.pv b hb
    exact ⟨o, q3, mem_pinsAt (List.mem_cons_of_mem _ (List.mem_cons_of_mem _ hb)) (k4 b o (fun z => ePv' (z ▸ hb)) q3)⟩
  · obtain ⟨q1, _⟩ := of_pinsAt (by simpa using hp)
    rcases List.mem_cons.mp q1 with q | q1
    · exact .inl q
    · rcases List.mem_cons.mp q1 with q | q1
      · exact .inr (.inl q)
      · exact .inr (.inr q1)
end
end Gk

/-! Dr -/
set_option Elab.async false
set_option linter.all false
set_option maxRecDepth 100000
set_option maxHeartbeats 2000000
namespace Gk
open PySem PySem.Spec PyProof.Rows L2
section
variable {P : Program} {w : World} {A : Around} {E : Value → Shared → Prop} {s : Shared} {a : Addr} {g : Nat} {gs : GenState}
theorem pyNext_gen {F : End → Shared → Prop} {Q : Option Value → Shared → Prop} (hh : A.handled = none) (hl : s.heap.NoLimit) (hroom : A.depth < recursionLimit) (hg : s.heap.IsGen a g) (hgs : s.gens[g]? = some gs) (hw : Wk (model P w) A.in1 F gs (s.setGen g .running))
    (hF : ∀ e s1, F e s1 → s.gens.size ≤ s1.gens.size → Out (fun v s' => Q (some v) s') g e s1 ∨ ((e = .ret (.ok (.ret .none)) ∨ e = .ret (.ok .next)) ∧ ∀ h', (∀ b o, s1.heap.get? b = some o → h'.get? b = some o) → Q none { s1.setGen g .finished with heap := h' })) :
    wpAny (model P w) A (pyNext (.ref a)) Q E s := by
  unfold pyNext
  refine wpAny_bind (wpAny_attempt (call_next hh hl hroom hg hgs hw fun e s1 he hz => ?_))
  rcases hF e s1 he hz with ⟨v, gd, l, k, c, p, fs, h1, h2, h3⟩ | ⟨h1, h2⟩
  · exact .inl ⟨v, gd, l, k, c, p, fs, h1, h2, wpAny_pure h3⟩
  · refine .inr ⟨h1, fun h' x hk hx => ?_⟩
    obtain ⟨o, ho, hc⟩ := hx
    refine wpAny_bind (wpAny_isInstance (T := "StopIteration") (b := true) ⟨o, ho, hc⟩ isSubtype_stop ?_)
    exact wpAny_pure (h2 h' hk)
end
/-- not one of the consumer's objects -/
structure FreeAt (X : Cx) (pins : List (Addr × Obj)) (H : Hp) (b : Addr) : Prop where
  nn : H b = none
  s0 : b ∈ X.ex ∨ X.s_0.heap.get? b = none
  loc : b ≠ X.env.locals
  cel : ∀ x c, X.env.cells.lookup x = some c → c ≠ b
  pin : ∀ p ∈ X.pn ++ pins, p.1 ≠ b
theorem free_gone {X : Cx} {pins : List (Addr × Obj)} {σ : L2.St} {H : Hp} {s : Shared} {b : Addr} (I : Inv X pins σ H s) (h : s.heap.get? b = none) : FreeAt X pins H b := by
  refine ⟨inv_gone I h, ?_, fun z => ?_, fun x c e z => ?_, fun p hp z => ?_⟩
  · by_cases hx : b ∈ X.ex
    · exact .inl hx
    · refine .inr ?_
      cases q : X.s_0.heap.get? b with
      | none => rfl
      | some o =>
        obtain ⟨o', e⟩ := I.base.there b o q hx
        rw [h] at e
        cases e
  · obtain ⟨m, ⟨o, _, _, ho, _⟩, _⟩ := I.loc
    rw [z, ho] at h
    cases h
  · obtain ⟨v, o, ho, _⟩ := I.cell x c e
    rw [z, h] at ho
    cases ho
  · have := (I.pin p hp).1
    rw [z, h] at this
    cases this
/-- what the list loop keeps, from the generator's sleep to its waking -/
structure Lst (B : Bd) (S : Addr) (g : Nat) (gh : Gh) (s0 s : Shared) : Prop where
  os : s.os = s0.os
  heap : ∀ b o, b ≠ S → s0.heap.get? b = some o → s.heap.get? b = some o
  gens : ∀ j x, j ≠ g → s0.gens[j]? = some x → s.gens[j]? = some x
  tup : ∀ b xs, gh.TT b = some xs → ∃ its : List Value, Vals xs its ∧ IsTup s0.heap b its.toArray
  sl : ∀ p ∈ gh.sl, (p.1 ≠ g ∧ s0.gens[p.1]? = some p.2) ∨ (p.1 = g ∧ p.2 = .running)
  ex : ∀ p ∈ gh.ex, s0.heap.get? p.1 = some p.2 ∧ p.2.cls = .type "tuple"
  pvS : S ∉ gh.pv
  pvL : ∀ b ∈ gh.pv, B.L ≤ b
  sS : ∀ o, s0.heap.get? S = some o → o.cls = .type "list"
theorem Lst.back {B : Bd} {X : Cx} {pins : List (Addr × Obj)} {σ : L2.St} {H : Hp} {S : Addr} {g : Nat} {gh : Gh} {s0 s : Shared} (hbase : B.base = X.base) (hout : B.outer = X.stack) (I : Inv X pins σ H s) (hgl : g < s.gens.size) (l : Lst B S g gh s0 s) : Back B gh s0 (s.setGen g .running) := by
  refine ⟨l.os, allBare_setGen I.bare rfl, fun b o q => ?_, ?_, fun b hb o ho => l.heap b o (fun z => l.pvS (z ▸ hb)) ho, fun b xs q => ?_, fun p hp => ?_, fun p hp => ?_⟩
  · rw [hbase] at q; exact I.bk b o q
  · rw [hbase, hout]; exact I.stack
  · obtain ⟨its, rv, o, ho, hc, r⟩ := l.tup b xs q
    refine ⟨its, rv, o, l.heap b o (fun z => ?_) ho, hc, r⟩
    rw [z] at ho
    rw [l.sS o ho] at hc
    exact absurd hc (by decide)
  · rcases l.sl p hp with ⟨h1, h2⟩ | ⟨h1, h2⟩
    · show (s.gens.setIfInBounds g .running)[p.1]? = _
      rw [Array.getElem?_setIfInBounds_ne (Ne.symm h1)]
      exact l.gens _ _ h1 h2
    · rw [h1, h2]
      exact setGen_at hgl
  · obtain ⟨h1, h2⟩ := l.ex p hp
    refine l.heap p.1 p.2 (fun z => ?_) h1
    rw [z] at h1
    rw [l.sS _ h1] at h2
    exact absurd h2 (by decide)
section
variable {X : Cx} {pins : List (Addr × Obj)} {σ : L2.St} {H : Hp} {B : Bd} {A : Around} {It : Nat → Gh → Gh → Shared → Value → Shared → Prop} {S a : Addr} {g : Nat} {res : Value} {R : Result → Shared → Prop}
theorem drain_ (hbase : B.base = X.base) (hout : B.outer = X.stack) (hh : A.handled = none) (hd : A.depth < recursionLimit) (hSc : S ≠ cStatics) (hSa : S ≠ a) (haL : a ≠ B.L) (HS : H S = none) (hSX : (S ∈ X.ex ∨ X.s_0.heap.objs.size ≤ S) ∧ S ≠ X.env.locals ∧ (∀ x c, X.env.cells.lookup x = some c → c ≠ S) ∧ ∀ p ∈ X.pn ++ pins, p.1 ≠ S)
    (hSf : S ∉ frs X.stack) (haf : a ∉ frs X.stack)
    (hL : ∀ b, B.L ≤ b → H b = none ∧ (b ∈ X.ex ∨ X.s_0.heap.objs.size ≤ b) ∧ b ≠ X.env.locals ∧ (∀ x c, X.env.cells.lookup x = some c → c ≠ b) ∧ ∀ p ∈ X.pn ++ pins, p.1 ≠ b)
    (G : Nat → List V → Gh → Heap → Prop) (hmv : ∀ n ys gh h h', G n ys gh h → (∀ b o, b ∉ gh.pv → b ≠ S → h.get? b = some o → ∃ sl, h'.get? b = some { o with slots := sl }) → G n ys gh h')
    (hstep : ∀ n gh gh' (s' : Shared) v s1 ys, (∀ b, b ∈ gh.pv ∨ s'.heap.get? b = none → FreeAt X pins H b) → (S ∉ gh.pv ∧ ∃ o, s'.heap.get? S = some o ∧ o.cls = .type "list") → It n gh gh' s' v s1 → G (n + 1) ys gh s'.heap → ∃ x, RelV x v ∧ G n (ys ++ [x]) gh' s1.heap)
    (hend : ∀ s' acc c ys gh, s'.heap.get? S = some (lstObj acc c) → Vals ys acc.toList → ys.length ≤ sizeLine → Inv X pins σ H s' → G 0 ys gh s'.heap → R (.ok (.ret res)) s') :
    ∀ (n : Nat) (s0 s : Shared) (gh : Gh) (gs : GenState) (acc : Array Value) (c : Nat) (ys : List V), Inv X pins σ H s → s.heap.IsGen a g → s.gens[g]? = some gs → Alv (model X.prog X.w) B A.in1.in1 It (fun _ => True) (· ≠ g) n gh gs s0 → Lst B S g gh s0 s → a ∉ gh.pv → s.heap.get? S = some (lstObj acc c) → Vals ys acc.toList →
      acc.size + n ≤ sizeLine → G n ys gh s.heap → codeAny (model X.prog X.w) A (.builtin "list.extend.loop" ⟨[.ref S, .ref a, res], []⟩) R s := by
  intro n
  induction n with
  | zero =>
    intro s0 s gh gs acc c ys I hg hgs al l hapv hS hv hz hG
    refine codeAny_builtin F.entry_extend_loop ?_
    rw [Around.under_plainId F.plain_extend_loop _]
    show wpAny _ A.in1 (pyNext (.ref a) >>= _) _ _ s
    refine wpAny_bind (pyNext_gen (A := A.in1) hh I.nolimit hd hg hgs (alv_iff.mp al _ (l.back hbase hout I (Array.getElem?_eq_some_iff.mp hgs).1)) fun e s1 hF hsz => .inr ?_)
    obtain ⟨hr, kp⟩ := hF
    refine ⟨hr, fun h' hk => wpAny_pure ?_⟩
    have kp' : Kept (frs X.stack) gh.pv s s1 := by
      rw [hout] at kp
      exact ⟨kp.os, kp.bare, kp.keep, kp.frm⟩
    have I1 := inv_over I kp' fun b hb => hL b (l.pvL b hb)
    have I2 : Inv X pins σ H { s1.setGen g .finished with heap := h' } := (inv_wg I1 (allBare_setGen I1.bare rfl)).kept (t' := s1.toks) hk
    have hS1 : s1.heap.get? S = some (lstObj acc c) := kp'.keep S _ l.pvS hSf hS
    refine hend _ acc c ys gh (hk S _ hS1) hv (by have := hv.length; simp at this; omega) I2 (hmv _ _ _ _ _ hG fun b o h1 _ h3 => ?_)
    by_cases hb : b ∈ frs X.stack
    · obtain ⟨sl, q⟩ := kp'.frm b o hb h3
      exact ⟨sl, hk b _ q⟩
    · exact ⟨o.slots, hk b _ (kp'.keep b o h1 hb h3)⟩
  | succ n ih =>
    intro s0 s gh gs acc c ys I hg hgs al l hapv hS hv hz hG
    have hgl : g < s.gens.size := (Array.getElem?_eq_some_iff.mp hgs).1
    refine codeAny_builtin F.entry_extend_loop ?_
    rw [Around.under_plainId F.plain_extend_loop _]
    show wpAny _ A.in1 (pyNext (.ref a) >>= _) _ _ s
    refine wpAny_bind (pyNext_gen (A := A.in1) hh I.nolimit hd hg hgs (alv_iff.mp al _ (l.back hbase hout I (Array.getElem?_eq_some_iff.mp hgs).1)) fun e s1 hF hsz => .inl ?_)
    obtain ⟨v, gd, l1, k1, c1, p1, fs1, gh', rfl, hq, kp, it, told, al1⟩ := hF
    refine ⟨v, gd, l1, k1, c1, p1, fs1, rfl, hq, ?_⟩
    have kp' : Kept (frs X.stack) gh.pv s s1 := by
      rw [hout] at kp
      exact ⟨kp.os, kp.bare, kp.keep, kp.frm⟩
    have I1 := inv_over I kp' fun b hb => hL b (l.pvL b hb)
    have hb1 : (End.susp v gd l1 k1 c1 p1 fs1).genState.bare = true := End.bare_of_quiet hq
    have I2 := inv_wg I1 (allBare_setGen (s := s1) (g := g) I1.bare hb1)
    have hS1 : s1.heap.get? S = some (lstObj acc c) := kp'.keep S _ l.pvS hSf hS
    obtain ⟨x, rx, hG1⟩ := hstep n gh gh' (s.setGen g .running) v s1 ys (fun b hb => hb.elim (fun q => (let ⟨a1, a2, a3, a4, a5⟩ := hL b (l.pvL b q); ⟨a1, a2.imp id fun z => Heap.get?_none_of_le z, a3, a4, a5⟩)) fun q => free_gone I q) ⟨l.pvS, _, hS, rfl⟩ it hG
    have hpv' : ∀ b ∈ gh'.pv, b ≠ S ∧ b ≠ a ∧ B.L ≤ b := fun b hb => by
      obtain ⟨q1, q2, _⟩ := told.pv b hb
      refine ⟨fun z => ?_, fun z => ?_, q2⟩
      · rcases q1 with q1 | q1
        · exact l.pvS (z ▸ q1)
        · have q1' : s.heap.get? b = none := q1
          rw [z, hS] at q1'; cases q1'
      · rcases q1 with q1 | q1
        · exact hapv (z ▸ q1)
        · have q1' : s.heap.get? b = none := q1
          obtain ⟨o, _, _, ho, _⟩ := hg
          rw [z, ho] at q1'; cases q1'
    show wpAny _ A.in1 (updateSeq S (·.push v) >>= _) _ _ _
    refine wpAny_bind ?_
    refine wpAny_updateSeq hS1 rfl (wpAny_pure ⟨plainId_quiet F.plain_extend_loop _, ?_⟩) (by omega) (by show (acc.push v).size ≤ sizeLine + 1; rw [Array.size_push]; omega)
    have keep3 : ∀ b o, b ≠ S → s1.heap.get? b = some o → (s1.heap.update S (Obj.mapSeq (·.push v))).get? b = some o := fun b o hbS e => (Heap.get?_update_other _ _ (Ne.symm hbS)).trans e
    have hS3 := Heap.get?_update_self (Obj.mapSeq (·.push v)) hS1 rfl
    have I3 : Inv X pins σ H { s1.setGen g (End.susp v gd l1 k1 c1 p1 fs1).genState with heap := s1.heap.update S (Obj.mapSeq (·.push v)) } :=
      I2.turned (it := S) (t' := s1.toks) (fun b o hb q => keep3 b o hb q) HS hSX.2.1 hSX.1 hSX.2.2.1 hSX.2.2.2
    have hg1 : s1.heap.IsGen a g := by
      obtain ⟨o, nm, qn, ho, r⟩ := hg
      exact ⟨o, nm, qn, kp'.keep a o hapv haf ho, r⟩
    refine ih s1 _ gh' _ (acc.push v) _ (ys ++ [x]) I3 ?_ (setGen_at (Nat.lt_of_lt_of_le hgl hsz)) al1 ⟨rfl, fun b o hb q => keep3 b o hb q, fun j y hj q => ?_, told.tup, (fun p hp => (told.sl p hp).elim (fun q => .inl q) fun q => .inr ⟨Classical.not_not.mp q.1, q.2⟩), told.ex, fun z => (hpv' S z).1 rfl, fun b hb => (hpv' b hb).2.2, fun o q => ?_⟩ (fun z => (hpv' a z).2.1 rfl) hS3 ?_ ?_ (hmv _ _ _ _ _ hG1 fun b o _ h2 h3 => ⟨o.slots, keep3 b o h2 h3⟩)
    · obtain ⟨o, nm, qn, ho, r⟩ := hg1
      exact ⟨o, nm, qn, keep3 a o (Ne.symm hSa) ho, r⟩
    · show (s1.gens.setIfInBounds g _)[j]? = _
      rw [Array.getElem?_setIfInBounds_ne (Ne.symm hj)]
      exact q
    · rw [hS1] at q
      cases q
      rfl
    · rw [Array.toList_push]
      exact hv.append (.cons rx .nil)
    · rw [Array.size_push]; omega
end
end Gk

/-! Ls -/
set_option Elab.async false
set_option linter.all false
set_option maxRecDepth 100000
set_option maxHeartbeats 2000000
namespace Gk
open PySem PySem.Spec PyProof.Rows L2
section
variable {X : Cx} {pins : List (Addr × Obj)} {σ : L2.St} {H : Hp} {s s' : Shared} {N : List Str} {qual : Str} {scope : Scope} {f a : Addr} {cdv : Value} {body : List Stmt} {vs : List V} {It : Nat → Gh → Gh → Shared → Value → Shared → Prop} {n : Nat} {ex : List (Addr × Obj)} {Q : Value → Shared → Prop} {E : Value → Shared → Prop}
/-- the generator's body, woken within list(..) -/
abbrev bdOf (X : Cx) (N : List Str) (qual : Str) (scope : Scope) (f : Addr) (cdv : Value) (L : Addr) (Aw : Around) : Bd :=
  ⟨X.prog, X.w, X.K, X.mg, X.base, Aw.deeper (envOfC qual scope L f cdv), N, envOfC qual scope L f cdv, X.stack⟩
theorem list_gen (I0 : Inv X pins σ H s) (I : Inv X pins σ H s') (md : Made X N qual scope f cdv body vs H s s' a) (hh : X.A.handled = none) (hd : X.A.depth < recursionLimit) (hn : n ≤ sizeLine) (hex : ∀ p ∈ ex, s'.heap.get? p.1 = some p.2 ∧ p.2.cls = .type "tuple")
    (al : Alv (model X.prog X.w) (bdOf X N qual scope f cdv s.heap.objs.size X.A.in1.in1.in1) X.A.in1.in1.in1 It (fun _ => True) (· ≠ s.gens.size) n ⟨tups H, [s.heap.objs.size], [(s.gens.size, .running)], ex⟩ (.fresh (.func body (envOfC qual scope s.heap.objs.size f cdv))) s')
    (G : Addr → Nat → List V → Gh → Heap → Prop) (hmv : ∀ S n ys gh h h', G S n ys gh h → (∀ b o, b ∉ gh.pv → b ≠ S → h.get? b = some o → ∃ sl, h'.get? b = some { o with slots := sl }) → G S n ys gh h')
    (hstep : ∀ S n gh gh' (s' : Shared) v s1 ys, (∀ b, b ∈ gh.pv ∨ s'.heap.get? b = none → FreeAt X pins H b) → (S ∉ gh.pv ∧ ∃ o, s'.heap.get? S = some o ∧ o.cls = .type "list") → It n gh gh' s' v s1 → G S (n + 1) ys gh s'.heap → ∃ x, RelV x v ∧ G S n (ys ++ [x]) gh' s1.heap)
    (h0 : ∀ S h, G S n [] ⟨tups H, [s.heap.objs.size], [(s.gens.size, .running)], ex⟩ h)
    (hQ : ∀ S s'' ys gh, H S = none → Inv X pins σ (upd H S (.lst ys)) s'' → G S 0 ys gh s''.heap → Q (.ref S) s'') : wpAny (model X.prog X.w) X.A (call (.type "list") [.ref a]) Q E s' := by
  have ha2 := md.ltz
  have hg := md.gen
  have hSa : s'.heap.objs.size ≠ a := Nat.ne_of_gt ha2
  have hl : s'.heap.NoLimit := I.nolimit
  have hcl : cStatics < s'.heap.objs.size := let ⟨_, hn, _⟩ := hl; hn.lt
  have hSc : s'.heap.objs.size ≠ cStatics := Nat.ne_of_gt hcl
  have hss : s.heap.objs.size ≤ s'.heap.objs.size := Nat.le_of_lt (Nat.lt_trans md.lt ha2)
  refine callType_codes (Q₁ := fun obj s₁ => obj = .ref s'.heap.objs.size ∧ s₁ = { s' with heap := s'.heap.push { cls := .type "list", data := .seq #[] } }) F.called_list (F.typeCall_list_1 _) F.entry_list_init
    (code_list_new _ ⟨rfl, rfl⟩) fun obj s₁ h₁ => ?_
  obtain ⟨rfl, rfl⟩ := h₁
  have hS : (s'.heap.push { cls := .type "list", data := .seq #[] }).get? s'.heap.objs.size = some { cls := .type "list", data := .seq #[] } := Heap.get?_push_size _ rfl
  refine ⟨⟨_, hS, rfl⟩, F.args_list_init_2 _ _, ?_⟩
  show wpAny _ X.A.in1.in1 (do let old ← Builtin.List.listItems (.ref s'.heap.objs.size); Builtin.List.listUpdate (.ref s'.heap.objs.size) (fun _ => #[]); letGo old.toList.reverse; Builtin.List.listExtendWith (.ref s'.heap.objs.size) (.ref a) .none) _ _ _
  refine wpAny_bind ?_
  unfold Builtin.List.listItems
  refine wpAny_bind (wpAny_seqItems hS rfl (wpAny_pure ?_))
  show wpAny _ X.A.in1.in1 (updateSeq s'.heap.objs.size (fun _ => #[]) >>= fun _ => letGo (#[] : Array Value).toList.reverse >>= fun _ => Builtin.List.listExtendWith (.ref s'.heap.objs.size) (.ref a) .none) _ _ _
  refine wpAny_bind (wpAny_updateSeq hS rfl ?_)
  have hS2 := Heap.get?_update_self (Obj.mapSeq (fun _ => (#[] : Array Value))) hS rfl
  refine wpAny_bind (wpAny_letGo ?_)
  unfold Builtin.List.listExtendWith
  have up : ∀ (h : Heap) (f : Obj → Obj), (∀ b o, s'.heap.get? b = some o → h.get? b = some o) → ∀ b o, s'.heap.get? b = some o → (h.update s'.heap.objs.size f).get? b = some o := fun h f q b o e =>
    (Heap.get?_update_other _ _ (Ne.symm (Nat.ne_of_lt (Heap.lt_size e)))).trans (q b o e)
  have k1 : ∀ b o, s'.heap.get? b = some o → (s'.heap.push { cls := .type "list", data := .seq #[] }).get? b = some o := fun b o e => Heap.get?_push_of_some _ e
  have k2 := up _ (Obj.mapSeq (fun _ => (#[] : Array Value))) k1
  have gty : ∀ {h : Heap}, (∀ b o, s'.heap.get? b = some o → h.get? b = some o) → h.IsGen a s.gens.size := fun {h} q => hg.keeps q
  refine wpAny_bind (wpAny_typeOf (Heap.IsGen.typeIs (s := { s' with heap := _ }) (gty k2)) ?_)
  have h1 : Builtin.List.listSameRef (.ref s'.heap.objs.size) (.ref a) = false := by simp [Builtin.List.listSameRef, hSa]
  have h2 : (Value.type "generator" == Value.type "list") = false := by decide
  have h3 : (Value.type "generator" == Value.type "tuple") = false := by decide
  simp only [h1, h2, h3, Bool.or_false, Bool.false_eq_true, if_false]
  refine wpAny_bind (wpAny_pyIter_gen (s := { s' with heap := _ }) (gty k2) ?_)
  refine wpAny_bind (wpAny_holding ?_)
  unfold Builtin.List.listLengthHint
  refine wpAny_bind (wpAny_specialOf (Heap.IsGen.typeIs (s := { s' with heap := _ }) (gty k2)) F.gen_no_len ?_)
  show wpAny _ X.A.in1.in1 (specialOf (Value.ref a) (Str.ofString "__length_hint__") >>= _) _ _ _
  refine wpAny_bind (wpAny_specialOf (Heap.IsGen.typeIs (s := { s' with heap := _ }) (gty k2)) F.gen_no_hint ?_)
  refine wpAny_pure ?_
  show wpAny _ X.A.in1.in1 (rule "list.extend.makes-room" >>= fun _ => Builtin.List.listTouch (.ref s'.heap.objs.size) >>= fun _ =>
    again (.builtin "list.extend.loop" ⟨[.ref s'.heap.objs.size, .ref a, .none], []⟩)) _ _ _
  refine wpAny_bind (wpAny_rule ?_)
  refine wpAny_bind ?_
  show wpAny _ X.A.in1.in1 (updateSeq s'.heap.objs.size (·.push .none) >>= fun _ => updateSeq s'.heap.objs.size (·.pop)) _ _ _
  refine wpAny_bind (wpAny_updateSeq hS2 rfl ?_)
  have hS3 := Heap.get?_update_self (Obj.mapSeq (·.push Value.none)) hS2 rfl
  refine wpAny_updateSeq (hz := by seq_fits) hS3 rfl ?_
  have hS4 := Heap.get?_update_self (Obj.mapSeq (·.pop)) hS3 rfl
  have k4 := up _ (Obj.mapSeq (·.pop)) (up _ (Obj.mapSeq (·.push Value.none)) k2)
  refine wpAny_pure ⟨plainId_quiet F.plain_extend_loop _, ?_⟩
  have hL : ∀ b, s.heap.objs.size ≤ b → H b = none ∧ (b ∈ X.ex ∨ X.s_0.heap.objs.size ≤ b) ∧ b ≠ X.env.locals ∧ (∀ x c, X.env.cells.lookup x = some c → c ≠ b) ∧ ∀ p ∈ X.pn ++ pins, p.1 ≠ b := fun b hb => by
    refine ⟨I0.hok.fresh hb, .inr (Nat.le_trans I0.sz hb), Nat.ne_of_gt (Nat.lt_of_lt_of_le I0.lt hb), fun x c q z => ?_, fun p hp z => ?_⟩
    · obtain ⟨v, o, ho, _⟩ := I0.cell x c q
      have := Heap.lt_size ho
      rw [z] at this
      exact absurd (Nat.lt_of_lt_of_le this hb) (Nat.lt_irrefl _)
    · have := Heap.lt_size (I0.pin p hp).1
      rw [z] at this
      exact absurd (Nat.lt_of_lt_of_le this hb) (Nat.lt_irrefl _)
  have nfr : ∀ b, s.heap.objs.size ≤ b → b ∉ frs X.stack := fun b hb z => by
    rcases List.mem_cons.mp (I0.stkSub b z) with e | z
    · exact (hL b hb).2.2.1 e
    · exact I0.nofs hb z
  have I2 : Inv X pins σ H { s' with heap := (((s'.heap.push { cls := .type "list", data := .seq #[] }).update s'.heap.objs.size (Obj.mapSeq fun _ => #[])).update s'.heap.objs.size (Obj.mapSeq (·.push Value.none))).update s'.heap.objs.size (Obj.mapSeq (·.pop)) } := I.kept (t' := s'.toks) k4
  have hend : ∀ (s3 : Shared) acc c ys gh, s3.heap.get? s'.heap.objs.size = some (lstObj acc c) → Vals ys acc.toList → ys.length ≤ sizeLine → Inv X pins σ H s3 → G s'.heap.objs.size 0 ys gh s3.heap → Q (.ref s'.heap.objs.size) s3 := fun s3 acc c ys gh q1 q2 q3 q4 q5 => by
    obtain ⟨l1, _, l3, l4, l5⟩ := hL _ hss
    exact hQ _ s3 ys gh l1 (inv_obj q4 ⟨q3, acc.toList, c, q2, by rw [q1]⟩ l1 (Heap.get?_none_of_le (Nat.le_trans I0.sz hss)) l3 l4 l5) q5
  have hgs : s'.gens[s.gens.size]? = some (.fresh (.func body (envOfC qual scope s.heap.objs.size f cdv))) := by
    rw [md.gens, Array.getElem?_push_size]
  have ls : Lst (bdOf X N qual scope f cdv s.heap.objs.size X.A.in1.in1.in1) s'.heap.objs.size s.gens.size ⟨tups H, [s.heap.objs.size], [(s.gens.size, .running)], ex⟩ s' { s' with heap := (((s'.heap.push { cls := .type "list", data := .seq #[] }).update s'.heap.objs.size (Obj.mapSeq fun _ => #[])).update s'.heap.objs.size (Obj.mapSeq (·.push Value.none))).update s'.heap.objs.size (Obj.mapSeq (·.pop)) } := by
    refine ⟨rfl, fun b o _ q => k4 b o q, fun j x _ q => q, fun b xs q => ((tups_rd q).ok I.hok).2, fun p hp => .inr (by rw [List.mem_singleton.mp hp]; exact ⟨rfl, rfl⟩), hex, fun z => ?_, fun b hb => ?_, fun o q => ?_⟩
    · exact absurd (List.mem_singleton.mp z) (Nat.ne_of_gt (Nat.lt_trans md.lt ha2))
    · rw [List.mem_singleton.mp hb]; exact Nat.le_refl _
    · exact absurd (Heap.lt_size q) (Nat.lt_irrefl _)
  exact drain_ (B := bdOf X N qual scope f cdv s.heap.objs.size X.A.in1.in1.in1) (A := X.A.in1) rfl rfl hh hd hSc hSa (Nat.ne_of_gt md.lt) (hL _ hss).1 (hL _ hss).2 (nfr _ hss) (nfr a (Nat.le_of_lt md.lt)) hL (G s'.heap.objs.size) (hmv _) (hstep _) (fun s3 acc c ys gh q1 q2 q3 q4 q5 => ⟨rfl, hend s3 acc c ys gh q1 q2 q3 q4 q5⟩)
    n s' _ _ _ _ _ [] I2 (gty k4) hgs al ls (fun z => Nat.ne_of_gt md.lt (List.mem_singleton.mp z)) hS4 .nil (by show 0 + n ≤ sizeLine; omega) (h0 _ _)
end
end Gk

/-! Rl -/
set_option Elab.async false
set_option linter.all false
set_option maxRecDepth 100000
set_option maxHeartbeats 1000000
namespace Gk
open PySem PySem.Spec PyProof.Rows L2
/-! ### a tuple without a dict of its own -/
def FqT (K : PySem.W.Frag) (H : Hp) (a : Addr) (xs : List V) : Prop :=
  (∃ o : Obj, H a = some (.frz o (.tup xs)) ∧ o.dict = none) ∨
    ∃ (o : Obj) (its : Array Value) (n : Nat), K.lookup a = some o ∧ o.cls = .type "tuple" ∧ o.dict = none ∧ o.data = .seq its n ∧ its.size ≤ sizeLine ∧ Vals xs its.toList
theorem FqT.sq {K : PySem.W.Frag} {H : Hp} {a : Addr} {xs : List V} (h : FqT K H a xs) : SqT K H a xs := by
  rcases h with ⟨o, e, _⟩ | ⟨o, its, n, h1, h2, _, h4, h5, h6⟩
  · exact .inl (.inr ⟨o, e⟩)
  · exact .inr ⟨o, its, n, h1, h2, h4, h5, h6⟩
theorem FqT.same {K : PySem.W.Frag} {H H' : Hp} {a : Addr} {xs : List V} (e : Same H H') (h : FqT K H a xs) : FqT K H' a xs := by
  rcases h with ⟨o, q, d⟩ | h
  · exact .inl ⟨o, e _ _ q, d⟩
  · exact .inr h
theorem inv_ftup {X : Cx} {pins : List (Addr × Obj)} {σ : L2.St} {H : Hp} {s : Shared} {a : Addr} {xs : List V} (I : Inv X pins σ H s) (h : FqT X.K H a xs) :
    ∃ its : List Value, Vals xs its ∧ xs.length ≤ sizeLine ∧ PlainSeq "tuple" s.heap a its.toArray := by
  rcases h with ⟨o, q, d⟩ | ⟨o, its, n, h1, h2, h3, h4, h5, h6⟩
  · obtain ⟨ho, hz, its, r, o', ho', hc, n, hd⟩ := (show ObjOk X.prog X.w H s.heap a (.frz o (.tup xs)) from I.hok a _ q)
    rw [ho] at ho'
    cases ho'
    exact ⟨its, r, hz, o, n, ho, hc, d, hd⟩
  · refine ⟨its.toList, h6, ?_, o, n, I.kIn a o h1, h2, h3, by simpa using h4⟩
    have e := h6.length
    simp only [Array.length_toList] at e
    omega
section
variable {X : Cx}
def tTupF (t : TA) : TE := fun σ H Q => t σ H fun xs H1 => xs.length ≤ sizeLine ∧ ∀ p o, H1 p = none → o.dict = none → Q (.ref p) (upd H1 p (.frz o (.tup xs)))
theorem pe_tupF {es : List Expr} {t : TA} {x1 pos} (h : PA X es t) : PE X (.Tuple es x1 pos) (tTupF t) := by
  refine ⟨fun pins s σ H Q I hq => ?_⟩
  refine wpAny_Tuple_spliced (thn (h.run pos pins s σ H _ I hq) fun us s1 ⟨xs, H1, I1, r, z, q⟩ => ⟨by rw [← r.length]; exact z, ?_⟩)
  have hf : H1 s1.heap.objs.size = none := I1.hok.fresh (Nat.le_refl _)
  refine ⟨.ref s1.heap.objs.size, upd H1 s1.heap.objs.size (.frz { cls := .type "tuple", data := .seq us.toArray } (.tup xs)), I1.laid (t' := s1.toks) (fun b u e => Heap.get?_push_of_some _ e) (Nat.le_refl _) ?_, rfl, q _ { cls := .type "tuple", data := .seq us.toArray } hf rfl⟩
  exact ⟨Heap.get?_push_size _ rfl, z, us, r, ⟨_, Heap.get?_push_size _ rfl, rfl, _, rfl⟩⟩
theorem call_tupF : CallR X (.type "tuple") (fun xs H Q => ∃ p ys, xs = [.ref p] ∧ SqL X.K H p ys ∧ ∀ l o, H l = none → o.dict = none → Q (.ref l) (upd H l (.frz o (.tup ys)))) := by
  intro pins s σ H xs us Q I r h
  obtain ⟨p, ys, rfl, hq, q⟩ := h
  obtain ⟨u, rfl, rx⟩ := vals1 r
  cases rx
  obtain ⟨its, r', pl, hz⟩ := I.list hq
  have hlen := r'.length
  refine call_tuple_list pl.isList (fun h' kp => ?_) (by simp only [List.size_toArray] <;> omega)
  have I1 : Inv X pins σ H { s with heap := h' } := I.kept (t' := s.toks) kp
  have I2 : Inv X pins σ (upd H h'.objs.size (.frz { cls := .type "tuple", data := .seq its.toArray } (.tup ys))) { s with heap := h'.push { cls := .type "tuple", data := .seq its.toArray } } :=
    I1.laid (t' := s.toks) (fun b o e => Heap.get?_push_of_some _ e) (Nat.le_refl _) (show ObjOk X.prog X.w _ _ _ (.frz _ (.tup ys)) from ⟨Heap.get?_push_size _ rfl, hz, its, r', IsTup.new _ _⟩)
  exact ⟨.ref h'.objs.size, _, I2, rfl, q _ _ (I1.hok.fresh (Nat.le_refl _)) rfl⟩
/-- dict(t) of a tuple of pairs -/
theorem call_dictT (hcalm : X.calm = true) : CallR X (.type "dict") (fun xs H Q => ∃ (a : Addr) (ps : List Addr) (kvs : List (Key × V)), xs = [.ref a] ∧ FqT X.K H a (ps.map V.ref) ∧ Paired (fun p kv => SqT X.K H p [kV kv.1, kv.2]) ps kvs ∧
    ∀ p, H p = none → Q (.ref p) (upd H p (.dK (mergeK [] kvs)))) := by
  intro pins s σ H xs us Q I r q
  obtain ⟨a, ps, kvs, ex, hq, hp, q⟩ := q
  subst ex
  obtain ⟨u, eu, rx⟩ := vals1 r
  subst eu
  cases rx
  obtain ⟨its, rv, hz, pl⟩ := inv_ftup I hq
  have ei := refs_at rv
  subst ei
  rw [List.length_map] at hz
  obtain ⟨prs, rel, hl, hpr⟩ := pairs_of I hp
  let ky : Nat → Value := fun j => if h : j < prs.length then (Classical.choose (Classical.choose_spec (hpr j prs[j] (List.getElem?_eq_getElem h)))) else .none
  have hky : ∀ (j : Nat) (q : Key × Value), prs[j]? = some q → ∃ b : Addr, ps[j]? = some b ∧ IsTup s.heap b #[ky j, q.2] ∧ keyIs q.1 (ky j) = true := by
    intro j q e
    obtain ⟨hj, e'⟩ := List.getElem?_eq_some_iff.mp e
    subst e'
    have := Classical.choose_spec (Classical.choose_spec (hpr j prs[j] (List.getElem?_eq_getElem hj)))
    have e2 : ky j = Classical.choose (Classical.choose_spec (hpr j prs[j] (List.getElem?_eq_getElem hj))) := dif_pos hj
    rw [e2]
    exact ⟨_, this⟩
  let pp : List (Value × Value) := (List.range prs.length).map fun j => (ky j, (prs.getD j (.inl 0, .none)).2)
  have hpl : pp.length = prs.length := by simp [pp]
  have hpp : ∀ (j : Nat) k v, pp[j]? = some (k, v) → ∃ q, prs[j]? = some q ∧ k = ky j ∧ v = q.2 := by
    intro j k v e
    simp only [pp, List.getElem?_map, Option.map_eq_some_iff] at e
    obtain ⟨i, e1, e2⟩ := e
    obtain ⟨h1, h2⟩ := List.getElem?_eq_some_iff.mp e1
    simp only [List.length_range] at h1
    simp only [List.getElem_range] at h2
    subst h2
    cases e2
    exact ⟨prs[j], List.getElem?_eq_getElem h1, rfl, by rw [List.getD_eq_getElem?_getD, List.getElem?_eq_getElem h1]; rfl⟩
  have P := PairArg.tuple (prog := X.prog) (w := X.w) a (ps.map Value.ref).toArray (fun j => ps.getD j 0) pp
  refine PySem.call_dict_pairs (knd := mixKind X.prog X.w) (kvs := prs) P (I.ok.hd hcalm) ⟨pl, ?_, fun j k v e => ?_⟩ ⟨hpl.symm, fun i key v e => ?_⟩ (by rw [hpl, hl]; exact hz) fun h' tk hd' k => ?_
  · simp [hpl, hl]
  · obtain ⟨q, e1, e2, e3⟩ := hpp j k v e
    obtain ⟨b, h1, h2, _⟩ := hky j q e1
    have e4 : ps.getD j 0 = b := by rw [List.getD_eq_getElem?_getD, h1]; rfl
    subst e2 e3
    exact ⟨by simp [h1], .inl (show s.heap.IsTuple (ps.getD j 0) #[ky j, q.2] by rw [e4]; exact h2)⟩
  · obtain ⟨q, e1, e2, e3⟩ := hpp i key v e
    obtain ⟨b, h1, h2, h3⟩ := hky i q e1
    subst e2 e3
    exact ⟨q.1, e1, h3⟩
  · have hm : (s.heap.objs.size == sysModules) = false := beq_eq_false_iff_ne.mpr (Nat.ne_of_gt I.big)
    have hlen : (mergeK [] kvs).length ≤ sizeLine := by
      refine Nat.le_trans (length_mergeK kvs []) ?_
      rw [List.length_nil, Nat.zero_add, rel.length, hl]
      exact hz
    exact ⟨.ref s.heap.objs.size, upd H s.heap.objs.size (.dK (mergeK [] kvs)), I.laid (t' := tk) (fun b o e => k b o (fun z => nomatch z) e) (Nat.le_refl _) (show ObjOk X.prog X.w _ _ _ (.dK (mergeK [] kvs)) from ⟨hlen, hm, merged [] prs, KV.merge rel .nil, hd'⟩), rfl, q _ (I.hok.fresh (Nat.le_refl _))⟩
/-! ### code that is not reached -/
def tNeverE : TE := fun _ _ _ => False
theorem pe_never {e : Expr} : PE X e tNeverE := ⟨fun _ _ _ _ _ _ h => h.elim⟩
/-! ### match -/
structure PM (X : Cx) (cs : List MatchCase) (t : V → TS) : Prop where
  run : ∀ (fst : Bool) (pins : List (Addr × Obj)) (s : Shared) (σ : L2.St) (H : Hp) (D : Ends) (v : V) (u : Value), Inv X pins σ H s → RelV v u → t v D σ H →
    wpAny (model X.prog X.w) X.A (matchCases cs X.env u fst) (SP X pins D) X.xe s
theorem pm_nil : PM X [] (fun _ D σ H => D.nx σ H) := ⟨fun fst pins s σ H D v u I r h => wpAny_matchCases_nil ⟨σ, H, I, h⟩⟩
theorem pm_any {body : List Stmt} {rest : List MatchCase} {pos : Pos} {t : TS} (hb : PSs X body t) : PM X (⟨.MatchAs none none pos, none, body⟩ :: rest) (fun _ => t) := by
  refine ⟨fun fst pins s σ H D v u I r h => ?_⟩
  refine wpAny_matchCases_cons (wpAny_matchPattern_Capture ?_)
  show wpAny _ _ (assignInOrder [] []) _ _ _
  exact wpAny_assignInOrder_none (hb.run pins s σ H D I h)
/-- the names that a sequence pattern takes, at their slots -/
inductive Caps (N : List Str) (sc : Scope) : List Pattern → List Nat → Prop where
  | nil : Caps N sc [] []
  | cons {x : Str} {i : Nat} {p : Pos} {ps : List Pattern} {is : List Nat} (h : N[i]? = some x) (hl : sc.names.lookup x = some .local) (t : Caps N sc ps is) : Caps N sc (.MatchAs none (some x) p :: ps) (i :: is)
def setAll (σ : L2.St) : List Nat → List V → L2.St
  | i :: is, v :: vs => setAll (σ.set i (some v)) is vs
  | _, _ => σ
def capNames : List Pattern → List Str
  | .MatchAs none (some x) _ :: ps => x :: capNames ps
  | _ => []
theorem caps_each {is : List Nat} {ps : List Pattern} (c : Caps X.N X.env.scope ps is) {E : Value → Shared → Prop} {A : Around} : ∀ {us : List Value} {s : Shared} {Q : Option (List (Str × Value)) → Shared → Prop}, us.length = ps.length → Q (some ((capNames ps).zip us)) s →
    wpAny (model X.prog X.w) A (matchEach ps X.env us) Q E s := by
  induction c with
  | nil => intro us s Q hl h; cases us with
    | nil => exact wpAny_matchEach_nil h
    | cons u us => simp at hl
  | cons h hl t ih => intro us s Q hn hq; cases us with
    | nil => simp at hn
    | cons u us =>
      refine wpAny_matchEach_cons (wpAny_matchPattern_Capture ?_)
      exact ih (by simpa using hn) hq
theorem caps_put {pins : List (Addr × Obj)} {H : Hp} (hN : X.N.Nodup) {is : List Nat} {ps : List Pattern} (c : Caps X.N X.env.scope ps is) : ∀ {vs : List V} {us : List Value} {s : Shared} {σ : L2.St} {Q : Unit → Shared → Prop}, Inv X pins σ H s → Vals vs us → us.length = ps.length →
    (∀ s', Inv X pins (setAll σ is vs) H s' → Q () s') →
    wpAny (model X.prog X.w) X.A (assignInOrder (((capNames ps).zip us).map fun (n, _) => bindName X.env n) (((capNames ps).zip us).map (·.2))) Q X.xe s := by
  induction c with
  | nil => intro vs us s σ Q I r hl h; cases us with
    | nil => cases r; exact wpAny_assignInOrder_none (h _ I)
    | cons u us => simp at hl
  | cons h hl t ih => intro vs us s σ Q I r hn hq; cases r with
    | nil => simp at hn
    | cons r1 r2 =>
      refine wpAny_assignInOrder_more (wpAny_bindName (store_ok I hN h (.inl hl) r1 (fun s' I' => ?_) (.inr hl)))
      exact ih I' r2 (by simpa using hn) hq
def tCase (K : PySem.W.Frag) (n : Nat) (is : List Nat) (tg : TT) (tb : TS) (rest : V → TS) : V → TS := fun v D σ H => ∃ a ys, v = .ref a ∧ SqT K H a ys ∧
  ((ys.length = n ∧ tg (setAll σ is ys) H fun b H1 => if b = true then tb D (setAll σ is ys) H1 else rest v D (setAll σ is ys) H1) ∨ (ys.length ≠ n ∧ rest v D σ H))
theorem fit63 {n : Nat} (h : n ≤ sizeLine) : ((n : Nat) : Int) < 2 ^ 63 := by
  have : sizeLine < 2 ^ 62 := by decide
  omega
theorem pm_seq {ps : List Pattern} {pos : Pos} {g : Expr} {body : List Stmt} {rest : List MatchCase} {is : List Nat} {tg : TT} {tb : TS} {tr : V → TS} (hc : X.calm = true) (hN : X.N.Nodup) (c : Caps X.N X.env.scope ps is) (hg : PT X g tg) (hb : PSs X body tb) (hr : PM X rest tr)
    (hstar : ps.findIdx? (·.isStar) = none := by rfl) (hwild : (ps.all fun p => p.isWildcard || (p.isStar && p.names.isEmpty)) = false := by rfl) :
    PM X (⟨.MatchSequence ps pos, some g, body⟩ :: rest) (tCase X.K ps.length is tg tb tr) := by
  refine ⟨fun fst pins s σ H D v u I r h => ?_⟩
  obtain ⟨a, ys, rfl, hq, h⟩ := h
  cases r
  obtain ⟨its, rv, ht, hz⟩ := I.tuple hq
  have hlen : its.toArray.size = ys.length := by rw [List.size_toArray]; exact rv.length.symm
  have hfit : (its.toArray.size : Int) < 2 ^ 63 := by rw [hlen]; exact fit63 hz
  refine wpAny_matchCases_cons ?_
  rcases h with ⟨hl, h⟩ | ⟨hl, h⟩
  · refine matchSeq_tuple_hit ht hfit (by rw [hlen, hl]) ?_ hstar hwild
    have e : ps.length = its.toArray.size := by rw [hlen, hl]
    rw [e]
    refine unpackItems_tuple (s := { s with toks := s.toks + 1 + 1 }) (I.ok.hd hc) ht fun h' hx => ?_
    have I1 : Inv X pins σ H { s with heap := h', toks := s.toks + 1 + 1 } := I.kept (t' := s.toks + 1 + 1) fun b o e => hx b o (Nat.ne_of_lt (Heap.lt_size e)) e
    refine caps_each c (by rw [List.toList_toArray]; rw [← rv.length, hl]) ?_
    rw [List.toList_toArray]
    refine caps_put hN c I1 rv (by rw [← rv.length, hl]) fun s' I' => ?_
    refine thn (hg.run pins s' _ H _ I' h) fun b s3 ⟨H3, I3, q3⟩ => ?_
    cases b with
    | true => exact hb.run pins s3 _ H3 D I3 q3
    | false => exact hr.run false pins s3 _ H3 D (.ref a) _ I3 rfl q3
  · refine matchSeq_tuple_miss ht hfit (by rw [hlen]; exact hl) ?_ hstar hwild
    exact hr.run false pins _ σ H D (.ref a) _ (I.kept (t' := s.toks + 1 + 1) fun b o e => e) rfl h
/-- a sequence pattern without a guard -/
theorem pm_seq0 {ps : List Pattern} {pos : Pos} {body : List Stmt} {rest : List MatchCase} {is : List Nat} {tb : TS} {tr : V → TS} (hc : X.calm = true) (hN : X.N.Nodup) (c : Caps X.N X.env.scope ps is) (hb : PSs X body tb) (hr : PM X rest tr)
    (hstar : ps.findIdx? (·.isStar) = none := by rfl) (hwild : (ps.all fun p => p.isWildcard || (p.isStar && p.names.isEmpty)) = false := by rfl) :
    PM X (⟨.MatchSequence ps pos, none, body⟩ :: rest) (tCase X.K ps.length is (fun _ H Q => Q true H) tb tr) := by
  refine ⟨fun fst pins s σ H D v u I r h => ?_⟩
  obtain ⟨a, ys, rfl, hq, h⟩ := h
  cases r
  obtain ⟨its, rv, ht, hz⟩ := I.tuple hq
  have hlen : its.toArray.size = ys.length := by rw [List.size_toArray]; exact rv.length.symm
  have hfit : (its.toArray.size : Int) < 2 ^ 63 := by rw [hlen]; exact fit63 hz
  refine wpAny_matchCases_cons ?_
  rcases h with ⟨hl, h⟩ | ⟨hl, h⟩
  · refine matchSeq_tuple_hit ht hfit (by rw [hlen, hl]) ?_ hstar hwild
    have e : ps.length = its.toArray.size := by rw [hlen, hl]
    rw [e]
    refine unpackItems_tuple (s := { s with toks := s.toks + 1 + 1 }) (I.ok.hd hc) ht fun h' hx => ?_
    have I1 : Inv X pins σ H { s with heap := h', toks := s.toks + 1 + 1 } := I.kept (t' := s.toks + 1 + 1) fun b o e => hx b o (Nat.ne_of_lt (Heap.lt_size e)) e
    refine caps_each c (by rw [List.toList_toArray]; rw [← rv.length, hl]) ?_
    rw [List.toList_toArray]
    refine caps_put hN c I1 rv (by rw [← rv.length, hl]) fun s' I' => ?_
    exact hb.run pins s' _ H D I' h
  · refine matchSeq_tuple_miss ht hfit (by rw [hlen]; exact hl) ?_ hstar hwild
    exact hr.run false pins _ σ H D (.ref a) _ (I.kept (t' := s.toks + 1 + 1) fun b o e => e) rfl h
theorem ps_match {e : Expr} {cs : List MatchCase} {pos : Pos} {te : TE} {t : V → TS} (he : PE X e te) (hm : PM X cs t) : PS X (.Match e cs pos) (fun D σ H => te σ H fun v H1 => t v D σ H1) := by
  refine ⟨fun pins s σ H D I h => ?_⟩
  exact wpAny_Match (thn (he.run pins s σ H _ I h) fun u s1 ⟨v, H1, I1, r, q⟩ => hm.run true pins s1 σ H1 D v u I1 r q)
end
/-! ### a def that is called by its name -/
abbrev CX0 : CXT := L2.CX0
abbrev E0 : XK := fun _ _ _ => False
theorem pass0 {X : Cx} {E : XK} : Passes CX0 X E := fun _ _ _ _ _ _ _ h => h.elim
structure Cal (P : Program) (w : World) (K : PySem.W.Frag) (mg : Str → Option Value) (base : Heap) (k : Nat) (x : Str) (sp : Sp) : Prop where
  ex : ∃ (f : Addr) (fd : FuncData) (ps : List Str), FnOk P w K mg base CX0 k f fd ps sp ∧ mg x = some (.ref f) ∧ PySem.W.keepIn K (.ref f) = true ∧ Binds K fd ps []
/-- the def x of the text is at f -/
abbrev FnP (K : PySem.W.Frag) (x : Str) (st : Stmt) (f : Addr) (fd : FuncData) : Prop := FunD K x x (defArgs st) (defBody st) (defScope st) [] [] f fd
structure DfP (K : PySem.W.Frag) (mg : Str → Option Value) (st : Stmt) : Prop where
  ex : ∃ f fd, FnP K (defName st) st f fd ∧ mg (defName st) = some (.ref f)
section
variable {P : Program} {w : World} {K : PySem.W.Frag} {mg : Str → Option Value} {base : Heap}
theorem cal_of {st : Stmt} (D : DfP K mg st) {N ps : List Str} {k : Nat} {sp : Sp} (S : FnScope N ps (defScope st)) (len : ∀ vs H Q E, sp vs H Q E → vs.length = ps.length)
    (hb : ∀ (kV doc pm : Value) (an : Option Addr) (cdv ct : Value) (us : List Value), us.length = ps.length → bindArgs (PySem.W.fnOf (defName st) (defName st) (defArgs st) (defBody st) (defScope st) .none kV doc pm an cdv ct) ⟨us, []⟩ = pure (ps.zip us))
    (hbody : ∀ (cdv : Value) (f : Addr) (A : Around) (outer : List Env) (s : Shared) (H : Hp) (vs : List V) (Q : VK) (E : XK), Room k (A.deeper (envOfC (defName st) (defScope st) s.heap.objs.size f cdv)) → sp vs H Q E →
      ∃ t, PSs (cxOf CX0 P w K mg base N (defName st) (defScope st) f cdv A outer s H E).nox (defBody st) t ∧ t { nx := fun _ H' => Q .non H', rt := Q } (start N vs) H) :
    Cal P w K mg base (k + 1) (defName st) sp := by
  obtain ⟨f, fd, F, hm⟩ := D.ex
  refine ⟨f, fd, ps, F.ok S len (fun cdv A outer s H vs Q E hr h => ?_), hm, F.kp, F.bindsN hb⟩
  obtain ⟨t, h1, h2⟩ := hbody cdv f A outer s H vs Q E hr h
  exact ⟨t, h1.nox, h2⟩
end
section
variable {X : Cx} {k j : Nat} {x : Str} {sp : Sp} {p pos : Pos} {e : Expr} {es : List Expr} {t : TA}
theorem pe_cl (c : Cal X.prog X.w X.K X.mg X.base k x sp) (hr : Room j X.A) (hk : k ≤ j) (hg : Gl X x) (ha : PA X (e :: es) t)
    (hdb : (x == ("__debug__" : Str)) = false := by decide) (he : starEach (e :: es) X.env = (false, eval e X.env) :: starEach es X.env := by rfl) (hpl : (backTo pos (starEach es X.env)).any (·.1) = false := by rfl) :
    PE X (.Call (.Name x p) (e :: es) [] pos) (tCall sp [] E0 t) := by
  obtain ⟨f, fd, ps, F, hm, kp, b⟩ := c.ex
  exact pe_call F (hr.mono hk) hg hm kp b .nil pass0 ha hdb he hpl
end
end Gk

/-! Bg -/
set_option Elab.async false
set_option linter.all false
set_option maxRecDepth 100000
set_option maxHeartbeats 1000000
namespace Gk
/-! ### bags: the plain law -/
abbrev Bag := List (Int × Nat)
def IsB (B : Bag) : Prop := B.Pairwise (fun p q => p.1 < q.1) ∧ ∀ p ∈ B, 1 ≤ p.2
def flat (B : Bag) : List Int := B.flatMap fun p => List.replicate p.2 p.1
theorem flat_nil : flat [] = [] := rfl
theorem flat_cons (p : Int × Nat) (B : Bag) : flat (p :: B) = List.replicate p.2 p.1 ++ flat B := by simp [flat]
theorem mem_flat {B : Bag} {x : Int} (h : x ∈ flat B) : ∃ p ∈ B, p.1 = x := by
  obtain ⟨p, hp, hx⟩ := List.mem_flatMap.mp h
  exact ⟨p, hp, (List.eq_of_mem_replicate hx).symm⟩
theorem isB_nil : IsB [] := ⟨List.Pairwise.nil, fun p hp => nomatch hp⟩
theorem isB_tail {p : Int × Nat} {B : Bag} (h : IsB (p :: B)) : IsB B := ⟨(List.pairwise_cons.mp h.1).2, fun q hq => h.2 q (List.mem_cons_of_mem _ hq)⟩
theorem isB_head {p : Int × Nat} {B : Bag} (h : IsB (p :: B)) {x : Int} (hx : x ∈ flat B) : p.1 < x := by
  obtain ⟨q, hq, e⟩ := mem_flat hx
  exact e ▸ (List.pairwise_cons.mp h.1).1 q hq
theorem flat_sorted : ∀ {B : Bag}, IsB B → (flat B).Pairwise (· ≤ ·)
  | [], _ => List.Pairwise.nil
  | p :: B, h => by
    rw [flat_cons, List.pairwise_append]
    refine ⟨?_, flat_sorted (isB_tail h), fun x hx y hy => ?_⟩
    · exact List.pairwise_replicate.mpr (.inr (Int.le_refl _))
    · rw [List.eq_of_mem_replicate hx]
      exact Int.le_of_lt (isB_head h hy)
theorem sorted_eq : ∀ {l m : List Int}, l.Pairwise (· ≤ ·) → m.Pairwise (· ≤ ·) → l.Perm m → l = m
  | [], m, _, _, h => (List.nil_perm.mp h).symm
  | x :: l, [], _, _, h => absurd h.length_eq (by simp)
  | x :: l, y :: m, hl, hm, h => by
    have h1 : x ≤ y := by
      rcases List.mem_cons.mp (h.mem_iff.mpr (List.mem_cons_self (a := y) (l := m))) with e | hy
      · omega
      · exact (List.pairwise_cons.mp hl).1 y hy
    have h2 : y ≤ x := by
      rcases List.mem_cons.mp (h.mem_iff.mp (List.mem_cons_self (a := x) (l := l))) with e | hy
      · omega
      · exact (List.pairwise_cons.mp hm).1 x hy
    have e : x = y := by omega
    subst e
    rw [sorted_eq (List.pairwise_cons.mp hl).2 (List.pairwise_cons.mp hm).2 h.cons_inv]
theorem count_cons (p : Int × Nat) (B : Bag) (x : Int) : (flat (p :: B)).count x = (if p.1 = x then p.2 else 0) + (flat B).count x := by
  rw [flat_cons, List.count_append, List.count_replicate]
  by_cases e : p.1 = x
  · simp [e]
  · simp [e]
theorem flat_inj : ∀ {A B : Bag}, IsB A → IsB B → (flat A).Perm (flat B) → A = B
  | [], [], _, _, _ => rfl
  | [], q :: B, _, hB, h => by
    have h1 := hB.2 q List.mem_cons_self
    have h2 := h.length_eq
    rw [flat_cons] at h2
    simp [flat_nil] at h2
    omega
  | p :: A, [], hA, _, h => by
    have h1 := hA.2 p List.mem_cons_self
    have h2 := h.length_eq
    rw [flat_cons] at h2
    simp [flat_nil] at h2
    omega
  | p :: A, q :: B, hA, hB, h => by
    have hp := hA.2 p List.mem_cons_self
    have hq := hB.2 q List.mem_cons_self
    have mp : ∀ (p : Int × Nat) (A : Bag), 1 ≤ p.2 → p.1 ∈ flat (p :: A) := fun p A hp => by
      rw [flat_cons]
      exact List.mem_append_left _ (List.mem_replicate.mpr ⟨by omega, rfl⟩)
    have le : ∀ {p q : Int × Nat} {A : Bag}, IsB (p :: A) → q.1 ∈ flat (p :: A) → p.1 ≤ q.1 := fun {p q A} hA hm => by
      rw [flat_cons] at hm
      rcases List.mem_append.mp hm with hm | hm
      · rw [List.eq_of_mem_replicate hm]; exact Int.le_refl _
      · exact Int.le_of_lt (isB_head hA hm)
    have e1 : p.1 = q.1 := Int.le_antisymm (le hA (h.mem_iff.mpr (mp q B hq))) (le hB (h.mem_iff.mp (mp p A hp)))
    have z : ∀ {p : Int × Nat} {A : Bag}, IsB (p :: A) → (flat A).count p.1 = 0 := fun {p A} hA => List.count_eq_zero.mpr fun hm => Int.lt_irrefl _ (isB_head hA hm)
    have e2 : p.2 = q.2 := by
      have c := h.count_eq p.1
      rw [count_cons, count_cons, z hA, if_pos rfl, if_pos e1.symm, e1, z hB] at c
      exact c
    have e : p = q := Prod.ext e1 e2
    subst e
    rw [flat_cons, flat_cons] at h
    rw [flat_inj (isB_tail hA) (isB_tail hB) ((List.perm_append_left_iff _).mp h)]
/-! ### removing the least ones -/
def dropB : Nat → Bag → Bag
  | _, [] => []
  | n, p :: B => if p.2 ≤ n then dropB (n - p.2) B else (p.1, p.2 - n) :: dropB 0 B
theorem dropB_keys : ∀ (B : Bag) (n : Nat) (q : Int × Nat), q ∈ dropB n B → ∃ p ∈ B, p.1 = q.1
  | [], _, q, h => nomatch h
  | p :: B, n, q, h => by
    unfold dropB at h
    split at h
    · obtain ⟨r, hr, e⟩ := dropB_keys B _ q h
      exact ⟨r, List.mem_cons_of_mem _ hr, e⟩
    · rcases List.mem_cons.mp h with e | h
      · exact ⟨p, List.mem_cons_self, by rw [e]⟩
      · obtain ⟨r, hr, e⟩ := dropB_keys B _ q h
        exact ⟨r, List.mem_cons_of_mem _ hr, e⟩
theorem dropB_isB : ∀ {B : Bag} (n : Nat), IsB B → IsB (dropB n B)
  | [], _, _ => isB_nil
  | p :: B, n, h => by
    unfold dropB
    split
    · exact dropB_isB _ (isB_tail h)
    · rename_i hn
      have ih := dropB_isB 0 (isB_tail h)
      refine ⟨List.pairwise_cons.mpr ⟨fun q hq => ?_, ih.1⟩, fun q hq => ?_⟩
      · obtain ⟨r, hr, e⟩ := dropB_keys B _ q hq
        show p.1 < q.1
        rw [← e]
        exact (List.pairwise_cons.mp h.1).1 r hr
      · rcases List.mem_cons.mp hq with e | hq
        · rw [e]; show 1 ≤ p.2 - n; omega
        · exact ih.2 q hq
theorem dropB_zero : ∀ {B : Bag}, IsB B → dropB 0 B = B
  | [], _ => rfl
  | p :: B, h => by
    have := h.2 p List.mem_cons_self
    unfold dropB
    rw [if_neg (by omega), dropB_zero (isB_tail h)]
    rfl
theorem dropB_flat : ∀ {B : Bag} (n : Nat), IsB B → flat (dropB n B) = (flat B).drop n
  | [], n, _ => by simp [dropB, flat_nil]
  | p :: B, n, h => by
    unfold dropB
    rw [flat_cons, List.drop_append, List.length_replicate, List.drop_replicate]
    split
    · rename_i hn
      rw [dropB_flat _ (isB_tail h), Nat.sub_eq_zero_of_le hn]
      rfl
    · rename_i hn
      have e : n - p.2 = 0 := by omega
      rw [flat_cons, dropB_zero (isB_tail h), e]
      rfl
/-! ### tables of counts -/
abbrev Dic := List (Int × Int)
def getI (D : Dic) (k : Int) : Option Int := (D.find? fun p => decide (p.1 = k)).map (·.2)
def putI (D : Dic) (k v : Int) : Dic := if (D.any fun p => decide (p.1 = k)) = true then D.map (fun p => if p.1 = k then (p.1, v) else p) else D ++ [(k, v)]
def ofB (B : Bag) : Dic := B.map fun p => (p.1, (p.2 : Int))
def posB (D : Dic) : Bag := (D.filter fun p => decide (0 < p.2)).map fun p => (p.1, p.2.toNat)
def addI (D : Dic) (B : Bag) : Dic := B.foldl (fun D p => putI D p.1 ((getI D p.1).getD 0 + (p.2 : Int))) D
def subI (D : Dic) (B : Bag) : Dic := B.foldl (fun D p => putI D p.1 ((getI D p.1).getD 0 - (p.2 : Int))) D
abbrev NdI (D : Dic) : Prop := (D.map (·.1)).Nodup
theorem getI_nil (k : Int) : getI [] k = none := rfl
theorem getI_cons (p : Int × Int) (D : Dic) (k : Int) : getI (p :: D) k = if p.1 = k then some p.2 else getI D k := by
  unfold getI
  rw [List.find?_cons]
  by_cases e : p.1 = k
  · simp [e]
  · simp [e]
theorem any_iff {D : Dic} {k : Int} : (D.any fun p => decide (p.1 = k)) = true ↔ k ∈ D.map (·.1) := by
  rw [List.any_eq_true, List.mem_map]
  exact ⟨fun ⟨p, hp, e⟩ => ⟨p, hp, of_decide_eq_true e⟩, fun ⟨p, hp, e⟩ => ⟨p, hp, decide_eq_true e⟩⟩
theorem putI_keys (D : Dic) (k v : Int) : (putI D k v).map (·.1) = if k ∈ D.map (·.1) then D.map (·.1) else D.map (·.1) ++ [k] := by
  unfold putI
  by_cases h : k ∈ D.map (·.1)
  · rw [if_pos (any_iff.mpr h), if_pos h, List.map_map]
    refine List.map_congr_left fun p _ => ?_
    show (if p.1 = k then (p.1, v) else p).1 = p.1
    split <;> rfl
  · rw [if_neg (fun z => h (any_iff.mp z)), if_neg h, List.map_append]
    rfl
theorem putI_nodup {D : Dic} {k v : Int} (h : NdI D) : NdI (putI D k v) := by
  unfold NdI
  rw [putI_keys]
  split
  · exact h
  · rename_i hk
    rw [List.nodup_append]
    refine ⟨h, by simp, fun a ha b hb e => ?_⟩
    rw [List.mem_singleton.mp hb] at e
    exact hk (e ▸ ha)
theorem putI_len (D : Dic) (k v : Int) : (putI D k v).length ≤ D.length + 1 := by
  unfold putI
  split
  · rw [List.length_map]; omega
  · rw [List.length_append]; exact Nat.le_refl _
theorem getI_map {k v : Int} (x : Int) : ∀ D : Dic, getI (D.map fun p => if p.1 = k then (p.1, v) else p) x = if x = k then (getI D x).map (fun _ => v) else getI D x
  | [] => by simp [getI_nil]
  | p :: D => by
    rw [List.map_cons, getI_cons, getI_cons, getI_map x D]
    by_cases e : p.1 = k
    · rw [if_pos e]
      by_cases h : p.1 = x
      · rw [if_pos h, if_pos h, if_pos (by rw [← h]; exact e)]
        rfl
      · rw [if_neg h, if_neg h]
    · rw [if_neg e]
      by_cases h : p.1 = x
      · rw [if_pos h, if_pos h, if_neg (by rw [← h]; exact e)]
      · rw [if_neg h, if_neg h]
theorem getI_none {D : Dic} {k : Int} : getI D k = none ↔ k ∉ D.map (·.1) := by
  unfold getI
  rw [Option.map_eq_none_iff, List.find?_eq_none, List.mem_map]
  exact ⟨fun h ⟨p, hp, e⟩ => h p hp (decide_eq_true e), fun h p hp e => h ⟨p, hp, of_decide_eq_true e⟩⟩
theorem getI_snoc {k v : Int} (x : Int) : ∀ D : Dic, k ∉ D.map (·.1) → getI (D ++ [(k, v)]) x = if x = k then some v else getI D x
  | [], _ => by
    rw [List.nil_append, getI_cons, getI_nil]
    by_cases e : x = k
    · rw [if_pos e, if_pos e.symm]
    · rw [if_neg e, if_neg (fun z => e z.symm)]
  | p :: D, h => by
    rw [List.map_cons, List.mem_cons, not_or] at h
    rw [List.cons_append, getI_cons, getI_cons, getI_snoc x D h.2]
    by_cases e : p.1 = x
    · rw [if_pos e, if_pos e, if_neg (fun z => h.1 (by rw [e, z]))]
    · rw [if_neg e, if_neg e]
theorem getI_put (D : Dic) (k v x : Int) : getI (putI D k v) x = if x = k then some v else getI D x := by
  unfold putI
  by_cases h : k ∈ D.map (·.1)
  · rw [if_pos (any_iff.mpr h), getI_map]
    by_cases e : x = k
    · rw [if_pos e, if_pos e]
      cases q : getI D x with
      | none => exact absurd (e ▸ h) (getI_none.mp q)
      | some w => rfl
    · rw [if_neg e, if_neg e]
  · rw [if_neg (fun z => h (any_iff.mp z)), getI_snoc x D h]
theorem count_pos (x : Int) : ∀ {D : Dic}, NdI D → (flat (posB D)).count x = ((getI D x).getD 0).toNat
  | [], _ => rfl
  | p :: D, h => by
    have hn : NdI D := (List.nodup_cons.mp h).2
    have ih := count_pos x hn
    rw [getI_cons]
    unfold posB at ih ⊢
    by_cases hp : 0 < p.2
    · rw [List.filter_cons, if_pos (by simpa using hp), List.map_cons, count_cons, ih]
      by_cases e : p.1 = x
      · rw [if_pos e, if_pos e]
        have : getI D x = none := getI_none.mpr (e ▸ (List.nodup_cons.mp h).1)
        rw [this]
        show p.2.toNat + 0 = p.2.toNat
        rfl
      · rw [if_neg e, if_neg e]
        exact Nat.zero_add _
    · rw [List.filter_cons, if_neg (by simpa using hp), ih]
      by_cases e : p.1 = x
      · rw [if_pos e]
        have : getI D x = none := getI_none.mpr (e ▸ (List.nodup_cons.mp h).1)
        rw [this]
        show 0 = p.2.toNat
        omega
      · rw [if_neg e]
theorem ofB_nodup {B : Bag} (h : IsB B) : NdI (ofB B) := by
  unfold NdI ofB
  rw [List.map_map, List.Nodup, List.pairwise_map]
  exact h.1.imp fun q => Int.ne_of_lt q
theorem posB_ofB : ∀ {B : Bag}, IsB B → posB (ofB B) = B
  | [], _ => rfl
  | p :: B, h => by
    have := h.2 p List.mem_cons_self
    have ih := posB_ofB (isB_tail h)
    unfold posB ofB at ih ⊢
    rw [List.map_cons, List.filter_cons, if_pos (by simp; omega), List.map_cons, ih]
    rfl
theorem addI_nodup : ∀ {B : Bag} {D : Dic}, NdI D → NdI (addI D B)
  | [], _, h => h
  | p :: B, D, h => addI_nodup (B := B) (putI_nodup h)
theorem addI_len : ∀ (B : Bag) (D : Dic), (addI D B).length ≤ D.length + B.length
  | [], D => Nat.le_refl _
  | p :: B, D => by
    have h1 := addI_len B (putI D p.1 ((getI D p.1).getD 0 + (p.2 : Int)))
    have h2 := putI_len D p.1 ((getI D p.1).getD 0 + (p.2 : Int))
    show (addI (putI D p.1 _) B).length ≤ _
    rw [List.length_cons]
    omega
theorem addI_get (x : Int) : ∀ (B : Bag) (D : Dic), (getI (addI D B) x).getD 0 = (getI D x).getD 0 + ((flat B).count x : Int)
  | [], D => by simp [addI, flat_nil]
  | p :: B, D => by
    have ih := addI_get x B (putI D p.1 ((getI D p.1).getD 0 + (p.2 : Int)))
    show (getI (addI (putI D p.1 _) B) x).getD 0 = _
    rw [ih, getI_put, count_cons]
    by_cases e : x = p.1
    · rw [if_pos e, if_pos e.symm, e]
      show (getI D p.1).getD 0 + (p.2 : Int) + _ = _
      push_cast
      omega
    · rw [if_neg e, if_neg (fun z => e z.symm)]
      omega
theorem flat_perm {A B : Bag} (h : A.Perm B) : (flat A).Perm (flat B) := h.flatMap_right _
/-- add -/
theorem add_flat {A B R : Bag} (hA : IsB A) (hB : IsB B) (h : R.Perm (posB (addI (ofB A) B))) : (flat R).Perm (flat A ++ flat B) := by
  refine (flat_perm h).trans (List.perm_iff_count.mpr fun x => ?_)
  rw [count_pos x (addI_nodup (ofB_nodup hA)), addI_get, List.count_append]
  have e := count_pos x (ofB_nodup hA)
  rw [posB_ofB hA] at e
  have : 0 ≤ (getI (ofB A) x).getD 0 := by
    cases q : getI (ofB A) x with
    | none => exact Int.le_refl _
    | some w =>
      unfold getI at q
      rw [Option.map_eq_some_iff] at q
      obtain ⟨p, hp, e⟩ := q
      have := List.mem_of_find?_eq_some hp
      unfold ofB at this
      obtain ⟨r, _, e2⟩ := List.mem_map.mp this
      rw [← e2] at e
      show (0 : Int) ≤ w
      rw [← e]
      exact Int.natCast_nonneg _
  omega
theorem isB_of_perm {R S : Bag} (h : R.Pairwise (fun p q => p.1 < q.1)) (hp : R.Perm S) (hS : ∀ p ∈ S, 1 ≤ p.2) : IsB R := ⟨h, fun p hm => hS p (hp.mem_iff.mp hm)⟩
theorem posB_ge {D : Dic} : ∀ p ∈ posB D, 1 ≤ p.2 := fun p hp => by
  obtain ⟨q, hq, e⟩ := List.mem_map.mp hp
  have := of_decide_eq_true (List.mem_filter.mp hq).2
  rw [← e]
  show 1 ≤ q.2.toNat
  omega
theorem isB_perm_eq {A B : Bag} (hA : IsB A) (hB : IsB B) (h : A.Perm B) : A = B := flat_inj hA hB (flat_perm h)
/-- the sorted list of a list of ints -/
theorem len_flat_cons (p : Int × Nat) (B : Bag) : (flat (p :: B)).length = p.2 + (flat B).length := by rw [flat_cons]; simp
theorem len_le_flat : ∀ {B : Bag}, IsB B → B.length ≤ (flat B).length
  | [], _ => Nat.le_refl _
  | p :: B, h => by
    have := h.2 p List.mem_cons_self
    have ih := len_le_flat (isB_tail h)
    rw [len_flat_cons, List.length_cons]
    omega
end Gk

/-! P1 -/
set_option Elab.async false
set_option linter.all false
set_option maxRecDepth 100000
set_option maxHeartbeats 1000000
namespace Gk
open PySem PySem.Spec PyProof.Rows L2
def freeN : List Str := ["isinstance", "int", "bool", "tuple", "len", "sorted", "dict", "sum", "any", "min", "max", "abs", "set", "list", "range", "enumerate"]
def Free (mg : Str → Option Value) : Prop := ∀ x ∈ freeN, mg x = none
section
variable {P : Program} {w : World} {K : PySem.W.Frag} {mg : Str → Option Value} {base : Heap}
/-! ### is_integer, is_count -/
def spIsInt : Sp := fun vs H Q _ => ∃ n : Int, vs = [.int n] ∧ Q (.bl true) H
theorem sc_isInt : FnScope ["value"] ["value"] (defScope sIsInt) := ⟨rfl, rfl, rfl, by decide +kernel, rfl, by decide +kernel, by decide +kernel⟩
theorem ok_isInt (fr : Free mg) (D : DfP K mg sIsInt) : Cal P w K mg base 1 "is_integer" spIsInt := by
  refine cal_of D (ps := ["value"]) sc_isInt (fun vs H Q E h => by obtain ⟨n, rfl, _⟩ := h; rfl) (fun _ _ _ _ _ _ us hl => match us, hl with | [_], _ => rfl) fun cdv f A outer s H vs Q E hr h => ?_
  obtain ⟨n, rfl, hQ⟩ := h
  refine ⟨_, pss_one (ps_ret (pe_and (pe_callB call_isi (by rfl) (fr _ (by decide)) (by decide +kernel) (pa_cons (L2.pv 0) (pa_cons (pe_bltn (v := .ty "int") (by rfl) (fr _ (by decide)) (by decide +kernel) rfl) pa_nil)))
    (pe_one (pe_not (pe_callB call_isi (by rfl) (fr _ (by decide)) (by decide +kernel) (pa_cons (L2.pv 0) (pa_cons (pe_bltn (v := .ty "bool") (by rfl) (fr _ (by decide)) (by decide +kernel) rfl) pa_nil))))))), ?_⟩
  refine ⟨_, rfl, _, _, _, _, true, rfl, .ty _, .base (.int n), kit_ty (by decide +kernel), true, rfl, ?_⟩
  exact ⟨_, rfl, _, _, _, _, false, rfl, .ty _, .base (.int n), kit_ty (by decide +kernel), false, rfl, hQ⟩
def spIsCount : Sp := fun vs H Q _ => ∃ n : Nat, vs = [.int n] ∧ Q (.bl true) H
theorem sc_isCount : FnScope ["value"] ["value"] (defScope sIsCount) := ⟨rfl, rfl, rfl, by decide +kernel, rfl, by decide +kernel, by decide +kernel⟩
theorem ok_isCount (cI : Cal P w K mg base 1 "is_integer" spIsInt) (D : DfP K mg sIsCount) : Cal P w K mg base 2 "is_count" spIsCount := by
  refine cal_of D (ps := ["value"]) sc_isCount (fun vs H Q E h => by obtain ⟨n, rfl, _⟩ := h; rfl) (fun _ _ _ _ _ _ us hl => match us, hl with | [_], _ => rfl) fun cdv f A outer s H vs Q E hr h => ?_
  obtain ⟨n, rfl, hQ⟩ := h
  refine ⟨_, pss_one (ps_ret (pe_and (pe_cl cI hr (Nat.le_refl _) (by rfl) (pa_cons (L2.pv 0) pa_nil)) (pe_one (pe_cmp (pc_ge (L2.pv 0) pe_int) rfl)))), ?_⟩
  refine ⟨_, rfl, _, rfl, true, rfl, ?_⟩
  refine ⟨_, rfl, _, _, rfl, rfl, ?_⟩
  show Q (.bl (decide ((0 : Int) ≤ (n : Int)))) H
  rw [decide_eq_true (by omega)]
  exact hQ
def spChkCount : Sp := fun vs H Q _ => ∃ n : Nat, vs = [.int n] ∧ Q .non H
theorem sc_chkCount : FnScope ["value"] ["value"] (defScope sChkCount) := ⟨rfl, rfl, rfl, by decide +kernel, rfl, by decide +kernel, by decide +kernel⟩
theorem ok_chkCount (cI : Cal P w K mg base 2 "is_count" spIsCount) (D : DfP K mg sChkCount) : Cal P w K mg base 3 "check_count" spChkCount := by
  refine cal_of D (ps := ["value"]) sc_chkCount (fun vs H Q E h => by obtain ⟨n, rfl, _⟩ := h; rfl) (fun _ _ _ _ _ _ us hl => match us, hl with | [_], _ => rfl) fun cdv f A outer s H vs Q E hr h => ?_
  obtain ⟨n, rfl, hQ⟩ := h
  refine ⟨_, pss_one (ps_if (pt_not (pt_val (pe_cl cI hr (Nat.le_refl _) (by rfl) (pa_cons (L2.pv 0) pa_nil)))) pss_never pss_nil), ?_⟩
  exact ⟨_, rfl, n, rfl, true, rfl, hQ⟩
end
end Gk

/-! P2 -/
set_option Elab.async false
set_option linter.all false
set_option maxRecDepth 100000
set_option maxHeartbeats 1000000
namespace Gk
open PySem PySem.Spec PyProof.Rows L2
/-! ### bags in the heap -/
abbrev prV (p : Int × Nat) : List V := [.int p.1, .int (p.2 : Int)]
abbrev PairsAt (K : PySem.W.Frag) (H : Hp) (as : List Addr) (B : Bag) : Prop := Paired (fun (a : Addr) (p : Int × Nat) => SqT K H a (prV p)) as B
structure BagAt (K : PySem.W.Frag) (H : Hp) (t : Addr) (B : Bag) : Prop where
  isB : IsB B
  len : B.length ≤ 1000
  ex : ∃ as : List Addr, FqT K H t (as.map V.ref) ∧ PairsAt K H as B
theorem PairsAt.same {K : PySem.W.Frag} {H H' : Hp} {as : List Addr} {B : Bag} (e : Same H H') (h : PairsAt K H as B) : PairsAt K H' as B := Paired.imp (fun _ _ q => sqt_same e q) h
theorem BagAt.same {K : PySem.W.Frag} {H H' : Hp} {t : Addr} {B : Bag} (e : Same H H') (h : BagAt K H t B) : BagAt K H' t B :=
  let ⟨as, h1, h2⟩ := h.ex; ⟨h.isB, h.len, as, h1.same e, h2.same e⟩
theorem tyx_sqt {K : PySem.W.Frag} {H : Hp} {a : Addr} {xs : List V} (h : SqT K H a xs) : TyX K H (.ref a) (.type "tuple") := by
  rcases h with (h | ⟨o, h⟩) | ⟨o, its, n, h1, h2, _⟩
  · exact .base (.tup h)
  · exact .fTuple h
  · exact .kTuple h1 h2
/-- an item of a walked tuple of pairs -/
theorem refs_item {as : List Addr} {x : V} {i : Nat} (h : (as.map V.ref)[i]? = some x) : ∃ b, as[i]? = some b ∧ x = .ref b := by
  rw [List.getElem?_map, Option.map_eq_some_iff] at h
  obtain ⟨b, h1, h2⟩ := h
  exact ⟨b, h1, h2.symm⟩
theorem take_snoc {α : Type} {l : List α} {i : Nat} {x : α} (h : l[i]? = some x) : l.take (i + 1) = l.take i ++ [x] := by
  rw [List.take_add_one, h]
  rfl
theorem same_upd {H : Hp} {p : Addr} {o : HO} (h : H p = none) : Same H (upd H p o) := fun b u e => by rw [upd_ne (ne_of_none e h)]; exact e
theorem bl_t {p : Prop} [Decidable p] (h : p) : V.bl (decide p) = V.bl true := by rw [decide_eq_true h]
theorem bl_f {p : Prop} [Decidable p] (h : ¬ p) : V.bl (decide p) = V.bl false := by rw [decide_eq_false h]
theorem bl_nt {p : Prop} [Decidable p] (h : ¬ p) : V.bl (!decide p) = V.bl true := by rw [decide_eq_false h]; rfl
theorem bl_nf {p : Prop} [Decidable p] (h : p) : V.bl (!decide p) = V.bl false := by rw [decide_eq_true h]; rfl
/-- lists of ints compared -/
theorem op_neInts {X : Cx} (hu : X.A.units + 64 < cLine) : OpR X (compareOp .NotEq) (fun x y H Q => ∃ (a b : Addr) (ns ms : List Int), x = .ref a ∧ y = .ref b ∧ SqL X.K H a (ns.map V.int) ∧ SqL X.K H b (ms.map V.int) ∧ Q (.bl (!decide (ns = ms))) H) := by
  intro pins s σ H x y v u Q I rx ry h
  obtain ⟨a, b, ns, ms, rfl, rfl, ha, hb, q⟩ := h
  cases rx
  cases ry
  obtain ⟨i1, r1, p1, _⟩ := I.list ha
  obtain ⟨i2, r2, p2, _⟩ := I.list hb
  exact PySem.W.ke_ne_ints p1.isList p2.isList (Vals.ints r1) (Vals.ints r2) hu ⟨.bl _, H, I, rfl, q⟩
theorem dpInts {K : PySem.W.Frag} {H : Hp} : ∀ ns : List Int, DpAll K H (ns.map V.int) (ns.map PyData.int)
  | [] => .nil
  | n :: ns => .cons (.int n) (dpInts ns)
section
variable {P : Program} {w : World} {K : PySem.W.Frag} {mg : Str → Option Value} {base : Heap}
def spIsBag (K : PySem.W.Frag) : Sp := fun vs H Q _ => ∃ t B, vs = [.ref t] ∧ BagAt K H t B ∧ ∀ H', Same H H' → Q (.bl true) H'
theorem sc_isBag : FnScope ["value", "numbers", "entry", "number", "count"] ["value"] (defScope sIsBag) := ⟨rfl, rfl, rfl, by decide +kernel, rfl, by decide +kernel, by decide +kernel⟩
theorem ok_isBag (fr : Free mg) (cI : Cal P w K mg base 1 "is_integer" spIsInt) (D : DfP K mg sIsBag) : Cal P w K mg base 2 "is_bag" (spIsBag K) := by
  refine cal_of D (ps := ["value"]) sc_isBag (fun vs H Q E h => by obtain ⟨t, B, rfl, _⟩ := h; rfl) (fun _ _ _ _ _ _ us hl => match us, hl with | [_], _ => rfl) fun cdv f A outer s H vs Q E hr h => ?_
  obtain ⟨t, B, rfl, hB, hQ⟩ := h
  have nd := sc_isBag.nd
  refine ⟨_, pss_cons (ps_if (pt_not (pt_val (pe_callB call_isi (by rfl) (fr _ (by decide)) (by decide +kernel) (pa_cons (L2.pv 0) (pa_cons (pe_bltn (v := .ty "tuple") (by rfl) (fr _ (by decide)) (by decide +kernel) rfl) pa_nil))))) pss_never pss_nil)
    (pss_cons (ps_set (i := 1) nd rfl (Or.inl rfl) (pe_lst pa_nil))
    (pss_cons (ps_for PassesOwn.never rfl (pi_tup (L2.pv 0)) (pg_name (i := 2) nd rfl (Or.inl rfl))
      (pss_cons (ps_if (PW.pt (pw_or (pt_not (pt_val (pe_callB call_isi (by rfl) (fr _ (by decide)) (by decide +kernel) (pa_cons (L2.pv 2) (pa_cons (pe_bltn (v := .ty "tuple") (by rfl) (fr _ (by decide)) (by decide +kernel) rfl) pa_nil)))))
          (pw_or1 (pt_cmpR op_ne (pe_callB call_len_seq (by rfl) (fr _ (by decide)) (by decide +kernel) (pa_cons (L2.pv 2) pa_nil)) pe_int (nomark _))))) pss_never pss_nil)
      (pss_cons (ps_asg (L2.pv 2) (pg_tup (by rfl) (pgs_cons (pg_name (i := 3) nd rfl (Or.inl rfl)) (pgs_cons (pg_name (i := 4) nd rfl (Or.inl rfl)) pgs_nil))))
      (pss_cons (ps_if (PW.pt (pw_or (pt_not (pt_val (pe_cl cI hr (Nat.le_refl _) (by rfl) (pa_cons (L2.pv 3) pa_nil)))) (pw_or (pt_not (pt_val (pe_cl cI hr (Nat.le_refl _) (by rfl) (pa_cons (L2.pv 4) pa_nil)))) (pw_or1 (pt_cmpR op_lt (L2.pv 4) pe_int (nomark _)))))) pss_never pss_nil)
      (pss_cons (ps_if (PW.pt (pw_and (pt_cmpR (op_neInts hr.units) (L2.pv 1) (pe_lst pa_nil) (nomark _)) (pw_and1 (pt_cmpR op_le (L2.pv 3) (pe_ix ix_list (L2.pv 1) (pe_un un_neg pe_int) (fun _ _ => rfl)) (nomark _))))) pss_never pss_nil)
      (pss_one (ps_expr (pe_bm PySem.F.plainAttrs_list PySem.F.slot_list_append PySem.F.type_list_append mt_append (L2.pv 1) (pa_cons (L2.pv 3) pa_nil)))))))))
    (pss_one (ps_ret pe_bl)))), ?_⟩
  obtain ⟨as, h1, h2⟩ := hB.ex
  refine ⟨_, rfl, _, _, _, _, true, rfl, .ty _, tyx_sqt h1.sq, kit_ty (by decide +kernel), true, rfl, ?_⟩
  refine ⟨Nat.zero_le _, fun nm hnm => ?_⟩
  have s0 : Same H (upd H nm (.lst [])) := same_upd hnm
  refine ⟨_, rfl, t, rfl, ⟨_, sqt_same s0 h1.sq⟩, ?_⟩
  refine for_tup (xs := as.map V.ref) (fun i σ' H' => ∃ o2 o3 o4, σ' = [some (.ref t), some (.ref nm), o2, o3, o4] ∧ Same H H' ∧ H' nm = some (.lst (((B.take i).map (·.1)).map V.int))) ⟨none, none, none, rfl, s0, upd_same⟩ (fun i σ' H' _ h => ?_) (fun i x σ' H' hx h => ?_) (fun σ' H' h => ?_)
  · obtain ⟨_, _, _, _, hs, _⟩ := h
    exact sqt_same hs h1.sq
  · obtain ⟨o2, o3, o4, rfl, hs, hn⟩ := h
    obtain ⟨b, hb, rfl⟩ := refs_item hx
    obtain ⟨p, hp, hq⟩ := Paired.at h2 hb
    have hq := sqt_same hs hq
    have hpos := hB.isB.2 p (List.mem_of_getElem? hp)
    refine ⟨_, rfl, _, _, _, _, true, rfl, .ty _, tyx_sqt hq, kit_ty (by decide +kernel), true, rfl, ?_⟩
    refine ⟨_, rfl, b, _, rfl, .inr hq, rfl, false, rfl, ?_⟩
    refine ⟨_, rfl, b, _, rfl, hq, rfl, _, _, rfl, _, _, rfl, rfl, ?_⟩
    refine ⟨_, rfl, _, rfl, true, rfl, ?_⟩
    refine ⟨_, rfl, _, rfl, true, rfl, ?_⟩
    refine ⟨_, rfl, _, _, rfl, rfl, false, bl_f (by omega), ?_⟩
    refine ⟨_, rfl, Nat.zero_le _, fun q hq' => ?_⟩
    have hnq : nm ≠ q := ne_of_none hn hq'
    have hnm' : (upd H' q (.lst [])) nm = some (.lst (((B.take i).map (·.1)).map V.int)) := by rw [upd_ne hnq]; exact hn
    have hs' : Same H (upd H' q (.lst [])) := fun b o e => by rw [upd_ne (ne_of_none (hs b o e) hq')]; exact hs b o e
    have hlen : (((B.take i).map (·.1)).map V.int).length < sizeLine := by
      have h1 := hB.len
      have h2 : (1000 : Nat) < sizeLine := by decide
      simp only [List.length_map, List.length_take]
      omega
    have last : Same H (upd (upd H' q (.lst [])) nm (.lst ((((B.take i).map (·.1)).map V.int) ++ [V.int p.1]))) := fun b o e => by
      rw [upd_ne (fun z => by rw [z, hnm] at e; cases e)]
      exact hs' b o e
    have tk : ((((B.take i).map (·.1)).map V.int) ++ [V.int p.1]) = (((B.take (i + 1)).map (·.1)).map V.int) := by
      rw [take_snoc hp, List.map_append, List.map_append]
      rfl
    refine ⟨nm, q, (B.take i).map (·.1), [], rfl, rfl, SqL.of hnm', SqL.of upd_same, ?_⟩
    rcases Nat.eq_zero_or_pos i with hi | hi
    · subst hi
      refine ⟨false, rfl, ?_⟩
      refine ⟨_, rfl, .inl ⟨rfl, _, SqL.of hnm'⟩, _, rfl, nm, _, _, rfl, rfl, hnm', hlen, ?_⟩
      exact ⟨_, _, _, rfl, last, by rw [upd_same, tk]⟩
    · obtain ⟨j, rfl⟩ : ∃ j, i = j + 1 := ⟨i - 1, by omega⟩
      have hj : j < B.length := by
        have := (List.getElem?_eq_some_iff.mp hp).1
        omega
      have hpj : B[j]? = some B[j] := List.getElem?_eq_getElem hj
      have e0 : ((B.take (j + 1)).map (·.1)) = (B.take j).map (·.1) ++ [B[j].1] := by rw [take_snoc hpj, List.map_append]; rfl
      refine ⟨true, bl_nt (by rw [e0]; simp), ?_⟩
      refine ⟨_, rfl, _, rfl, 1, rfl, nm, _, -1, .int B[j].1, rfl, rfl, SqL.of hnm', ?_, _, _, rfl, rfl, false, ?_, ?_⟩
      · rw [e0, List.map_append]
        exact atI_last _ _
      · refine bl_f ?_
        have hlt := (List.getElem?_eq_some_iff.mp hp)
        obtain ⟨h3, h4⟩ := hlt
        have := List.pairwise_iff_getElem.mp hB.isB.1 j (j + 1) hj h3 (Nat.lt_succ_self _)
        rw [h4] at this
        omega
      refine ⟨_, rfl, .inl ⟨rfl, _, SqL.of hnm'⟩, _, rfl, nm, _, _, rfl, rfl, hnm', hlen, ?_⟩
      exact ⟨_, _, _, rfl, last, by rw [upd_same, tk]⟩
  · obtain ⟨_, _, _, rfl, hs, _⟩ := h
    exact hQ _ hs
end
end Gk

/-! Et -/
set_option Elab.async false
set_option linter.all false
set_option maxRecDepth 100000
set_option maxHeartbeats 1000000
namespace Gk
open PySem PySem.Spec PyProof.Rows L2
open AutoSeq1 (wpAny_loadPart')
/-! ### enumerate of a tuple -/
theorem meets_enum_tup (l : Addr) (items : Array Value) (n : Nat) (dct : Option Addr) (sl : Array (Option Value)) :
    Meets (Builtin.«enumerate.__new__» ⟨[.type "enumerate", .ref l], []⟩) (fun _ R s => s.heap.get? l = some { cls := .type "tuple", dict := dct, data := .seq items n, slots := sl } ∧
      R (.ok (.ret (.ref (s.heap.push { cls := .type "tuple_iterator", data := .fields #[.ref l, .int 0 0] }).objs.size)))
        { s with heap := (s.heap.push { cls := .type "tuple_iterator", data := .fields #[.ref l, .int 0 0] }).push { cls := .type "enumerate", data := .fields #[.none, .bool false, .ref s.heap.objs.size, rawInt 0, .none, .none] } }) :=
  .of_wp fun prog w A R s h => by
    obtain ⟨hp, g, d, tk, os⟩ := s
    obtain ⟨hl, h⟩ := h
    have hsub := sub_enumerate
    have hL : Heap.IsTuple (Shared.heap ⟨hp, g, d, tk, os⟩) l items := ⟨_, hl, rfl, n, rfl⟩
    wp_walk using wpAny_loadPart' hl
    refine wpAny_stack_any fun st => wpAny_pure ?_
    split
    · rename_i c _ _ _ _ _
      cases (c == Value.type "enumerate")
      · wp_walk using wpAny_loadPart' hl, wpAny_pyIter_tuple hL
        exact ⟨_, rfl, h⟩
      · wp_walk using wpAny_loadPart' hl, wpAny_pyIter_tuple hL
        exact ⟨_, rfl, h⟩
    · wp_walk using wpAny_loadPart' hl, wpAny_pyIter_tuple hL
      exact ⟨_, rfl, h⟩
theorem call_enum_tup {prog : Program} {w : World} {A : Around} {E : Value → Shared → Prop} {s : Shared} {l : Addr} {items : Array Value} {Q : Value → Shared → Prop} (hL : s.heap.IsTuple l items)
    (h : ∀ h', IsEnum h' (s.heap.objs.size + 1) s.heap.objs.size 0 .none → h'.IsTupleIter s.heap.objs.size l 0 → h'.objs.size = s.heap.objs.size + 2 →
      (∀ b o, s.heap.get? b = some o → h'.get? b = some o) → Q (.ref (s.heap.objs.size + 1)) { s with heap := h' }) :
    wpAny (model prog w) A (call (.type "enumerate") [.ref l]) Q E s := by
  obtain ⟨⟨c, dct, dt, sl⟩, hl, hc, n, hd⟩ := hL
  replace hc : c = .type "tuple" := hc
  replace hd : dt = .seq items n := hd
  subst hc hd
  refine callType_new F.called_enumerate (by decide) (F.typeCall_enumerate_1 _) (F.newCall_enumerate_1 _) (fun obj => F.args_object_init_2 obj _) F.entry_enumerate_new
    (meets_enum_tup l items n dct sl) ⟨hl, ?_⟩
  have hz : (s.heap.push { cls := .type "tuple_iterator", data := .fields #[.ref l, .int 0 0] }).objs.size = s.heap.objs.size + 1 := Heap.size_push ..
  show _ ∧ _
  rw [hz]
  have he : IsEnum ((s.heap.push { cls := .type "tuple_iterator", data := .fields #[.ref l, .int 0 0] }).push
      { cls := .type "enumerate", data := .fields #[.none, .bool false, .ref s.heap.objs.size, rawInt 0, .none, .none] }) (s.heap.objs.size + 1) s.heap.objs.size 0 .none := by
    have := Heap.get?_push_size (s.heap.push { cls := .type "tuple_iterator", data := .fields #[.ref l, .int 0 0] })
      (o := { cls := .type "enumerate", data := .fields #[.none, .bool false, .ref s.heap.objs.size, rawInt 0, .none, .none] }) rfl
    rw [hz] at this
    exact this
  exact ⟨⟨_, he, rfl⟩, h _ he ⟨_, Heap.get?_push_of_some _ (Heap.get?_push_size _ rfl), rfl, rfl⟩ (by rw [Heap.size_push, hz]) fun b o x => Heap.get?_push_of_some _ (Heap.get?_push_of_some _ x)⟩
def IteT (K : PySem.W.Frag) (a : Addr) : It :=
  ⟨fun i H => ∃ (xs : List V) (x : V), SqT K H a xs ∧ xs[i]? = some x, fun i H v H' => ∃ T x, v = .ref T ∧ H T = none ∧ H' = upd H T (.tup [.int (i : Nat), x]) ∧ ∀ xs, SqT K H a xs → xs[i]? = some x, fun i H => ∃ xs : List V, SqT K H a xs ∧ xs.length = i⟩
theorem turn_enumT {P : Program} {w : World} {K : PySem.W.Frag} {elts : List Expr} {kk : Nat} {tpos : Pos} (a e it : Addr) (hat : a ≠ it) (hae : a ≠ e) :
    Turn P w K (.Tuple elts kk tpos) (IteT K a) [e, it] e (fun i h => (∃ old, IsEnum h e it ((i : Nat) : Int) old) ∧ h.IsTupleIter it a i ∧ e ≠ it) where
  mem := by simp
  obj := fun i h st b hb => by
    obtain ⟨⟨old, he⟩, ⟨o, ho, hc, hd⟩, _⟩ := st
    have e' : b = e ∨ b = it := by simpa using hb
    rcases e' with z | z
    · rw [z]; exact ⟨_, he, fun v q => nomatch q⟩
    · rw [z]; exact ⟨o, ho, fun v q => by rw [hd] at q; cases q⟩
  keep := fun i h h' st k => let ⟨⟨old, he⟩, hi, hne⟩ := st; ⟨⟨old, k e (by simp) _ he⟩, hi.at fun o q => k it (by simp) o q, hne⟩
  item := by
    intro X hP hw hK hc i pins s σ H E I hf st hg
    subst hP hw hK
    obtain ⟨⟨old, he⟩, hit, hne⟩ := st
    obtain ⟨xs, x, hq, hx⟩ := hg
    obtain ⟨its, rv, p, hz⟩ := I.tuple hq
    obtain ⟨u, hu, ru⟩ := rv.get hx
    have hel : e < s.heap.objs.size := Heap.lt_size he
    have hil : it < s.heap.objs.size := by obtain ⟨_, q, _⟩ := hit; exact Heap.lt_size q
    have hef : e ∉ [it, a] := by
      intro z
      rcases List.mem_cons.mp z with z | z
      · exact hne z
      · exact hae (List.mem_singleton.mp z).symm
    refine wpAny_pyNext_enum_itemD (Draws.tuple (A := X.A.in1) (I.ok.hd hc) it a hat its.toArray) he ⟨hit, p⟩ (by rw [List.size_toArray]; exact (List.getElem?_eq_some_iff.mp hu).1) hne hef fun x' h' tk hx' ho hst' hT hsz hk => ?_
    have ex : x' = u := by
      have : its.toArray[i]? = some u := by simpa using hu
      rw [this] at hx'
      exact (Option.some.inj hx').symm
    subst ex
    refine ⟨_, rfl, wpAny_letOwnedTupleGo_enum (s := { s with heap := h', toks := tk + 1 }) ho fun h'' he' sb => ?_⟩
    have hT2 : h''.get? s.heap.objs.size = some { cls := .type "tuple", data := .seq #[.int i tk, x'] } := (sb.2 _ (Nat.ne_of_gt hel)).trans hT
    have new : ObjOk X.prog X.w (upd H s.heap.objs.size (.tup [.int (i : Nat), x])) h'' s.heap.objs.size (.tup [.int (i : Nat), x]) :=
      ⟨by show 2 ≤ sizeLine; decide, [.int i tk, x'], .cons ⟨_, rfl⟩ (.cons ru .nil), ⟨_, hT2, rfl, _, rfl⟩⟩
    have I1 : Inv X pins σ (upd H s.heap.objs.size (.tup [.int (i : Nat), x])) { s with heap := h'', toks := tk + 1 } :=
      I.turnedNew (ch := [e, it]) (fun b ob hb q => (sb.2 b (fun z => hb (by simp [z]))).trans (hk b ob (fun z => hb (by simp [z])) (fun z => hb (by simp [z])) q)) hf (Nat.le_refl _) new
    refine ⟨.ref s.heap.objs.size, _, I1, rfl, ⟨_, x, rfl, I.hok.fresh (Nat.le_refl _), rfl, fun ys hy => by rw [I.tuple_inj hy hq]; exact hx⟩, ⟨⟨x', ?_⟩, hst'.1.at fun o q => (sb.2 it (Ne.symm hne)).trans q, hne⟩, fun b hb => ?_⟩
    · have e1 : ((i + 1 : Nat) : Int) = (i : Int) + 1 := by omega
      rw [e1]; exact he'
    · have hb' : b < s.heap.objs.size := by
        have e' : b = e ∨ b = it := by simpa using hb
        rcases e' with z | z
        · rw [z]; exact hel
        · rw [z]; exact hil
      rw [upd_ne (Nat.ne_of_lt hb')]
      exact (hf b hb).1
  done := by
    intro X hP hw hK hc i pins s σ H E I hf st hg
    subst hP hw hK
    obtain ⟨⟨old, he⟩, hit, hne⟩ := st
    obtain ⟨xs, hq, hx⟩ := hg
    obtain ⟨its, rv, p, hz⟩ := I.tuple hq
    obtain ⟨f0, f1, f2, f3, f4, f5⟩ := hf it (by simp)
    have hl := rv.length
    subst hx
    exact wpAny_pyNext_enum_endD (Draws.tuple (A := X.A.in1) (I.ok.hd hc) it a hat its.toArray) he ⟨by rw [List.size_toArray, ← hl]; exact hit, p⟩ fun h' eb => ⟨rfl, I.turned (t' := s.toks) (fun b o hb q => eb b o hb q) f0 f1 f3 f4 f5⟩
  self := fun A i s Q E st h => let ⟨⟨_, he⟩, _⟩ := st; wpAny_pyIter_enum he h
def iEnumT (K : PySem.W.Frag) (ta : TA) : TI := fun σ H R => ta σ H fun vs H1 => ∃ a xs, vs = [.ref a] ∧ SqT K H1 a xs ∧ R (IteT K a) H1
theorem pi_enumT {X : Cx} {e : Expr} {ta : TA} {p pos tpos : Pos} {elts : List Expr} {kk : Nat} (hg : Gl X "enumerate") (hm : X.mg "enumerate" = none) (ha : PA X [e] ta) (hs : starEach [e] X.env = [(false, eval e X.env)] := by rfl) :
    PI X (.Tuple elts kk tpos) (.Call (.Name "enumerate" p) [e] [] pos) (iEnumT X.K ta) := by
  refine ⟨fun pins s σ H R I h => ?_⟩
  refine Call_ (ld_blt I hg hm boot_enumerate (PyProof.Rows.callWith_type1 (thn (ha.run pos pins s σ H _ I h) fun us s1 ⟨vs, H1, I1, r1, q1⟩ => ?_) hs rfl))
  obtain ⟨a, xs, ex, hq, q⟩ := q1
  subst ex
  cases r1 with
  | cons r rr =>
    cases rr
    cases r
    obtain ⟨its, rv, p', hz⟩ := I1.tuple hq
    have hlt := p'.lt
    refine call_enum_tup p' fun h' he hit hsz hk => wpAny_pyIter_enum he ?_
    have I2 : Inv X pins σ H1 { s1 with heap := h' } := I1.kept (t' := s1.toks) hk
    refine ⟨s1.heap.objs.size + 1, [s1.heap.objs.size + 1, s1.heap.objs.size], _, _, H1, rfl, I2, turn_enumT a (s1.heap.objs.size + 1) s1.heap.objs.size (Nat.ne_of_lt hlt) (Nat.ne_of_lt (Nat.lt_succ_of_lt hlt)), ⟨⟨.none, he⟩, hit, Nat.succ_ne_self _⟩, fun b hb => ?_, q⟩
    have e' : b = s1.heap.objs.size + 1 ∨ b = s1.heap.objs.size := by simpa using hb
    have hle : s1.heap.objs.size ≤ b := by
      rcases e' with z | z
      · rw [z]; exact Nat.le_add_right _ _
      · rw [z]; exact Nat.le_refl _
    exact I1.fpOk hle (I1.hok.fresh hle)
theorem walk_enumT {K : PySem.W.Frag} {a : Addr} {xs : List V} : Walk (IteT K a) xs.length (fun H => SqT K H a xs) (YPair (fun i => some (.int (i : Nat))) (fun i => xs[i]?)) := by
  refine ⟨fun i _ hi q => ⟨xs, xs[i], q, by simp [hi]⟩, fun _ q => ⟨xs, q, rfl⟩, fun i H v H' _ q y => ?_⟩
  obtain ⟨T, x, h1, h2, h3, h4⟩ := y
  exact ⟨T, .int (i : Nat), x, h1, h2, h3, rfl, h4 xs q⟩
end Gk

/-! P3 -/
set_option Elab.async false
set_option linter.all false
set_option maxRecDepth 100000
set_option maxHeartbeats 1000000
namespace Gk
open PySem PySem.Spec PyProof.Rows L2
section
variable {P : Program} {w : World} {K : PySem.W.Frag} {mg : Str → Option Value} {base : Heap}
def spChkBag (K : PySem.W.Frag) : Sp := fun vs H Q _ => ∃ t B, vs = [.ref t] ∧ BagAt K H t B ∧ ∀ H', Same H H' → Q .non H'
theorem sc_chkBag : FnScope ["value"] ["value"] (defScope sChkBag) := ⟨rfl, rfl, rfl, by decide +kernel, rfl, by decide +kernel, by decide +kernel⟩
theorem ok_chkBag (cI : Cal P w K mg base 2 "is_bag" (spIsBag K)) (D : DfP K mg sChkBag) : Cal P w K mg base 3 "check_bag" (spChkBag K) := by
  refine cal_of D (ps := ["value"]) sc_chkBag (fun vs H Q E h => by obtain ⟨t, B, rfl, _⟩ := h; rfl) (fun _ _ _ _ _ _ us hl => match us, hl with | [_], _ => rfl) fun cdv f A outer s H vs Q E hr h => ?_
  obtain ⟨t, B, rfl, hB, hQ⟩ := h
  refine ⟨_, pss_one (ps_if (pt_not (pt_val (pe_cl cI hr (Nat.le_refl _) (by rfl) (pa_cons (L2.pv 0) pa_nil)))) pss_never pss_nil), ?_⟩
  exact ⟨_, rfl, t, B, rfl, hB, fun H' hs => ⟨true, rfl, hQ H' hs⟩⟩
/-! ### from_counts -/
abbrev kvsI (D : Dic) : List (Key × V) := D.map fun p => (.inl p.1, .int p.2)
def spFrom (K : PySem.W.Frag) : Sp := fun vs H Q _ => ∃ (d : Addr) (D : Dic), vs = [.ref d] ∧ H d = some (.dK (kvsI D)) ∧ NdI D ∧ D.length ≤ 1000 ∧
  ∀ H' t R, Same H H' → H t = none → R.Perm (posB D) → BagAt K H' t R → Q (.ref t) H'
theorem sc_from : FnScope ["counts", "number", "count"] ["counts"] (defScope sFrom) := ⟨rfl, rfl, rfl, by decide +kernel, rfl, by decide +kernel, by decide +kernel⟩
/-- the pairs of a new list -/
def pairOf (H : Hp) : V → Int × Int
  | .ref t => (match H t with
    | some (.tup [.int i, .int j]) => (i, j)
    | _ => (0, 0))
  | _ => (0, 0)
abbrev TupsAt (H : Hp) (as : List Addr) (D : List (Int × Int)) : Prop := Paired (fun (a : Addr) (p : Int × Int) => H a = some (.tup [.int p.1, .int p.2])) as D
theorem paired_snoc {α β : Type} {F : α → β → Prop} : ∀ {l : List α} {m : List β} {a : α} {b : β}, Paired F l m → F a b → Paired F (l ++ [a]) (m ++ [b])
  | _, _, _, _, .nil, h => .cons h .nil
  | _, _, _, _, .cons h t, h' => .cons h (paired_snoc t h')
theorem paired_map {α β γ : Type} {F : α → β → Prop} (f : α → γ) (g : β → γ) (h : ∀ a b, F a b → f a = g b) : ∀ {l : List α} {m : List β}, Paired F l m → l.map f = m.map g
  | _, _, .nil => rfl
  | _, _, .cons q t => by rw [List.map_cons, List.map_cons, h _ _ q, paired_map f g h t]
/-- what the sorted list of the pairs is -/
theorem sorted_pairs {H : Hp} {as : List Addr} {D : List (Int × Int)} {ys : List V} (ha : TupsAt H as D) (hnd : (D.map (·.1)).Nodup) (s1 : SrtO.Srtd (ltP (pairOf H)) ys) (s2 : SrtO.Stb (ltP (pairOf H)) ys (as.map V.ref)) :
    ∃ (bs : List Addr) (E : List (Int × Int)), ys = bs.map V.ref ∧ TupsAt H bs E ∧ E.Perm D ∧ E.Pairwise (fun p q => p.1 < q.1) := by
  have hp := s2.perm
  have hm : ∀ y ∈ ys, ∃ b, y = V.ref b ∧ H b = some (.tup [.int (pairOf H y).1, .int (pairOf H y).2]) := fun y hy => by
    have := hp.mem_iff.mp hy
    obtain ⟨b, hb, rfl⟩ := List.mem_map.mp this
    obtain ⟨i, hi, e⟩ := List.mem_iff_getElem.mp hb
    obtain ⟨p, h1, h2⟩ := Paired.at ha (show as[i]? = some b by rw [List.getElem?_eq_getElem hi, e])
    refine ⟨b, rfl, ?_⟩
    have : pairOf H (V.ref b) = p := by simp only [pairOf, h2]
    rw [this]
    exact h2
  have gen : ∀ zs : List V, (∀ y ∈ zs, ∃ b, y = V.ref b ∧ H b = some (.tup [.int (pairOf H y).1, .int (pairOf H y).2])) → ∃ bs : List Addr, zs = bs.map V.ref ∧ TupsAt H bs (zs.map (pairOf H)) := by
    intro zs
    induction zs with
    | nil => intro _; exact ⟨[], rfl, .nil⟩
    | cons z zs ih =>
      intro h
      obtain ⟨bs, e, hb⟩ := ih fun y hy => h y (List.mem_cons_of_mem _ hy)
      obtain ⟨b, e1, hb1⟩ := h z List.mem_cons_self
      exact ⟨b :: bs, by rw [e1, e]; rfl, .cons hb1 hb⟩
  obtain ⟨bs, e, hb⟩ := gen ys hm
  have hD : (as.map V.ref).map (pairOf H) = D := by
    rw [List.map_map]
    have := paired_map (f := fun a => pairOf H (V.ref a)) (g := fun p : Int × Int => p) (fun a p q => by simp only [pairOf, q]) ha
    rw [List.map_id'] at this
    exact this
  have hpD : (ys.map (pairOf H)).Perm D := by
    have := hp.map (pairOf H)
    rw [hD] at this
    exact this
  refine ⟨bs, ys.map (pairOf H), e, hb, hpD, ?_⟩
  rw [List.pairwise_map]
  have hn : ((ys.map (pairOf H)).map (·.1)).Nodup := (hpD.map (·.1)).nodup_iff.mpr hnd
  rw [List.map_map, List.Nodup, List.pairwise_map] at hn
  have hs : ys.Pairwise (fun x y => ltP (pairOf H) y x = false) := s1
  refine (hn.and hs).imp fun {x y} h => ?_
  have h1 : (pairOf H x).1 ≠ (pairOf H y).1 := h.1
  have h2 := SrtO.lexB_no.mp h.2
  omega
theorem posB_map {R : List (Int × Int)} (h : ∀ p ∈ R, 0 < p.2) : posB R = R.map fun p => (p.1, p.2.toNat) := by
  unfold posB
  rw [List.filter_eq_self.mpr fun p hp => decide_eq_true (h p hp)]
theorem bag_of {K : PySem.W.Frag} {H : Hp} {bs : List Addr} {E : List (Int × Int)} {t : Addr} (h : TupsAt H bs E) (ht : FqT K H t (bs.map V.ref)) (hE : E.Pairwise (fun p q => p.1 < q.1)) (hpos : ∀ p ∈ E, 0 < p.2) (hl : E.length ≤ 1000) :
    BagAt K H t (E.map fun p => (p.1, p.2.toNat)) := by
  refine ⟨⟨List.pairwise_map.mpr hE, fun p hp => ?_⟩, by rw [List.length_map]; exact hl, bs, ht, ?_⟩
  · obtain ⟨q, hq, e⟩ := List.mem_map.mp hp
    have := hpos q hq
    rw [← e]
    show 1 ≤ q.2.toNat
    omega
  · have : ∀ {bs : List Addr} {E : List (Int × Int)}, TupsAt H bs E → (∀ p ∈ E, 0 < p.2) → PairsAt K H bs (E.map fun p => (p.1, p.2.toNat)) := by
      intro bs E h
      induction h with
      | nil => intro _; exact .nil
      | @cons a b l m h t ih =>
        intro hp
        have hb := hp b List.mem_cons_self
        have e : ((b.2.toNat : Nat) : Int) = b.2 := Int.toNat_of_nonneg (by omega)
        exact Paired.cons (F := fun (a : Addr) (p : Int × Nat) => SqT K H a (prV p)) (b := (b.1, b.2.toNat)) (SqT.of (show H a = some (.tup [.int b.1, .int ((b.2.toNat : Nat) : Int)]) by rw [e]; exact h)) (ih fun p hm => hp p (List.mem_cons_of_mem _ hm))
    exact this h hpos
theorem ok_from (fr : Free mg) (D : DfP K mg sFrom) : Cal P w K mg base 2 "from_counts" (spFrom K) := by
  refine cal_of D (ps := ["counts"]) sc_from (fun vs H Q E h => by obtain ⟨d, B, rfl, _⟩ := h; rfl) (fun _ _ _ _ _ _ us hl => match us, hl with | [_], _ => rfl) fun cdv f A outer s H vs Q E hr h => ?_
  obtain ⟨d, D, rfl, hd, hnd, hlen, hQ⟩ := h
  have nd := sc_from.nd
  refine ⟨_, pss_one (ps_ret (pe_callTy call_tupF (by rfl) (fr _ (by decide)) (by decide +kernel) (pa_cons (pe_callB cr_sortedPO (by rfl) (fr _ (by decide)) (by decide +kernel)
    (pa_cons (pe_lock (pe_lc (own := [("number", 1), ("count", 2)]) (g := gTup K 2 (gCons (gName 1) (gCons (gName 2) gNil))) rfl nd (pi_items (L2.pv 0)) (blkOk_by (N := ["counts", "number", "count"]) (sc := defScope sFrom) (by decide +kernel))
      (fun s H C cl fp => pg_tup rfl (pgs_cons (pg_name (i := 1) nd rfl (Or.inl rfl)) (pgs_cons (pg_name (i := 2) nd rfl (Or.inl rfl)) pgs_nil)))
      (fun _ _ _ _ _ => pts_one (pt_cmpR op_gt (L2.pv 2) pe_int (nomark _)))
      (fun _ _ _ _ _ => pe_tup (pa_cons (L2.pv 1) (pa_cons (L2.pv 2) pa_nil))))) pa_nil)) pa_nil))), ?_⟩
  refine ⟨d, _, hd, True.intro, fun od => ?_⟩
  refine ⟨_, rfl, d, od, _, rfl, upd_same, fun l hl => ?_⟩
  have hdl : d ≠ l := ne_of_none upd_same hl
  have hHl : H l = none := by rw [upd_ne (fun z => hdl z.symm)] at hl; exact hl
  have hkl : (kvsI D).length = D.length := List.length_map ..
  refine lc_it walk_items (fun i H' => (∀ b o, b ≠ d → H b = some o → H' b = some o) ∧ H' d = some (.frz od (.dK (kvsI D))) ∧ ∃ as, H' l = some (.lst (as.map V.ref)) ∧ (∀ a ∈ as, H a = none ∧ a ≠ l ∧ a ≠ d) ∧ TupsAt H' as ((D.take i).filter fun p => decide (0 < p.2)) ∧ as.length ≤ i)
    ⟨fun b o hb e => ?_, ?_, [], upd_same, fun a ha => (nomatch ha), .nil, Nat.le_refl _⟩ (fun i H' _ h => h.2.1) (fun i x H1 H2 hi h y => ?_) (fun H' h => ?_)
  · rw [upd_ne (fun z => by rw [z, hHl] at e; cases e), upd_ne hb]
    exact e
  · rw [upd_ne hdl]
    exact upd_same
  · obtain ⟨hs, hd1, as, hl1, hf, ha, hal⟩ := h
    obtain ⟨T, k, v, rfl, hT, rfl, e1, e2⟩ := y
    rw [hkl] at hi
    have hi' : D[i]? = some D[i] := List.getElem?_eq_getElem hi
    have e3 : (kvsI D)[i]? = some (.inl D[i].1, .int D[i].2) := by rw [List.getElem?_map, hi']; rfl
    simp only [e3, Option.map_some, Option.some.injEq] at e1 e2
    subst e1 e2
    refine ⟨T, _, rfl, SqT.of upd_same, rfl, _, _, rfl, _, _, rfl, rfl, rfl, ?_⟩
    have nT : ∀ b o, H1 b = some o → b ≠ T := fun b o e => ne_of_none e hT
    have up : ∀ b o, H1 b = some o → (upd H1 T (.tup [kV (.inl D[i].1), .int D[i].2])) b = some o := fun b o e => by rw [upd_ne (nT b o e)]; exact e
    have hfs : (D.take (i + 1)).filter (fun p => decide (0 < p.2)) = (D.take i).filter (fun p => decide (0 < p.2)) ++ (if 0 < D[i].2 then [D[i]] else []) := by
      rw [take_snoc hi', List.filter_append]
      congr 1
      by_cases hc : 0 < D[i].2
      · rw [if_pos hc, List.filter_cons, if_pos (by simpa using hc)]; rfl
      · rw [if_neg hc, List.filter_cons, if_neg (by simpa using hc)]; rfl
    by_cases hc : 0 < D[i].2
    · rw [if_pos hc] at hfs
      refine ⟨_, rfl, _, _, rfl, rfl, true, bl_t hc, ?_⟩
      refine ⟨_, rfl, _, rfl, by show 2 ≤ sizeLine; decide, fun p hp => ?_⟩
      have np : ∀ b o, H1 b = some o → b ≠ p := fun b o e => ne_of_none (up b o e) hp
      have lp : l ≠ p := np _ _ hl1
      have pn : ∀ b o, H1 b = some o → (upd (upd H1 T (.tup [kV (.inl D[i].1), .int D[i].2])) p (.tup [.int D[i].1, .int D[i].2])) b = some o := fun b o e => by rw [upd_ne (np b o e)]; exact up b o e
      refine ⟨_, pn _ _ hl1, ?_, fun b o hb e => ?_, ?_, as ++ [p], by rw [upd_same, List.map_append]; rfl, fun a ha' => ?_, ?_, by simp; omega⟩
      · have : (1000 : Nat) < sizeLine := by decide
        rw [List.length_map]
        omega
      · rw [upd_ne (fun z => by rw [z, hHl] at e; cases e)]
        exact pn _ _ (hs b o hb e)
      · rw [upd_ne hdl]
        exact pn _ _ hd1
      · rcases List.mem_append.mp ha' with ha' | ha'
        · exact hf a ha'
        · rw [List.mem_singleton.mp ha']
          refine ⟨?_, fun z => lp z.symm, fun z => np _ _ hd1 z.symm⟩
          cases q : H p with
          | none => rfl
          | some o =>
            by_cases z : p = d
            · exact absurd z.symm (np _ _ hd1)
            · exact absurd rfl (np _ _ (hs p o z q))
      · rw [hfs]
        refine paired_snoc (F := fun (a : Addr) (q : Int × Int) => upd (upd (upd H1 T _) p _) l _ a = some (.tup [.int q.1, .int q.2])) ?_ ?_
        · exact Paired.imp (fun a q e => by rw [upd_ne (fun z => by rw [z, hl1] at e; cases e)]; exact pn _ _ e) ha
        · rw [upd_ne (fun z => lp z.symm), upd_same]
          rfl
    · rw [if_neg hc, List.append_nil] at hfs
      refine ⟨_, rfl, _, _, rfl, rfl, false, bl_f hc, ?_⟩
      refine ⟨fun b o hb e => up _ _ (hs b o hb e), up _ _ hd1, as, up _ _ hl1, hf, ?_, by omega⟩
      rw [hfs]
      exact Paired.imp (fun a q e => up _ _ e) ha
  · obtain ⟨hs, hd1, as, hl1, hf, ha, hal⟩ := h
    rw [hkl, List.take_length] at ha
    refine ⟨hd1, ?_⟩
    have hS : Same H (upd H' d (.dK (kvsI D))) := fun b o e => by
      by_cases z : b = d
      · subst z; rw [upd_same, ← hd, e]
      · rw [upd_ne z]; exact hs b o z e
    have ha2 : TupsAt (upd H' d (.dK (kvsI D))) as (D.filter fun p => decide (0 < p.2)) :=
      Paired.imp (fun a q e => by rw [upd_ne (fun z => by rw [z, hd1] at e; cases e)]; exact e) ha
    have hl2 : (upd H' d (.dK (kvsI D))) l = some (.lst (as.map V.ref)) := by rw [upd_ne (fun z => hdl z.symm)]; exact hl1
    refine ⟨l, as.map V.ref, pairOf (upd H' d (.dK (kvsI D))), rfl, SqL.of hl2, fun x hx => ?_, fun ys p hs1 hs2 hp => ?_⟩
    · obtain ⟨a, ha', rfl⟩ := List.mem_map.mp hx
      obtain ⟨j, hj, e⟩ := List.mem_iff_getElem.mp ha'
      obtain ⟨q, _, h2⟩ := Paired.at ha2 (show as[j]? = some a by rw [List.getElem?_eq_getElem hj, e])
      have e5 : pairOf (upd H' d (.dK (kvsI D))) (V.ref a) = q := by simp only [pairOf, h2]
      exact ⟨a, rfl, by rw [e5]; exact h2⟩
    · obtain ⟨bs, E, e1, e2, e3, e4⟩ := sorted_pairs ha2 (hnd.sublist (List.filter_sublist.map _)) hs1 hs2
      refine ⟨p, ys, rfl, SqL.of upd_same, fun t o ht ho => ?_⟩
      have hpt : p ≠ t := ne_of_none (H := upd (upd H' d (.dK (kvsI D))) p (.lst ys)) upd_same ht
      have sp : Same (upd H' d (.dK (kvsI D))) (upd (upd (upd H' d (.dK (kvsI D))) p (.lst ys)) t (.frz o (.tup ys))) := fun b u e => by
        have z1 : b ≠ p := ne_of_none e hp
        have z2 : b ≠ t := fun z => by rw [z] at e z1; rw [upd_ne z1, e] at ht; cases ht
        rw [upd_ne z2, upd_ne z1]
        exact e
      have hbs : TupsAt (upd (upd (upd H' d (.dK (kvsI D))) p (.lst ys)) t (.frz o (.tup ys))) bs E := Paired.imp (fun a q e => sp _ _ e) e2
      have hft : FqT K (upd (upd (upd H' d (.dK (kvsI D))) p (.lst ys)) t (.frz o (.tup ys))) t (bs.map V.ref) := .inl ⟨o, by rw [upd_same, e1], ho⟩
      refine hQ _ t (E.map fun q => (q.1, q.2.toNat)) (fun b u e => sp _ _ (hS b u e)) ?_ (e3.map _) (bag_of hbs hft e4 (fun q hq => ?_) ?_)
      · cases q : H t with
        | none => rfl
        | some u =>
          have := hS t u q
          rw [upd_ne (fun z => hpt z.symm), this] at ht
          cases ht
      · exact of_decide_eq_true (List.mem_filter.mp (e3.mem_iff.mp hq)).2
      · have h1 := e3.length_eq
        have h2 := List.length_filter_le (fun p => decide (0 < p.2)) D
        omega
end
end Gk

/-! P4 -/
set_option Elab.async false
set_option linter.all false
set_option maxRecDepth 100000
set_option maxHeartbeats 1000000
namespace Gk
open PySem PySem.Spec PyProof.Rows L2
theorem inl_dec (a b : Int) : decide ((Sum.inl a : Key) = Sum.inl b) = decide (a = b) := by
  by_cases h : a = b
  · subst h; simp
  · rw [decide_eq_false h, decide_eq_false (fun z => h (Sum.inl.inj z))]
theorem any_kvsI (D : Dic) (n : Int) : ((kvsI D).any fun kv => decide (kv.1 = Sum.inl n)) = D.any fun p => decide (p.1 = n) := by
  rw [List.any_map]
  congr 1
  funext p
  exact inl_dec _ _
theorem put_kvsI (D : Dic) (n v : Int) : putK (kvsI D) (.inl n) (.int v) = kvsI (putI D n v) := by
  unfold putK putI
  rw [any_kvsI]
  unfold kvsI
  split
  · rw [List.map_map, List.map_map]
    refine List.map_congr_left fun p _ => ?_
    show (if (Sum.inl p.1 : Key) = Sum.inl n then _ else _) = _
    by_cases h : p.1 = n
    · rw [if_pos (by rw [h])]
      show _ = ((Sum.inl (if p.1 = n then (p.1, v) else p).1 : Key), V.int (if p.1 = n then (p.1, v) else p).2)
      rw [if_pos h]
    · rw [if_neg (fun z => h (Sum.inl.inj z))]
      show _ = ((Sum.inl (if p.1 = n then (p.1, v) else p).1 : Key), V.int (if p.1 = n then (p.1, v) else p).2)
      rw [if_neg h]
  · rw [List.map_append]
    rfl
theorem val_kvsI (n : Int) : ∀ D : Dic, valV (kvsI D) (.inl n) = (getI D n).map V.int
  | [] => rfl
  | p :: D => by
    rw [getI_cons]
    by_cases h : p.1 = n
    · rw [if_pos h, kvsI, List.map_cons, valV_pos (by rw [h])]
      rfl
    · rw [if_neg h, kvsI, List.map_cons, valV_neg (fun z => h (Sum.inl.inj z)), ← val_kvsI n D]
theorem merge_kvsI : ∀ (D A : Dic), NdI (A ++ D) → mergeK (kvsI A) (kvsI D) = kvsI (A ++ D)
  | [], A, _ => by rw [List.append_nil]; rfl
  | p :: D, A, h => by
    have hp : p.1 ∉ A.map (·.1) := fun z => by
      unfold NdI at h
      rw [List.map_append, List.map_cons, List.nodup_append] at h
      exact h.2.2 _ z _ List.mem_cons_self rfl
    have e : putK (kvsI A) (.inl p.1) (.int p.2) = kvsI (A ++ [p]) := by
      rw [put_kvsI]
      unfold putI
      rw [if_neg (fun z => hp (any_iff.mp z))]
    show mergeK (putK (kvsI A) (.inl p.1) (.int p.2)) (kvsI D) = _
    rw [e, merge_kvsI D (A ++ [p]) (by rw [List.append_assoc]; exact h), List.append_assoc]
    rfl
theorem merge_kvs0 {D : Dic} (h : NdI D) : mergeK [] (kvsI D) = kvsI D := merge_kvsI D [] h
theorem pairs_kvs {K : PySem.W.Frag} {H : Hp} {as : List Addr} {A : Bag} (h : PairsAt K H as A) : Paired (fun p kv => SqT K H p [kV kv.1, kv.2]) as (kvsI (ofB A)) := by
  induction h with
  | nil => exact .nil
  | cons h t ih => exact .cons h ih
theorem ofB_len (A : Bag) : (ofB A).length = A.length := List.length_map ..
theorem addI_take {A B : Bag} {i : Nat} {p : Int × Nat} (h : B[i]? = some p) : addI (ofB A) (B.take (i + 1)) = putI (addI (ofB A) (B.take i)) p.1 ((getI (addI (ofB A) (B.take i)) p.1).getD 0 + (p.2 : Int)) := by
  unfold addI
  rw [take_snoc h, List.foldl_append]
  rfl
theorem subI_take {A B : Bag} {i : Nat} {p : Int × Nat} (h : B[i]? = some p) : subI (ofB A) (B.take (i + 1)) = putI (subI (ofB A) (B.take i)) p.1 ((getI (subI (ofB A) (B.take i)) p.1).getD 0 - (p.2 : Int)) := by
  unfold subI
  rw [take_snoc h, List.foldl_append]
  rfl
theorem subI_nodup : ∀ {B : Bag} {D : Dic}, NdI D → NdI (subI D B)
  | [], _, h => h
  | p :: B, D, h => subI_nodup (B := B) (putI_nodup h)
theorem subI_len : ∀ (B : Bag) (D : Dic), (subI D B).length ≤ D.length + B.length
  | [], D => Nat.le_refl _
  | p :: B, D => by
    have h1 := subI_len B (putI D p.1 ((getI D p.1).getD 0 - (p.2 : Int)))
    have h2 := putI_len D p.1 ((getI D p.1).getD 0 - (p.2 : Int))
    show (subI (putI D p.1 _) B).length ≤ _
    rw [List.length_cons]
    omega
theorem getD_map (o : Option Int) : ((o.map V.int).getD (V.int 0)) = V.int (o.getD 0) := by cases o <;> rfl
section
variable {P : Program} {w : World} {K : PySem.W.Frag} {mg : Str → Option Value} {base : Heap}
def spAdd (K : PySem.W.Frag) : Sp := fun vs H Q _ => ∃ (a b : Addr) (A B : Bag), vs = [.ref a, .ref b] ∧ BagAt K H a A ∧ BagAt K H b B ∧ A.length + B.length ≤ 1000 ∧
  ∀ H' t R, Same H H' → H t = none → BagAt K H' t R → (flat R).Perm (flat A ++ flat B) → Q (.ref t) H'
theorem sc_add : FnScope ["first", "second", "counts", "number", "count"] ["first", "second"] (defScope sAdd) := ⟨rfl, rfl, rfl, by decide +kernel, rfl, by decide +kernel, by decide +kernel⟩
theorem ok_add (fr : Free mg) (cF : Cal P w K mg base 2 "from_counts" (spFrom K)) (D : DfP K mg sAdd) : Cal P w K mg base 3 "add" (spAdd K) := by
  refine cal_of D (ps := ["first", "second"]) sc_add (fun vs H Q E h => by obtain ⟨a, b, A, B, rfl, _⟩ := h; rfl) (fun _ _ _ _ _ _ us hl => match us, hl with | [_, _], _ => rfl) fun cdv f A outer s H vs Q E hr h => ?_
  obtain ⟨a, b, A, B, rfl, hA, hB, hlen, hQ⟩ := h
  have nd := sc_add.nd
  refine ⟨_, pss_cons (ps_set (i := 2) nd rfl (Or.inl rfl) (pe_callTy (call_dictT rfl) (by rfl) (fr _ (by decide)) (by decide +kernel) (pa_cons (L2.pv 0) pa_nil)))
    (pss_cons (ps_for PassesOwn.never rfl (pi_tup (L2.pv 1)) (pg_tup (by rfl) (pgs_cons (pg_name (i := 3) nd rfl (Or.inl rfl)) (pgs_cons (pg_name (i := 4) nd rfl (Or.inl rfl)) pgs_nil)))
      (pss_one (ps_dput (hu_of hr) (L2.pv 2) (L2.pv 3) (pe_op op_add (pe_dget2 (hu_of hr) (L2.pv 2) (L2.pv 3) pe_int ⟨rfl, rfl, rfl, rfl⟩) (L2.pv 4)) (by rfl))))
    (pss_one (ps_ret (pe_cl cF hr (Nat.le_refl _) (by rfl) (pa_cons (L2.pv 2) pa_nil))))), ?_⟩
  obtain ⟨as, a1, a2⟩ := hA.ex
  obtain ⟨bs, b1, b2⟩ := hB.ex
  refine ⟨_, rfl, a, as, _, rfl, a1, pairs_kvs a2, fun c hc => ?_⟩
  rw [merge_kvs0 (ofB_nodup hA.isB)]
  have s0 : Same H (upd H c (.dK (kvsI (ofB A)))) := same_upd hc
  refine ⟨_, rfl, b, rfl, ⟨_, sqt_same s0 b1.sq⟩, ?_⟩
  refine for_tup (xs := bs.map V.ref) (fun i σ' H' => ∃ o3 o4, σ' = [some (.ref a), some (.ref b), some (.ref c), o3, o4] ∧ Same H H' ∧ H' c = some (.dK (kvsI (addI (ofB A) (B.take i))))) ⟨none, none, rfl, s0, upd_same⟩ (fun i σ' H' _ h => ?_) (fun i x σ' H' hx h => ?_) (fun σ' H' h => ?_)
  · obtain ⟨_, _, _, hs, _⟩ := h
    exact sqt_same hs b1.sq
  · obtain ⟨o3, o4, rfl, hs, hc'⟩ := h
    obtain ⟨e, he, rfl⟩ := refs_item hx
    obtain ⟨p, hp, hq⟩ := Paired.at b2 he
    refine ⟨e, _, rfl, sqt_same hs hq, rfl, _, _, rfl, _, _, rfl, rfl, ?_⟩
    refine ⟨_, rfl, c, rfl, .inl ⟨_, .inl hc'⟩, _, rfl, _, DGet.k (k := Sum.inl p.1) hc', _, rfl, (getI (addI (ofB A) (B.take i)) p.1).getD 0, _, ?_, rfl, ?_⟩
    · rw [val_kvsI]; exact getD_map _
    refine ⟨_, rfl, _, rfl, c, _, rfl, DPut.k (k := Sum.inl p.1) hc' ?_, ?_⟩
    · have h1 := addI_len (B.take i) (ofB A)
      have h2 : (B.take i).length ≤ B.length := by rw [List.length_take]; exact Nat.min_le_right _ _
      rw [ofB_len] at h1
      refine small1000 ?_
      rw [List.length_map]
      omega
    · refine ⟨_, _, rfl, fun x o e => ?_, ?_⟩
      · rw [upd_ne (fun z => by rw [z, hc] at e; cases e)]
        exact hs x o e
      · rw [upd_same, put_kvsI, addI_take hp]
  · obtain ⟨_, _, rfl, hs, hc'⟩ := h
    have hl : (bs.map V.ref).length = B.length := by rw [List.length_map]; exact Paired.length b2
    rw [hl, List.take_length] at hc'
    refine ⟨_, rfl, c, _, rfl, hc', addI_nodup (ofB_nodup hA.isB), ?_, fun H2 t R e1 e2 e3 e4 => ?_⟩
    · have h1 := addI_len B (ofB A)
      rw [ofB_len] at h1
      omega
    · refine hQ H2 t R (fun x o e => e1 _ _ (hs _ _ e)) ?_ e4 (add_flat hA.isB hB.isB e3)
      cases q : H t with
      | none => rfl
      | some o => rw [hs _ _ q] at e2; cases e2
end
end Gk

/-! P5 -/
set_option Elab.async false
set_option linter.all false
set_option maxRecDepth 100000
set_option maxHeartbeats 1000000
namespace Gk
open PySem PySem.Spec PyProof.Rows L2
theorem dropB_len : ∀ (B : Bag) (n : Nat), (dropB n B).length ≤ B.length
  | [], _ => Nat.le_refl _
  | p :: B, n => by
    unfold dropB
    split
    · have := dropB_len B (n - p.2)
      rw [List.length_cons]; omega
    · have := dropB_len B 0
      rw [List.length_cons, List.length_cons]; omega
theorem sum_flat (B : Bag) : (B.map fun p => (p.2 : Int)).sum = ((flat B).length : Int) := by
  induction B with
  | nil => rfl
  | cons p B ih =>
    rw [List.map_cons, List.sum_cons, ih, len_flat_cons]
    push_cast
    rfl
section
variable {P : Program} {w : World} {K : PySem.W.Frag} {mg : Str → Option Value} {base : Heap}
/-! ### subtract -/
def spSub (K : PySem.W.Frag) : Sp := fun vs H Q _ => ∃ (a b : Addr) (A B : Bag), vs = [.ref a, .ref b] ∧ BagAt K H a A ∧ BagAt K H b B ∧ A.length + B.length ≤ 1000 ∧ (∀ p ∈ subI (ofB A) B, 0 ≤ p.2) ∧
  ∀ H' t R, Same H H' → H t = none → BagAt K H' t R → R.Perm (posB (subI (ofB A) B)) → Q (.ref t) H'
theorem sc_sub : FnScope ["bag", "other", "counts", "number", "count"] ["bag", "other"] (defScope sSub) := ⟨rfl, rfl, rfl, by decide +kernel, rfl, by decide +kernel, by decide +kernel⟩
theorem ok_sub (fr : Free mg) (cF : Cal P w K mg base 2 "from_counts" (spFrom K)) (D : DfP K mg sSub) : Cal P w K mg base 3 "subtract" (spSub K) := by
  refine cal_of D (ps := ["bag", "other"]) sc_sub (fun vs H Q E h => by obtain ⟨a, b, A, B, rfl, _⟩ := h; rfl) (fun _ _ _ _ _ _ us hl => match us, hl with | [_, _], _ => rfl) fun cdv f A outer s H vs Q E hr h => ?_
  obtain ⟨a, b, A, B, rfl, hA, hB, hlen, hnn, hQ⟩ := h
  have nd := sc_sub.nd
  refine ⟨_, pss_cons (ps_set (i := 2) nd rfl (Or.inl rfl) (pe_callTy (call_dictT rfl) (by rfl) (fr _ (by decide)) (by decide +kernel) (pa_cons (L2.pv 0) pa_nil)))
    (pss_cons (ps_for PassesOwn.never rfl (pi_tup (L2.pv 1)) (pg_tup (by rfl) (pgs_cons (pg_name (i := 3) nd rfl (Or.inl rfl)) (pgs_cons (pg_name (i := 4) nd rfl (Or.inl rfl)) pgs_nil)))
      (pss_one (ps_dput (hu_of hr) (L2.pv 2) (L2.pv 3) (pe_op op_sub (pe_dget2 (hu_of hr) (L2.pv 2) (L2.pv 3) pe_int ⟨rfl, rfl, rfl, rfl⟩) (L2.pv 4)) (by rfl))))
    (pss_one (ps_ret (pe_ifExp (pt_val (pe_callB (cr_any rfl) (by rfl) (fr _ (by decide)) (by decide +kernel) (pa_cons (pe_lock (pe_lc (own := [("count", 4)]) (g := gName 4) (tt := tYes) rfl nd (pi_values (L2.pv 2)) (blkOk_by (N := ["bag", "other", "counts", "number", "count"]) (sc := defScope sSub) (by decide +kernel))
      (fun _ _ _ _ _ => pg_name (i := 4) nd rfl (Or.inl rfl)) (fun _ _ _ _ _ => pts_nil) (fun _ _ _ _ _ => pe_cmp (pc_lt (L2.pv 4) pe_int) rfl))) pa_nil))) pe_non (pe_cl cF hr (Nat.le_refl _) (by rfl) (pa_cons (L2.pv 2) pa_nil)))))), ?_⟩
  obtain ⟨as, a1, a2⟩ := hA.ex
  obtain ⟨bs, b1, b2⟩ := hB.ex
  refine ⟨_, rfl, a, as, _, rfl, a1, pairs_kvs a2, fun c hc => ?_⟩
  rw [merge_kvs0 (ofB_nodup hA.isB)]
  have s0 : Same H (upd H c (.dK (kvsI (ofB A)))) := same_upd hc
  refine ⟨_, rfl, b, rfl, ⟨_, sqt_same s0 b1.sq⟩, ?_⟩
  refine for_tup (xs := bs.map V.ref) (fun i σ' H' => ∃ o3 o4, σ' = [some (.ref a), some (.ref b), some (.ref c), o3, o4] ∧ Same H H' ∧ H' c = some (.dK (kvsI (subI (ofB A) (B.take i))))) ⟨none, none, rfl, s0, upd_same⟩ (fun i σ' H' _ h => ?_) (fun i x σ' H' hx h => ?_) (fun σ' H' h => ?_)
  · obtain ⟨_, _, _, hs, _⟩ := h
    exact sqt_same hs b1.sq
  · obtain ⟨o3, o4, rfl, hs, hc'⟩ := h
    obtain ⟨e, he, rfl⟩ := refs_item hx
    obtain ⟨p, hp, hq⟩ := Paired.at b2 he
    refine ⟨e, _, rfl, sqt_same hs hq, rfl, _, _, rfl, _, _, rfl, rfl, ?_⟩
    refine ⟨_, rfl, c, rfl, .inl ⟨_, .inl hc'⟩, _, rfl, _, DGet.k (k := Sum.inl p.1) hc', _, rfl, (getI (subI (ofB A) (B.take i)) p.1).getD 0, _, ?_, rfl, ?_⟩
    · rw [val_kvsI]; exact getD_map _
    refine ⟨_, rfl, _, rfl, c, _, rfl, DPut.k (k := Sum.inl p.1) hc' ?_, ?_⟩
    · have h1 := subI_len (B.take i) (ofB A)
      have h2 : (B.take i).length ≤ B.length := by rw [List.length_take]; exact Nat.min_le_right _ _
      rw [ofB_len] at h1
      refine small1000 ?_
      rw [List.length_map]
      omega
    · refine ⟨_, _, rfl, fun x o e => ?_, ?_⟩
      · rw [upd_ne (fun z => by rw [z, hc] at e; cases e)]
        exact hs x o e
      · rw [upd_same, put_kvsI, subI_take hp]
  · obtain ⟨o3, o4, rfl, hs, hc'⟩ := h
    have hl : (bs.map V.ref).length = B.length := by rw [List.length_map]; exact Paired.length b2
    rw [hl, List.take_length] at hc'
    have h1 := subI_len B (ofB A)
    rw [ofB_len] at h1
    have hkl : (kvsI (subI (ofB A) B)).length = (subI (ofB A) B).length := List.length_map ..
    refine ⟨c, _, hc', True.intro, fun od => ?_⟩
    refine ⟨_, rfl, c, od, _, rfl, upd_same, fun l hl' => ?_⟩
    have hcl : c ≠ l := ne_of_none upd_same hl'
    have hHl : H' l = none := by rw [upd_ne (fun z => hcl z.symm)] at hl'; exact hl'
    refine lc_it walk_values (fun i H2 => (∀ b o, b ≠ c → H' b = some o → H2 b = some o) ∧ H2 c = some (.frz od (.dK (kvsI (subI (ofB A) B)))) ∧ H2 l = some (.lst ((List.replicate i false).map V.bl)))
      ⟨fun b o hb e => ?_, ?_, upd_same⟩ (fun i H2 _ h => h.2.1) (fun i x H1 H2 hi h y => ?_) (fun H2 h => ?_)
    · rw [upd_ne (fun z => by rw [z, hHl] at e; cases e), upd_ne hb]
      exact e
    · rw [upd_ne hcl]
      exact upd_same
    · obtain ⟨h3, h4, h5⟩ := h
      obtain ⟨rfl, k, e⟩ := y
      rw [hkl] at hi
      have hi' : (subI (ofB A) B)[i]? = some (subI (ofB A) B)[i] := List.getElem?_eq_getElem hi
      have e3 : (kvsI (subI (ofB A) B))[i]? = some (.inl (subI (ofB A) B)[i].1, .int (subI (ofB A) B)[i].2) := by rw [List.getElem?_map, hi']; rfl
      rw [e3] at e
      cases e
      refine ⟨rfl, ?_⟩
      have hn := hnn _ (List.getElem_mem hi)
      have hlen2 : ((List.replicate i false).map V.bl).length < sizeLine := by
        rw [List.length_map, List.length_replicate]
        exact small1000 (by omega)
      refine ⟨_, rfl, _, _, rfl, rfl, _, h5, hlen2, ?_⟩
      refine ⟨fun b o hb e => ?_, ?_, ?_⟩
      · rw [upd_ne (fun z => by rw [z, hHl] at e; cases e)]
        exact h3 b o hb e
      · rw [upd_ne hcl]; exact h4
      · rw [upd_same, List.replicate_succ', List.map_append]
        show some (HO.lst (_ ++ [V.bl (decide (_ < (0 : Int)))])) = _
        rw [bl_f (by omega)]
        rfl
    · obtain ⟨h3, h4, h5⟩ := h
      refine ⟨h4, l, List.replicate _ false, rfl, SqL.of (by rw [upd_ne (fun z => hcl z.symm)]; exact h5), false, by rw [List.any_replicate]; simp, ?_⟩
      have hS : Same H' (upd H2 c (.dK (kvsI (subI (ofB A) B)))) := fun b o e => by
        by_cases z : b = c
        · subst z; rw [upd_same, ← hc', e]
        · rw [upd_ne z]; exact h3 b o z e
      refine ⟨_, rfl, c, _, rfl, upd_same, subI_nodup (ofB_nodup hA.isB), by omega, fun H3 t R e1 e2 e3 e4 => ?_⟩
      refine hQ H3 t R (fun x o e => e1 _ _ (hS _ _ (hs _ _ e))) ?_ e4 e3
      cases q : H t with
      | none => rfl
      | some o => rw [hS _ _ (hs _ _ q)] at e2; cases e2
/-! ### total -/
def spTotal (K : PySem.W.Frag) : Sp := fun vs H Q _ => ∃ (t : Addr) (B : Bag), vs = [.ref t] ∧ BagAt K H t B ∧ ∀ H', Same H H' → Q (.int (flat B).length) H'
theorem sc_total : FnScope ["bag", "number", "count"] ["bag"] (defScope sTotal) := ⟨rfl, rfl, rfl, by decide +kernel, rfl, by decide +kernel, by decide +kernel⟩
theorem ok_total (fr : Free mg) (D : DfP K mg sTotal) : Cal P w K mg base 2 "total" (spTotal K) := by
  refine cal_of D (ps := ["bag"]) sc_total (fun vs H Q E h => by obtain ⟨a, B, rfl, _⟩ := h; rfl) (fun _ _ _ _ _ _ us hl => match us, hl with | [_], _ => rfl) fun cdv f A outer s H vs Q E hr h => ?_
  obtain ⟨t, B, rfl, hB, hQ⟩ := h
  have nd := sc_total.nd
  refine ⟨_, pss_one (ps_ret (pe_callB (cr_sum rfl) (by rfl) (fr _ (by decide)) (by decide +kernel) (pa_cons (pe_lc (own := [("number", 1), ("count", 2)]) (g := gTup K 2 (gCons (gName 1) (gCons (gName 2) gNil))) (tt := tYes) rfl nd (pi_tup (L2.pv 0)) (blkOk_by (N := ["bag", "number", "count"]) (sc := defScope sTotal) (by decide +kernel))
      (fun _ _ _ _ _ => pg_tup rfl (pgs_cons (pg_name (i := 1) nd rfl (Or.inl rfl)) (pgs_cons (pg_name (i := 2) nd rfl (Or.inl rfl)) pgs_nil))) (fun _ _ _ _ _ => pts_nil) (fun _ _ _ _ _ => L2.pv 2)) pa_nil))), ?_⟩
  obtain ⟨bs, b1, b2⟩ := hB.ex
  have hl := Paired.length b2
  refine ⟨_, rfl, t, rfl, ⟨_, b1.sq⟩, fun l hl' => ?_⟩
  refine lc_it (walk_tup (xs := bs.map V.ref)) (fun i H2 => Same H H2 ∧ H2 l = some (.lst (((B.take i).map fun p => (p.2 : Int)).map V.int))) ⟨same_upd hl', upd_same⟩ (fun i H2 _ h => sqt_same h.1 b1.sq) (fun i x H1 H2 hi h y => ?_) (fun H2 h => ?_)
  · obtain ⟨h1, h2⟩ := h
    obtain ⟨rfl, hx⟩ := y
    obtain ⟨e, he, rfl⟩ := refs_item hx
    obtain ⟨p, hp, hq⟩ := Paired.at b2 he
    refine ⟨e, _, rfl, sqt_same h1 hq, rfl, _, _, rfl, _, _, rfl, rfl, rfl, ?_⟩
    refine ⟨_, rfl, _, h2, ?_, fun x o e => ?_, ?_⟩
    · have := hB.len
      refine small1000 ?_
      simp only [List.length_map, List.length_take]
      omega
    · rw [upd_ne (fun z => by rw [z, hl'] at e; cases e)]
      exact h1 x o e
    · rw [upd_same, take_snoc hp, List.map_append, List.map_append]
      rfl
  · obtain ⟨h1, h2⟩ := h
    rw [List.length_map, hl, List.take_length] at h2
    refine ⟨l, _, rfl, SqL.of h2, ?_⟩
    rw [sum_flat]
    exact hQ _ h1
end
end Gk

/-! P6 -/
set_option Elab.async false
set_option linter.all false
set_option maxRecDepth 100000
set_option maxHeartbeats 1000000
namespace Gk
open PySem PySem.Spec PyProof.Rows L2
section
variable {P : Program} {w : World} {K : PySem.W.Frag} {mg : Str → Option Value} {base : Heap}
/-! ### scale, by one -/
def spScale (K : PySem.W.Frag) : Sp := fun vs H Q _ => ∃ (t : Addr) (B : Bag), vs = [.ref t, .int 1] ∧ BagAt K H t B ∧ ∀ H' t', Same H H' → H t' = none → BagAt K H' t' B → Q (.ref t') H'
theorem sc_scale : FnScope ["bag", "count", "number", "many"] ["bag", "count"] (defScope sScale) := ⟨rfl, rfl, rfl, by decide +kernel, rfl, by decide +kernel, by decide +kernel⟩
theorem ok_scale (fr : Free mg) (D : DfP K mg sScale) : Cal P w K mg base 2 "scale" (spScale K) := by
  refine cal_of D (ps := ["bag", "count"]) sc_scale (fun vs H Q E h => by obtain ⟨a, B, rfl, _⟩ := h; rfl) (fun _ _ _ _ _ _ us hl => match us, hl with | [_, _], _ => rfl) fun cdv f A outer s H vs Q E hr h => ?_
  obtain ⟨t, B, rfl, hB, hQ⟩ := h
  have nd := sc_scale.nd
  refine ⟨_, pss_one (ps_ret (pe_ifExp (pt_cmpR op_gt (L2.pv 1) pe_int (nomark _)) (pe_callTy call_tupF (by rfl) (fr _ (by decide)) (by decide +kernel) (pa_cons (pe_lc (own := [("number", 2), ("many", 3)]) (g := gTup K 2 (gCons (gName 2) (gCons (gName 3) gNil))) (tt := tYes) rfl nd (pi_tup (L2.pv 0)) (blkOk_by (N := ["bag", "count", "number", "many"]) (sc := defScope sScale) (by decide +kernel))
      (fun _ _ _ _ _ => pg_tup rfl (pgs_cons (pg_name (i := 2) nd rfl (Or.inl rfl)) (pgs_cons (pg_name (i := 3) nd rfl (Or.inl rfl)) pgs_nil))) (fun _ _ _ _ _ => pts_nil) (fun _ _ _ _ _ => pe_tup (pa_cons (L2.pv 2) (pa_cons (pe_op op_mul (L2.pv 3) (L2.pv 1)) pa_nil)))) pa_nil)) pe_never)), ?_⟩
  obtain ⟨bs, b1, b2⟩ := hB.ex
  have hl := Paired.length b2
  refine ⟨_, rfl, _, _, rfl, rfl, true, rfl, ?_⟩
  refine ⟨_, rfl, t, rfl, ⟨_, b1.sq⟩, fun l hl' => ?_⟩
  refine lc_it (walk_tup (xs := bs.map V.ref)) (fun i H2 => Same H H2 ∧ ∃ as, H2 l = some (.lst (as.map V.ref)) ∧ PairsAt K H2 as (B.take i) ∧ as.length = i) ⟨same_upd hl', [], upd_same, .nil, rfl⟩ (fun i H2 _ h => sqt_same h.1 b1.sq) (fun i x H1 H2 hi h y => ?_) (fun H2 h => ?_)
  · obtain ⟨h1, as, h2, h3, h4⟩ := h
    obtain ⟨rfl, hx⟩ := y
    obtain ⟨e, he, rfl⟩ := refs_item hx
    obtain ⟨p, hp, hq⟩ := Paired.at b2 he
    have hli := hB.len
    have hi' : i < B.length := (List.getElem?_eq_some_iff.mp hp).1
    refine ⟨e, _, rfl, sqt_same h1 hq, rfl, _, _, rfl, _, _, rfl, rfl, rfl, ?_⟩
    refine ⟨_, rfl, _, rfl, _, rfl, _, _, rfl, rfl, .inr ⟨by decide, by decide⟩, by show 2 ≤ sizeLine; decide, fun q hq' => ?_⟩
    have nq : l ≠ q := ne_of_none h2 hq'
    have hm : (p.2 : Int) * 1 = (p.2 : Int) := Int.mul_one _
    have sq : ∀ (u : HO) (b : Addr) (o : HO), H2 b = some o → b ≠ l → (upd (upd H2 q (.tup [.int p.1, .int ((p.2 : Int) * 1)])) l u) b = some o := fun u b o e z => by
      rw [upd_ne z, upd_ne (ne_of_none e hq')]
      exact e
    refine ⟨_, by rw [upd_ne nq]; exact h2, ?_, fun x o e => ?_, as ++ [q], by rw [upd_same, List.map_append]; rfl, ?_, by simp [h4]⟩
    · refine small1000 ?_
      rw [List.length_map]
      omega
    · exact sq _ _ _ (h1 x o e) fun z => by rw [z, hl'] at e; cases e
    · rw [take_snoc hp]
      refine paired_snoc (F := fun (a : Addr) (p : Int × Nat) => SqT K _ a (prV p)) (Paired.imp (fun a p hs => ?_) h3) (SqT.of ?_)
      · rcases hs with (hs | ⟨o, hs⟩) | hs
        · exact .inl (.inl (sq _ _ _ hs fun z => by rw [z, h2] at hs; cases hs))
        · exact .inl (.inr ⟨o, sq _ _ _ hs fun z => by rw [z, h2] at hs; cases hs⟩)
        · exact .inr hs
      · rw [upd_ne nq.symm, upd_same]
        show some (HO.tup [.int p.1, .int ((p.2 : Int) * 1)]) = _
        rw [hm]
  · obtain ⟨h1, as, h2, h3, h4⟩ := h
    rw [List.length_map, hl, List.take_length] at h3
    refine ⟨l, _, rfl, SqL.of h2, fun t' o ht ho => ?_⟩
    have s2 : Same H2 (upd H2 t' (.frz o (.tup (as.map V.ref)))) := same_upd ht
    refine hQ _ t' (fun x u e => s2 _ _ (h1 x u e)) ?_ ⟨hB.isB, hB.len, as, .inl ⟨o, upd_same, ho⟩, h3.same s2⟩
    cases q : H t' with
    | none => rfl
    | some u => rw [h1 _ _ q] at ht; cases ht
/-! ### drop -/
def spDrop (K : PySem.W.Frag) : Sp := fun vs H Q _ => ∃ (t : Addr) (B : Bag) (n : Nat), vs = [.ref t, .int n] ∧ BagAt K H t B ∧ ∀ H' t', Same H H' → H t' = none → BagAt K H' t' (dropB n B) → Q (.ref t') H'
abbrev dropN : List Str := ["bag", "count", "left", "kept", "number", "many", "dropped"]
theorem sc_drop : FnScope dropN ["bag", "count"] (defScope sDrop) := ⟨rfl, rfl, rfl, by decide +kernel, rfl, by decide +kernel, by decide +kernel⟩
theorem ok_drop (fr : Free mg) (D : DfP K mg sDrop) : Cal P w K mg base 2 "drop" (spDrop K) := by
  refine cal_of D (ps := ["bag", "count"]) sc_drop (fun vs H Q E h => by obtain ⟨a, B, n, rfl, _⟩ := h; rfl) (fun _ _ _ _ _ _ us hl => match us, hl with | [_, _], _ => rfl) fun cdv f A outer s H vs Q E hr h => ?_
  obtain ⟨t, B, n, rfl, hB, hQ⟩ := h
  have nd := sc_drop.nd
  refine ⟨_, pss_cons (ps_par (i := 2) (j := 3) (by rfl) nd rfl rfl (by decide) rfl rfl (pa_cons (L2.pv 1) (pa_cons (pe_lst pa_nil) pa_nil)) (by rfl))
    (pss_cons (ps_for PassesOwn.never rfl (pi_tup (L2.pv 0)) (pg_tup (by rfl) (pgs_cons (pg_name (i := 4) nd rfl (Or.inl rfl)) (pgs_cons (pg_name (i := 5) nd rfl (Or.inl rfl)) pgs_nil)))
      (pss_cons (ps_set (i := 6) nd rfl (Or.inl rfl) (pe_callB (call_min2 rfl) (by rfl) (fr _ (by decide)) (by decide +kernel) (pa_cons (L2.pv 2) (pa_cons (L2.pv 5) pa_nil))))
      (pss_cons (ps_aug (i := 2) nd rfl (Or.inl rfl) (L2.pv 6) ip_sub)
      (pss_one (ps_if (pt_cmpR op_gt (L2.pv 5) (L2.pv 6) (nomark _)) (pss_one (ps_expr (pe_bm PySem.F.plainAttrs_list PySem.F.slot_list_append PySem.F.type_list_append mt_append (L2.pv 3) (pa_cons (pe_tup (pa_cons (L2.pv 4) (pa_cons (pe_op op_sub (L2.pv 5) (L2.pv 6)) pa_nil))) pa_nil)))) pss_nil)))))
    (pss_one (ps_ret (pe_callTy call_tupF (by rfl) (fr _ (by decide)) (by decide +kernel) (pa_cons (L2.pv 3) pa_nil))))), ?_⟩
  obtain ⟨bs, b1, b2⟩ := hB.ex
  have hl := Paired.length b2
  refine ⟨_, rfl, Nat.zero_le _, fun k hk => ?_⟩
  refine ⟨_, _, rfl, ?_⟩
  have s0 : Same H (upd H k (.lst [])) := same_upd hk
  refine ⟨_, rfl, t, rfl, ⟨_, sqt_same s0 b1.sq⟩, ?_⟩
  refine for_tup (xs := bs.map V.ref) (fun i σ' H' => ∃ (o4 o5 o6 : Option V) (l : Nat) (E : Bag) (as : List Addr), σ' = [some (.ref t), some (.int n), some (.int l), some (.ref k), o4, o5, o6] ∧ Same H H' ∧ H' k = some (.lst (as.map V.ref)) ∧ PairsAt K H' as E ∧
    E ++ dropB l (B.drop i) = dropB n B ∧ as.length ≤ i) ⟨none, none, none, n, [], [], rfl, s0, upd_same, .nil, rfl, Nat.le_refl _⟩ (fun i σ' H' _ h => ?_) (fun i x σ' H' hx h => ?_) (fun σ' H' h => ?_)
  · obtain ⟨_, _, _, _, _, _, _, hs, _⟩ := h
    exact sqt_same hs b1.sq
  · obtain ⟨o4, o5, o6, l, E, as, rfl, hs, hk', hE, hd, hal⟩ := h
    obtain ⟨e, he, rfl⟩ := refs_item hx
    obtain ⟨p, hp, hq⟩ := Paired.at b2 he
    have hi' : i < B.length := (List.getElem?_eq_some_iff.mp hp).1
    have hlen := hB.len
    have eD : B.drop i = p :: B.drop (i + 1) := by
      rw [List.drop_eq_getElem_cons hi', (List.getElem?_eq_some_iff.mp hp).2]
    rw [eD] at hd
    refine ⟨e, _, rfl, sqt_same hs hq, rfl, _, _, rfl, _, _, rfl, rfl, ?_⟩
    refine ⟨_, rfl, _, rfl, _, _, rfl, ?_⟩
    rw [show dropB l (p :: B.drop (i + 1)) = if p.2 ≤ l then dropB (l - p.2) (B.drop (i + 1)) else (p.1, p.2 - l) :: dropB 0 (B.drop (i + 1)) from rfl] at hd
    by_cases hc : p.2 ≤ l
    · rw [if_pos hc] at hd
      have e1 : (if (p.2 : Int) < (l : Int) then (p.2 : Int) else (l : Int)) = (p.2 : Int) := by split <;> omega
      rw [e1]
      refine ⟨_, rfl, _, rfl, _, _, rfl, rfl, ?_⟩
      refine ⟨_, rfl, _, rfl, _, _, rfl, rfl, false, bl_f (by omega), ?_⟩
      refine ⟨some (.int p.1), some (.int (p.2 : Int)), some (.int (p.2 : Int)), l - p.2, E, as, ?_, hs, hk', hE, hd, by omega⟩
      have e2 : (l : Int) - (p.2 : Int) = ((l - p.2 : Nat) : Int) := by omega
      rw [← e2]
      rfl
    · rw [if_neg hc] at hd
      have e1 : (if (p.2 : Int) < (l : Int) then (p.2 : Int) else (l : Int)) = (l : Int) := by split <;> omega
      rw [e1]
      refine ⟨_, rfl, _, rfl, _, _, rfl, rfl, ?_⟩
      refine ⟨_, rfl, _, rfl, _, _, rfl, rfl, true, bl_t (by omega), ?_⟩
      refine ⟨_, rfl, .inl ⟨rfl, _, SqL.of hk'⟩, ?_⟩
      refine ⟨_, rfl, _, rfl, _, rfl, _, _, rfl, rfl, by show 2 ≤ sizeLine; decide, fun q hq' => ?_⟩
      have nq : k ≠ q := ne_of_none hk' hq'
      have e2 : (p.2 : Int) - (l : Int) = ((p.2 - l : Nat) : Int) := by omega
      have sq : ∀ (u : HO) (b : Addr) (o : HO), H' b = some o → b ≠ k → (upd (upd H' q (.tup [.int p.1, .int ((p.2 : Int) - (l : Int))])) k u) b = some o := fun u b o e z => by
        rw [upd_ne z, upd_ne (ne_of_none e hq')]
        exact e
      refine ⟨k, _, _, rfl, rfl, by rw [upd_ne nq]; exact hk', small1000 (by rw [List.length_map]; omega), ?_⟩
      refine ⟨some (.int p.1), some (.int (p.2 : Int)), some (.int (l : Int)), 0, E ++ [(p.1, p.2 - l)], as ++ [q], ?_, fun x o e => ?_, by rw [upd_same, List.map_append]; rfl, ?_, by rw [List.append_assoc]; exact hd, by simp; omega⟩
      · have e3 : (l : Int) - (l : Int) = ((0 : Nat) : Int) := by omega
        rw [← e3]
        rfl
      · exact sq _ _ _ (hs x o e) fun z => by rw [z, hk] at e; cases e
      · refine paired_snoc (F := fun (a : Addr) (p : Int × Nat) => SqT K _ a (prV p)) (Paired.imp (fun a p hs => ?_) hE) (SqT.of ?_)
        · rcases hs with (hs | ⟨o, hs⟩) | hs
          · exact .inl (.inl (sq _ _ _ hs fun z => by rw [z, hk'] at hs; cases hs))
          · exact .inl (.inr ⟨o, sq _ _ _ hs fun z => by rw [z, hk'] at hs; cases hs⟩)
          · exact .inr hs
        · rw [upd_ne nq.symm, upd_same]
          show some (HO.tup [.int p.1, .int ((p.2 : Int) - (l : Int))]) = _
          rw [e2]
  · obtain ⟨o4, o5, o6, l, E, as, rfl, hs, hk', hE, hd, hal⟩ := h
    rw [List.length_map, hl, List.drop_length] at hd
    have hd : E = dropB n B := by rw [← hd]; simp [dropB]
    subst hd
    refine ⟨_, rfl, k, _, rfl, SqL.of hk', fun t' o ht ho => ?_⟩
    have s2 : Same H' (upd H' t' (.frz o (.tup (as.map V.ref)))) := same_upd ht
    refine hQ _ t' (fun x u e => s2 _ _ (hs x u e)) ?_ ⟨dropB_isB n hB.isB, Nat.le_trans (dropB_len B n) hB.len, as, .inl ⟨o, upd_same, ho⟩, hE.same s2⟩
    cases q : H t' with
    | none => rfl
    | some u => rw [hs _ _ q] at ht; cases ht
end
end Gk

/-! P7 -/
set_option Elab.async false
set_option linter.all false
set_option maxRecDepth 100000
set_option maxHeartbeats 1000000
namespace Gk
open PySem PySem.Spec PyProof.Rows L2
theorem pt_never {X : Cx} {e : Expr} : PT X e (fun _ _ _ => False) := ⟨fun _ _ _ _ _ _ h => h.elim⟩
theorem pm_never {X : Cx} {cs : List MatchCase} : PM X cs (fun _ _ _ _ => False) := ⟨fun _ _ _ _ _ _ _ _ _ _ h => h.elim⟩
section
variable {P : Program} {w : World} {K : PySem.W.Frag} {mg : Str → Option Value} {base : Heap}
def spIsStep (K : PySem.W.Frag) : Sp := fun vs H Q _ => ∃ (a : Addr) (st : Sx) (d : Int), vs = [.ref a, .int d] ∧ SqT K H a st.vs ∧ Q (.bl true) H
abbrev isStepN : List Str := ["step", "depth", "word", "number", "count", "inner"]
theorem sc_isStep : FnScope isStepN ["step", "depth"] (defScope sIsStep) := ⟨rfl, rfl, rfl, by decide +kernel, rfl, by decide +kernel, by decide +kernel⟩
theorem ok_isStep (fr : Free mg) (cI : Cal P w K mg base 1 "is_integer" spIsInt) (cC : Cal P w K mg base 2 "is_count" spIsCount) (D : DfP K mg sIsStep) : Cal P w K mg base 3 "is_step" (spIsStep K) := by
  refine cal_of D (ps := ["step", "depth"]) sc_isStep (fun vs H Q E h => by obtain ⟨a, st, d, rfl, _⟩ := h; rfl) (fun _ _ _ _ _ _ us hl => match us, hl with | [_, _], _ => rfl) fun cdv f A outer s H vs Q E hr h => ?_
  obtain ⟨a, st, d, rfl, ha, hQ⟩ := h
  have nd := sc_isStep.nd
  refine ⟨_, pss_one (ps_match (L2.pv 0)
    (pm_seq (is := [2, 3, 4]) rfl nd (.cons rfl rfl (.cons rfl rfl (.cons rfl rfl .nil))) (pt_cmpR op_eq (L2.pv 2) pe_str (nomark _))
      (pss_one (ps_ret (pe_and (pe_callB call_isi (by rfl) (fr _ (by decide)) (by decide +kernel) (pa_cons (L2.pv 0) (pa_cons (pe_bltn (v := .ty "tuple") (by rfl) (fr _ (by decide)) (by decide +kernel) rfl) pa_nil)))
        (pe_and (pe_cl cI hr (by decide) (by rfl) (pa_cons (L2.pv 3) pa_nil)) (pe_one (pe_cl cC hr (by decide) (by rfl) (pa_cons (L2.pv 4) pa_nil)))))))
    (pm_seq (is := [2, 4]) rfl nd (.cons rfl rfl (.cons rfl rfl .nil)) (pt_cmpR op_eq (L2.pv 2) pe_str (nomark _))
      (pss_one (ps_ret (pe_and (pe_callB call_isi (by rfl) (fr _ (by decide)) (by decide +kernel) (pa_cons (L2.pv 0) (pa_cons (pe_bltn (v := .ty "tuple") (by rfl) (fr _ (by decide)) (by decide +kernel) rfl) pa_nil)))
        (pe_one (pe_cl cC hr (by decide) (by rfl) (pa_cons (L2.pv 4) pa_nil)))))) pm_never))), ?_⟩
  refine ⟨_, rfl, a, _, rfl, ha, ?_⟩
  cases st with
  | ins x =>
    refine .inl ⟨rfl, ⟨_, rfl, rfl, true, rfl, ?_⟩⟩
    refine ⟨_, rfl, _, _, _, _, true, rfl, .ty _, tyx_sqt ha, kit_ty (by decide +kernel), true, rfl, ?_⟩
    exact ⟨_, rfl, _, rfl, true, rfl, _, rfl, 1, rfl, hQ⟩
  | rem n =>
    refine .inr ⟨fun z => absurd (show (2 : Nat) = 3 from z) (by decide), a, _, rfl, ha, .inl ⟨rfl, ⟨_, rfl, rfl, true, rfl, ?_⟩⟩⟩
    refine ⟨_, rfl, _, _, _, _, true, rfl, .ty _, tyx_sqt ha, kit_ty (by decide +kernel), true, rfl, ?_⟩
    exact ⟨_, rfl, n, rfl, hQ⟩
/-! ### find_invalid -/
def spFind (K : PySem.W.Frag) : Sp := fun vs H Q _ => ∃ (a : Addr) (ps : List Sx) (d : Int), vs = [.ref a, .int d] ∧ IsProg K H a ps ∧ ∀ H', Same H H' → Q .non H'
abbrev findN : List Str := ["program", "depth", "index", "step", "path"]
theorem sc_find : FnScope findN ["program", "depth"] (defScope sFind) := ⟨rfl, rfl, rfl, by decide +kernel, rfl, by decide +kernel, by decide +kernel⟩
theorem ok_find (fr : Free mg) (cS : Cal P w K mg base 3 "is_step" (spIsStep K)) (D : DfP K mg sFind) : Cal P w K mg base 4 "find_invalid" (spFind K) := by
  refine cal_of D (ps := ["program", "depth"]) sc_find (fun vs H Q E h => by obtain ⟨a, st, d, rfl, _⟩ := h; rfl) (fun _ _ _ _ _ _ us hl => match us, hl with | [_, _], _ => rfl) fun cdv f A outer s H vs Q E hr h => ?_
  obtain ⟨a, ps, d, rfl, ha, hQ⟩ := h
  have nd := sc_find.nd
  refine ⟨_, pss_cons (ps_for PassesOwn.never rfl (pi_enumT (by rfl) (fr _ (by decide)) (pa_cons (L2.pv 0) pa_nil)) (pg_tup (by rfl) (pgs_cons (pg_name (i := 2) nd rfl (Or.inl rfl)) (pgs_cons (pg_name (i := 3) nd rfl (Or.inl rfl)) pgs_nil)))
      (pss_cons (ps_if (pt_not (pt_val (pe_cl cS hr (Nat.le_refl _) (by rfl) (pa_cons (L2.pv 3) (pa_cons (L2.pv 1) pa_nil))))) pss_never pss_nil)
      (pss_cons (ps_set (i := 4) nd rfl (Or.inl rfl) (pe_ifExp (pt_cmpR op_eq (pe_ix ix_tup (L2.pv 3) pe_int (fun _ _ => rfl)) pe_str (nomark _)) pe_never pe_non))
      (pss_one (ps_if (pt_cmpR op_notN (L2.pv 4) pe_non (nomark _)) pss_never pss_nil)))))
    (pss_one (ps_ret pe_non)), ?_⟩
  obtain ⟨as, a1, a2⟩ := ha
  refine ⟨_, rfl, a, _, rfl, a1, ?_⟩
  refine for_it (walk_enumT (xs := as.map V.ref)) (fun i σ' H' => ∃ o2 o3 o4, σ' = [some (.ref a), some (.int d), o2, o3, o4] ∧ Same H H') ⟨none, none, none, rfl, Same.refl _⟩ (fun i σ' H' _ h => ?_) (fun i x σ' H1 H2 hi h y => ?_) (fun σ' H' h => ?_)
  · obtain ⟨_, _, _, _, hs⟩ := h
    exact sqt_same hs a1
  · obtain ⟨o2, o3, o4, rfl, hs⟩ := h
    obtain ⟨T, k, v, rfl, hT, rfl, e1, e2⟩ := y
    cases e1
    obtain ⟨b, hb, rfl⟩ := refs_item e2
    obtain ⟨st, hst, hq⟩ := Paired.at a2 hb
    have s1 : Same H (upd H1 T (.tup [.int (i : Nat), .ref b])) := fun x o e => same_upd hT _ _ (hs x o e)
    have hq := sqt_same s1 hq
    refine ⟨T, _, rfl, SqT.of upd_same, rfl, _, _, rfl, _, _, rfl, rfl, ?_⟩
    refine ⟨_, rfl, _, rfl, b, st, d, rfl, hq, true, rfl, ?_⟩
    cases st with
    | ins x => exact ⟨_, rfl, b, _, 0, .str "insert", rfl, rfl, hq, rfl, rfl, false, rfl, _, rfl, rfl, false, rfl, _, _, _, rfl, s1⟩
    | rem n => exact ⟨_, rfl, b, _, 0, .str "remove", rfl, rfl, hq, rfl, rfl, false, rfl, _, rfl, rfl, false, rfl, _, _, _, rfl, s1⟩
  · obtain ⟨_, _, _, _, hs⟩ := h
    exact hQ _ hs
/-! ### check_program -/
def spChkProg (K : PySem.W.Frag) : Sp := fun vs H Q _ => ∃ (a : Addr) (ps : List Sx), vs = [.ref a] ∧ IsProg K H a ps ∧ ∀ H', Same H H' → Q .non H'
theorem sc_chkProg : FnScope ["program", "path"] ["program"] (defScope sChkProg) := ⟨rfl, rfl, rfl, by decide +kernel, rfl, by decide +kernel, by decide +kernel⟩
theorem ok_chkProg (fr : Free mg) (cF : Cal P w K mg base 4 "find_invalid" (spFind K)) (D : DfP K mg sChkProg) : Cal P w K mg base 5 "check_program" (spChkProg K) := by
  refine cal_of D (ps := ["program"]) sc_chkProg (fun vs H Q E h => by obtain ⟨a, st, rfl, _⟩ := h; rfl) (fun _ _ _ _ _ _ us hl => match us, hl with | [_], _ => rfl) fun cdv f A outer s H vs Q E hr h => ?_
  obtain ⟨a, ps, rfl, ha, hQ⟩ := h
  have nd := sc_chkProg.nd
  refine ⟨_, pss_cons (ps_set (i := 1) nd rfl (Or.inl rfl) (pe_ifExp (pt_val (pe_callB call_isi (by rfl) (fr _ (by decide)) (by decide +kernel) (pa_cons (L2.pv 0) (pa_cons (pe_bltn (v := .ty "tuple") (by rfl) (fr _ (by decide)) (by decide +kernel) rfl) pa_nil))))
      (pe_cl cF hr (Nat.le_refl _) (by rfl) (pa_cons (L2.pv 0) (pa_cons pe_int pa_nil))) pe_never))
    (pss_one (ps_if (pt_cmpR op_notN (L2.pv 1) pe_non (nomark _)) pss_never pss_nil)), ?_⟩
  obtain ⟨as, a1, a2⟩ := ha
  refine ⟨_, rfl, _, _, _, _, true, rfl, .ty _, tyx_sqt a1, kit_ty (by decide +kernel), true, rfl, ?_⟩
  refine ⟨_, rfl, a, ps, _, rfl, ⟨as, a1, a2⟩, fun H' hs => ?_⟩
  exact ⟨_, rfl, rfl, false, rfl, hQ _ hs⟩
/-! ### count_steps -/
def spCount (K : PySem.W.Frag) : Sp := fun vs H Q _ => ∃ (a : Addr) (ps : List Sx), vs = [.ref a, .non] ∧ IsProg K H a ps ∧ Q (.int (remN ps)) H
theorem sc_count : FnScope ["program", "word", "count", "step"] ["program", "word"] (defScope sCount) := ⟨rfl, rfl, rfl, by decide +kernel, rfl, by decide +kernel, by decide +kernel⟩
theorem ok_count (D : DfP K mg sCount) : Cal P w K mg base 1 "count_steps" (spCount K) := by
  refine cal_of D (ps := ["program", "word"]) sc_count (fun vs H Q E h => by obtain ⟨a, st, rfl, _⟩ := h; rfl) (fun _ _ _ _ _ _ us hl => match us, hl with | [_, _], _ => rfl) fun cdv f A outer s H vs Q E hr h => ?_
  obtain ⟨a, ps, rfl, ha, hQ⟩ := h
  have nd := sc_count.nd
  refine ⟨_, pss_cons (ps_set (i := 2) nd rfl (Or.inl rfl) pe_int)
    (pss_cons (ps_for PassesOwn.never rfl (pi_tup (L2.pv 0)) (pg_name (i := 3) nd rfl (Or.inl rfl))
      (pss_one (ps_if (pt_cmpR op_eq (pe_ix ix_tup (L2.pv 3) pe_int (fun _ _ => rfl)) pe_str (nomark _)) pss_never
        (pss_one (ps_if (PW.pt (pw_or (pt_cmpR op_isN (L2.pv 1) pe_non (nomark _)) (pw_or1 pt_never))) (pss_one (ps_aug (i := 2) nd rfl (Or.inl rfl) (pe_ix ix_tup (L2.pv 3) (pe_un un_neg pe_int) (fun _ _ => rfl)) ip_add)) pss_nil)))))
    (pss_one (ps_ret (L2.pv 2)))), ?_⟩
  obtain ⟨as, a1, a2⟩ := ha
  have hl := Paired.length a2
  refine ⟨_, rfl, a, rfl, ⟨_, a1⟩, ?_⟩
  refine for_tup (xs := as.map V.ref) (fun i σ' H' => ∃ o3, σ' = [some (.ref a), some .non, some (.int (remN (ps.take i))), o3] ∧ H' = H) ⟨none, rfl, rfl⟩ (fun i σ' H' _ h => ?_) (fun i x σ' H' hx h => ?_) (fun σ' H' h => ?_)
  · obtain ⟨_, _, rfl⟩ := h
    exact a1
  · obtain ⟨o3, rfl, rfl⟩ := h
    obtain ⟨b, hb, rfl⟩ := refs_item hx
    obtain ⟨st, hst, hq⟩ := Paired.at a2 hb
    have e : remN (ps.take (i + 1)) = remN (ps.take i) + st.cnt := by
      unfold remN
      rw [take_snoc hst, List.map_append, List.sum_append]
      simp
    cases st with
    | ins x =>
      refine ⟨_, rfl, b, _, 0, .str "insert", rfl, rfl, hq, rfl, rfl, false, rfl, ?_⟩
      refine ⟨_, rfl, rfl, true, rfl, ?_⟩
      refine ⟨_, rfl, _, rfl, 1, rfl, b, _, -1, .int 1, rfl, rfl, hq, rfl, _, _, rfl, rfl, some (.ref b), ?_, rfl⟩
      rw [e]
      rfl
    | rem n =>
      refine ⟨_, rfl, b, _, 0, .str "remove", rfl, rfl, hq, rfl, rfl, false, rfl, ?_⟩
      refine ⟨_, rfl, rfl, true, rfl, ?_⟩
      refine ⟨_, rfl, _, rfl, 1, rfl, b, _, -1, .int n, rfl, rfl, hq, rfl, _, _, rfl, rfl, some (.ref b), ?_, rfl⟩
      rw [e]
      rfl
  · obtain ⟨_, rfl, rfl⟩ := h
    rw [List.length_map, hl, List.take_length]
    exact ⟨_, rfl, hQ⟩
end
end Gk

/-! P8 -/
set_option Elab.async false
set_option linter.all false
set_option maxRecDepth 100000
set_option maxHeartbeats 1000000
namespace Gk
open PySem PySem.Spec PyProof.Rows L2
theorem sub_nil (A : Bag) : subI (ofB A) [] = ofB A := rfl
theorem sub_one (x : Int) (n : Nat) : subI (ofB [(x, n)]) [(x, n)] = [(x, 0)] := by
  show putI [(x, (n : Int))] x ((getI [(x, (n : Int))] x).getD 0 - (n : Int)) = [(x, 0)]
  rw [getI_cons, if_pos rfl]
  show putI [(x, (n : Int))] x ((n : Int) - (n : Int)) = _
  rw [Int.sub_self]
  unfold putI
  rw [if_pos (any_iff.mpr (by simp))]
  simp
/-- the bag of one insertion, or of none -/
inductive Unit1 : Bag → Prop where
  | nil : Unit1 []
  | one (x : Int) : Unit1 [(x, 1)]
theorem Unit1.isB {B : Bag} (u : Unit1 B) : IsB B := by
  cases u with
  | nil => exact isB_nil
  | one x => exact ⟨List.pairwise_singleton _ _, fun p hp => by rw [List.mem_singleton.mp hp]; exact Nat.le_refl _⟩
theorem Unit1.len {B : Bag} (u : Unit1 B) : B.length ≤ 1 := by
  cases u with
  | nil => exact Nat.zero_le _
  | one x => exact Nat.le_refl _
theorem Unit1.sub {B : Bag} (u : Unit1 B) : (∀ p ∈ subI (ofB B) B, 0 ≤ p.2) ∧ posB (subI (ofB B) B) = [] := by
  cases u with
  | nil => exact ⟨fun p hp => (nomatch hp), rfl⟩
  | one x =>
    rw [sub_one]
    exact ⟨fun p hp => by rw [List.mem_singleton.mp hp]; exact Int.le_refl _, rfl⟩
section
variable {P : Program} {w : World} {K : PySem.W.Frag} {mg : Str → Option Value} {base : Heap}
/-! ### join_parts -/
def spJoin (K : PySem.W.Frag) : Sp := fun vs H Q _ => ∃ (p1 p2 a1 b1 a2 b2 : Addr) (I1 S1 B : Bag) (r1 r2 : Nat), vs = [.ref p1, .ref p2] ∧ SqT K H p1 [.ref a1, .int r1, .ref b1] ∧ SqT K H p2 [.ref a2, .int r2, .ref b2] ∧
  BagAt K H a1 I1 ∧ BagAt K H b1 S1 ∧ BagAt K H a2 B ∧ BagAt K H b2 B ∧ Unit1 B ∧ (flat I1).length ≤ 500 ∧ (flat S1).length ≤ 500 ∧
  ∀ H' t a b I S, Same H H' → SqT K H' t [.ref a, .int ((r1 + r2 : Nat) : Int), .ref b] → BagAt K H' a I → BagAt K H' b S → (flat I).Perm (flat I1 ++ flat B) → (flat S).Perm (flat B ++ (flat S1).drop r2) → Q (.ref t) H'
abbrev joinN : List Str := ["first", "second", "inserted", "removals", "survivors", "left"]
theorem sc_join : FnScope joinN ["first", "second"] (defScope sJoin) := ⟨rfl, rfl, rfl, by decide +kernel, rfl, by decide +kernel, by decide +kernel⟩
theorem ok_join (cA : Cal P w K mg base 3 "add" (spAdd K)) (cS : Cal P w K mg base 3 "subtract" (spSub K)) (cD : Cal P w K mg base 2 "drop" (spDrop K)) (D : DfP K mg sJoin) : Cal P w K mg base 4 "join_parts" (spJoin K) := by
  refine cal_of D (ps := ["first", "second"]) sc_join (fun vs H Q E h => by obtain ⟨p1, p2, a1, b1, a2, b2, I1, S1, B, r1, r2, rfl, _⟩ := h; rfl) (fun _ _ _ _ _ _ us hl => match us, hl with | [_, _], _ => rfl) fun cdv f A outer s H vs Q E hr h => ?_
  obtain ⟨p1, p2, a1, b1, a2, b2, I1, S1, B, r1, r2, rfl, h1, h2, hI, hS, hB1, hB2, u, l1, l2, hQ⟩ := h
  have nd := sc_join.nd
  refine ⟨_, pss_cons (ps_asg (L2.pv 1) (pg_tup (by rfl) (pgs_cons (pg_name (i := 2) nd rfl (Or.inl rfl)) (pgs_cons (pg_name (i := 3) nd rfl (Or.inl rfl)) (pgs_cons (pg_name (i := 4) nd rfl (Or.inl rfl)) pgs_nil)))))
    (pss_cons (ps_set (i := 5) nd rfl (Or.inl rfl) (pe_cl cD hr (by decide) (by rfl) (pa_cons (pe_cl cA hr (by decide) (by rfl) (pa_cons (pe_ix ix_tup (L2.pv 0) pe_int (fun _ _ => rfl)) (pa_cons (pe_cl cS hr (by decide) (by rfl) (pa_cons (L2.pv 2) (pa_cons (L2.pv 4) pa_nil))) pa_nil))) (pa_cons (L2.pv 3) pa_nil))))
    (pss_one (ps_ret (pe_tup (pa_cons (pe_cl cA hr (by decide) (by rfl) (pa_cons (pe_ix ix_tup (L2.pv 0) pe_int (fun _ _ => rfl)) (pa_cons (L2.pv 2) pa_nil))) (pa_cons (pe_op op_add (pe_ix ix_tup (L2.pv 0) pe_int (fun _ _ => rfl)) (L2.pv 3)) (pa_cons (pe_cl cA hr (by decide) (by rfl) (pa_cons (L2.pv 4) (pa_cons (L2.pv 5) pa_nil))) pa_nil))))))), ?_⟩
  have lu := u.len
  have lI : I1.length ≤ 500 := Nat.le_trans (len_le_flat hI.isB) l1
  have lS : S1.length ≤ 500 := Nat.le_trans (len_le_flat hS.isB) l2
  refine ⟨_, rfl, p2, _, rfl, h2, rfl, _, _, rfl, _, _, rfl, _, _, rfl, rfl, ?_⟩
  refine ⟨_, rfl, p1, _, 2, .ref b1, rfl, rfl, h1, rfl, _, rfl, _, rfl, a2, b2, B, B, rfl, hB1, hB2, by omega, u.sub.1, fun Ha c C ha _ hC pC => ?_⟩
  have eC : C = [] := by rw [u.sub.2] at pC; exact List.perm_nil.mp pC
  subst eC
  refine ⟨b1, c, S1, [], rfl, hS.same ha, hC, by simp; omega, fun Hb x X hb _ hX pX => ?_⟩
  have eX : X = S1 := flat_inj hX.isB hS.isB (by rw [flat_nil, List.append_nil] at pX; exact pX)
  subst eX
  refine ⟨_, rfl, x, X, r2, rfl, hX, fun Hc y hc _ hY => ?_⟩
  have s3 : Same H Hc := fun v o e => hc _ _ (hb _ _ (ha _ _ e))
  have lY : (dropB r2 X).length ≤ 500 := Nat.le_trans (dropB_len X r2) lS
  refine ⟨_, rfl, p1, _, 0, .ref a1, rfl, rfl, sqt_same s3 h1, rfl, _, rfl, a1, a2, I1, B, rfl, hI.same s3, hB1.same s3, by omega, fun Hd z Z hd _ hZ pZ => ?_⟩
  have s4 : Same H Hd := fun v o e => hd _ _ (s3 _ _ e)
  refine ⟨_, rfl, p1, _, 1, .int r1, rfl, rfl, sqt_same s4 h1, rfl, _, rfl, _, _, rfl, rfl, ?_⟩
  refine ⟨_, rfl, _, rfl, b2, y, B, _, rfl, hB2.same s4, hY.same hd, by omega, fun He v W he _ hW pW => ?_⟩
  refine ⟨by show 3 ≤ sizeLine; decide, fun q hq => ?_⟩
  have s6 : Same He (upd He q (.tup [.ref z, .int ((r1 : Int) + (r2 : Int)), .ref v])) := same_upd hq
  refine hQ _ q z v Z W (fun v o e => s6 _ _ (he _ _ (s4 _ _ e))) (SqT.of (by rw [upd_same]; rfl)) (hZ.same fun v o e => s6 _ _ (he _ _ e)) (hW.same s6) pZ ?_
  rw [dropB_flat r2 hS.isB] at pW
  exact pW
/-! ### step_parts -/
def Sx.bag : Sx → Bag
  | .ins x => [(x, 1)]
  | .rem _ => []
def Sx.rm : Sx → Nat
  | .ins _ => 0
  | .rem n => n
theorem Sx.unit1 (st : Sx) : Unit1 st.bag := by cases st with
  | ins x => exact .one x
  | rem n => exact .nil
def spStepP (K : PySem.W.Frag) : Sp := fun vs H Q _ => ∃ (p : Addr) (st : Sx), vs = [.ref p] ∧ SqT K H p st.vs ∧
  ∀ H' t a b, Same H H' → SqT K H' t [.ref a, .int (st.rm : Int), .ref b] → BagAt K H' a st.bag → BagAt K H' b st.bag → Q (.ref t) H'
abbrev stepN : List Str := ["step", "word", "number", "count", "bag", "inner"]
theorem sc_stepP : FnScope stepN ["step"] (defScope sStepP) := ⟨rfl, rfl, rfl, by decide +kernel, rfl, by decide +kernel, by decide +kernel⟩
theorem bag_nil {H : Hp} {t : Addr} {o : Obj} (h : H t = some (.frz o (.tup []))) (ho : o.dict = none) : BagAt K H t [] := ⟨isB_nil, by decide, [], .inl ⟨o, h, ho⟩, .nil⟩
theorem ok_stepP (cS : Cal P w K mg base 2 "scale" (spScale K)) (D : DfP K mg sStepP) : Cal P w K mg base 3 "step_parts" (spStepP K) := by
  refine cal_of D (ps := ["step"]) sc_stepP (fun vs H Q E h => by obtain ⟨p, st, rfl, _⟩ := h; rfl) (fun _ _ _ _ _ _ us hl => match us, hl with | [_], _ => rfl) fun cdv f A outer s H vs Q E hr h => ?_
  obtain ⟨p, st, rfl, hp, hQ⟩ := h
  have nd := sc_stepP.nd
  refine ⟨_, pss_one (ps_match (L2.pv 0)
    (pm_seq (is := [1, 2, 3]) rfl nd (.cons rfl rfl (.cons rfl rfl (.cons rfl rfl .nil))) (pt_cmpR op_eq (L2.pv 1) pe_str (nomark _))
      (pss_cons (ps_set (i := 4) nd rfl (Or.inl rfl) (pe_cl cS hr (by decide) (by rfl) (pa_cons (pe_tupF (pa_cons (pe_tup (pa_cons (L2.pv 2) (pa_cons pe_int pa_nil))) pa_nil)) (pa_cons (L2.pv 3) pa_nil))))
        (pss_one (ps_ret (pe_tup (pa_cons (L2.pv 4) (pa_cons pe_int (pa_cons (L2.pv 4) pa_nil)))))))
    (pm_seq0 (is := [1, 3]) rfl nd (.cons rfl rfl (.cons rfl rfl .nil)) (pss_one (ps_ret (pe_tup (pa_cons (pe_tupF pa_nil) (pa_cons (L2.pv 3) (pa_cons (pe_tupF pa_nil) pa_nil)))))) pm_never))), ?_⟩
  refine ⟨_, rfl, p, _, rfl, hp, ?_⟩
  cases st with
  | ins x =>
    refine .inl ⟨rfl, ⟨_, rfl, rfl, true, rfl, ?_⟩⟩
    refine ⟨_, rfl, by show 2 ≤ sizeLine; decide, fun q hq => ⟨by show 1 ≤ sizeLine; decide, fun t o ht ho => ?_⟩⟩
    have nqt : q ≠ t := ne_of_none (H := upd H q (.tup [.int x, .int 1])) upd_same ht
    have s1 : Same H (upd (upd H q (.tup [.int x, .int 1])) t (.frz o (.tup [.ref q]))) := fun v u e => same_upd ht _ _ (same_upd hq _ _ e)
    refine ⟨_, rfl, t, [(x, 1)], rfl, ⟨(Unit1.one x).isB, by show 1 ≤ 1000; decide, [q], .inl ⟨o, upd_same, ho⟩, .cons (SqT.of (by rw [upd_ne nqt, upd_same]; rfl)) .nil⟩, fun H1 t1 h1 _ hb => ?_⟩
    refine ⟨_, rfl, _, rfl, by show 3 ≤ sizeLine; decide, fun y hy => ?_⟩
    have s2 := same_upd (o := .tup [.ref t1, .int 0, .ref t1]) hy
    exact hQ _ y t1 t1 (fun v u e => s2 _ _ (h1 _ _ (s1 _ _ e))) (SqT.of upd_same) (hb.same s2) (hb.same s2)
  | rem n =>
    refine .inr ⟨fun z => absurd (show (2 : Nat) = 3 from z) (by decide), p, _, rfl, hp, .inl ⟨rfl, ?_⟩⟩
    refine ⟨Nat.zero_le _, fun a oa ha da => ?_⟩
    have s1 := same_upd (o := .frz oa (.tup [])) ha
    refine ⟨_, rfl, Nat.zero_le _, fun b ob hb db => ?_⟩
    have s2 := same_upd (o := .frz ob (.tup [])) hb
    refine ⟨by show 3 ≤ sizeLine; decide, fun y hy => ?_⟩
    have s3 := same_upd (o := .tup [.ref a, .int n, .ref b]) hy
    exact hQ _ y a b (fun v u e => s3 _ _ (s2 _ _ (s1 _ _ e))) (SqT.of upd_same) (bag_nil (s3 _ _ (s2 _ _ upd_same)) da) (bag_nil (s3 _ _ upd_same) db)
end
end Gk

/-! P9 -/
set_option Elab.async false
set_option linter.all false
set_option maxRecDepth 100000
set_option maxHeartbeats 1000000
namespace Gk
open PySem PySem.Spec PyProof.Rows L2
/-! ### program_parts -/
structure IdOk (K : PySem.W.Frag) (mg : Str → Option Value) (ia z1 z2 : Addr) : Prop where
  mgI : mg "IDENTITY" = some (.ref ia)
  tup : ∀ H, SqT K H ia [.ref z1, .int 0, .ref z2]
  e1 : ∀ H, FqT K H z1 []
  e2 : ∀ H, FqT K H z2 []
/-- the law's programs: insertions, and the removal of as many -/
def insP (xs : List Int) : List Sx := xs.map Sx.ins ++ [.rem xs.length]
theorem insP_len (xs : List Int) : (insP xs).length = xs.length + 1 := by simp [insP]
theorem insP_lt {xs : List Int} {i : Nat} {x : Int} (h : xs[i]? = some x) : (insP xs)[i]? = some (.ins x) := by
  have := (List.getElem?_eq_some_iff.mp h).1
  unfold insP
  rw [List.getElem?_append_left (by rw [List.length_map]; exact this), List.getElem?_map, h]
  rfl
theorem insP_eq (xs : List Int) : (insP xs)[xs.length]? = some (.rem xs.length) := by
  unfold insP
  rw [List.getElem?_append_right (by rw [List.length_map]; exact Nat.le_refl _), List.length_map, Nat.sub_self]
  rfl
section
variable {P : Program} {w : World} {K : PySem.W.Frag} {mg : Str → Option Value} {base : Heap}
def spProgP (K : PySem.W.Frag) : Sp := fun vs H Q _ => ∃ (p : Addr) (xs : List Int), vs = [.ref p] ∧ IsProg K H p (insP xs) ∧ xs.length ≤ 100 ∧
  ∀ H' t a b I, Same H H' → SqT K H' t [.ref a, .int (xs.length : Int), .ref b] → BagAt K H' a I → BagAt K H' b [] → (flat I).Perm xs → Q (.ref t) H'
theorem sc_progP : FnScope ["program", "parts", "step"] ["program"] (defScope sProgP) := ⟨rfl, rfl, rfl, by decide +kernel, rfl, by decide +kernel, by decide +kernel⟩
/-- what the parts of the first i steps are -/
def PartG (xs : List Int) (i : Nat) (I : Bag) (r : Nat) (S : Bag) : Prop :=
  (i ≤ xs.length ∧ r = 0 ∧ (flat I).Perm (xs.take i) ∧ (flat S).Perm (xs.take i)) ∨ (i = xs.length + 1 ∧ r = xs.length ∧ (flat I).Perm xs ∧ S = [])
theorem PartG.small {xs : List Int} {i : Nat} {I S : Bag} {r : Nat} (h : PartG xs i I r S) (hl : xs.length ≤ 100) : (flat I).length ≤ 500 ∧ (flat S).length ≤ 500 := by
  rcases h with ⟨_, _, h1, h2⟩ | ⟨_, _, h1, rfl⟩
  · have e1 := h1.length_eq
    have e2 := h2.length_eq
    rw [List.length_take] at e1 e2
    omega
  · have e1 := h1.length_eq
    rw [flat_nil]
    simp only [List.length_nil]
    omega
theorem flat_one (x : Int) : flat [(x, 1)] = [x] := rfl
theorem ok_progP {ia z1 z2 : Addr} (id : IdOk K mg ia z1 z2) (cJ : Cal P w K mg base 4 "join_parts" (spJoin K)) (cS : Cal P w K mg base 3 "step_parts" (spStepP K)) (D : DfP K mg sProgP) : Cal P w K mg base 5 "program_parts" (spProgP K) := by
  refine cal_of D (ps := ["program"]) sc_progP (fun vs H Q E h => by obtain ⟨p, st, rfl, _⟩ := h; rfl) (fun _ _ _ _ _ _ us hl => match us, hl with | [_], _ => rfl) fun cdv f A outer s H vs Q E hr h => ?_
  obtain ⟨p, xs, rfl, hp, hl, hQ⟩ := h
  have nd := sc_progP.nd
  refine ⟨_, pss_cons (ps_set (i := 1) nd rfl (Or.inl rfl) (pe_glob (v := .ref ia) (by rfl) id.mgI rfl))
    (pss_cons (ps_for PassesOwn.never rfl (pi_tup (L2.pv 0)) (pg_name (i := 2) nd rfl (Or.inl rfl))
      (pss_one (ps_set (i := 1) nd rfl (Or.inl rfl) (pe_cl cJ hr (by decide) (by rfl) (pa_cons (L2.pv 1) (pa_cons (pe_cl cS hr (by decide) (by rfl) (pa_cons (L2.pv 2) pa_nil)) pa_nil))))))
    (pss_one (ps_ret (L2.pv 1)))), ?_⟩
  obtain ⟨as, a1, a2⟩ := hp
  have hal := Paired.length a2
  rw [insP_len] at hal
  refine ⟨_, rfl, p, rfl, ⟨_, a1⟩, ?_⟩
  refine for_tup (xs := as.map V.ref) (fun i σ' H' => ∃ (q a b : Addr) (I S : Bag) (r : Nat) (o2 : Option V), σ' = [some (.ref p), some (.ref q), o2] ∧ Same H H' ∧ SqT K H' q [.ref a, .int (r : Int), .ref b] ∧ BagAt K H' a I ∧ BagAt K H' b S ∧ PartG xs i I r S)
    ⟨ia, z1, z2, [], [], 0, none, rfl, Same.refl _, id.tup H, ⟨isB_nil, by decide, [], id.e1 H, .nil⟩, ⟨isB_nil, by decide, [], id.e2 H, .nil⟩, .inl ⟨Nat.zero_le _, rfl, List.Perm.refl _, List.Perm.refl _⟩⟩ (fun i σ' H' _ h => ?_) (fun i x σ' H' hx h => ?_) (fun σ' H' h => ?_)
  · obtain ⟨_, _, _, _, _, _, _, _, hs, _⟩ := h
    exact sqt_same hs a1
  · obtain ⟨q, a, b, I, S, r, o2, rfl, hs, hq, hI, hS, hG⟩ := h
    obtain ⟨e, he, rfl⟩ := refs_item hx
    obtain ⟨st, hst, hste⟩ := Paired.at a2 he
    have hi : i < xs.length + 1 := by
      have := (List.getElem?_eq_some_iff.mp he).1
      omega
    obtain ⟨l1, l2⟩ := hG.small hl
    refine ⟨_, rfl, _, rfl, e, st, rfl, sqt_same hs hste, fun H1 t a' b' h1 ht ha' hb' => ?_⟩
    refine ⟨q, t, a, b, a', b', I, S, st.bag, r, st.rm, rfl, sqt_same h1 hq, ht, hI.same h1, hS.same h1, ha', hb', st.unit1, l1, l2, fun H2 t2 a2' b2' I2 S2 h2 ht2 hI2 hS2 pI pS => ?_⟩
    refine ⟨t2, a2', b2', I2, S2, r + st.rm, some (.ref e), rfl, fun v o z => h2 _ _ (h1 _ _ (hs _ _ z)), ht2, hI2, hS2, ?_⟩
    rcases hG with ⟨_, rfl, g1, g2⟩ | ⟨g0, _⟩
    · by_cases hc : i < xs.length
      · have hxi : xs[i]? = some xs[i] := List.getElem?_eq_getElem hc
        have e1 := insP_lt hxi
        rw [e1] at hst
        cases hst
        refine .inl ⟨hc, rfl, ?_, ?_⟩
        · rw [take_snoc hxi]
          exact pI.trans (g1.append_right _)
        · rw [take_snoc hxi]
          refine pS.trans ?_
          show ([xs[i]] ++ (flat S).drop 0).Perm _
          rw [List.drop_zero]
          exact (List.perm_append_comm).trans (g2.append_right _)
      · have e0 : i = xs.length := by omega
        subst e0
        rw [insP_eq] at hst
        cases hst
        refine .inr ⟨rfl, Nat.zero_add _, ?_, ?_⟩
        · rw [List.take_length] at g1
          refine pI.trans ?_
          show (flat I ++ []).Perm _
          rw [List.append_nil]
          exact g1
        · have e2 : (flat S).length = xs.length := by rw [g2.length_eq, List.take_length]
          have e3 : (flat S2).Perm [] := by
            refine pS.trans ?_
            show ([] ++ (flat S).drop xs.length).Perm []
            rw [List.drop_eq_nil_of_le (by omega)]
            exact List.Perm.refl _
          exact flat_inj hS2.isB isB_nil e3
    · omega
  · obtain ⟨q, a, b, I, S, r, o2, rfl, hs, hq, hI, hS, hG⟩ := h
    rw [List.length_map, hal] at hG
    rcases hG with ⟨g0, _⟩ | ⟨_, rfl, g1, rfl⟩
    · omega
    · exact ⟨_, rfl, hQ _ q a b I hs hq hI hS g1⟩
/-! ### find_fault -/
def spFault (K : PySem.W.Frag) : Sp := fun vs H Q _ => ∃ (a b : Addr) (n : Nat) (I : Bag), vs = [.ref a, .int n, .ref b] ∧ BagAt K H a I ∧ BagAt K H b [] ∧ (flat I).length ≤ n ∧ ∀ H', Same H H' → Q .non H'
theorem sc_fault : FnScope ["inserted", "removals", "survivors", "consumed"] ["inserted", "removals", "survivors"] (defScope sFault) := ⟨rfl, rfl, rfl, by decide +kernel, rfl, by decide +kernel, by decide +kernel⟩
theorem ok_fault (cS : Cal P w K mg base 3 "subtract" (spSub K)) (cT : Cal P w K mg base 2 "total" (spTotal K)) (D : DfP K mg sFault) : Cal P w K mg base 4 "find_fault" (spFault K) := by
  refine cal_of D (ps := ["inserted", "removals", "survivors"]) sc_fault (fun vs H Q E h => by obtain ⟨a, b, n, I, rfl, _⟩ := h; rfl) (fun _ _ _ _ _ _ us hl => match us, hl with | [_, _, _], _ => rfl) fun cdv f A outer s H vs Q E hr h => ?_
  obtain ⟨a, b, n, I, rfl, hI, hb, hn, hQ⟩ := h
  have nd := sc_fault.nd
  refine ⟨_, pss_cons (ps_set (i := 3) nd rfl (Or.inl rfl) (pe_cl cS hr (by decide) (by rfl) (pa_cons (L2.pv 0) (pa_cons (L2.pv 2) pa_nil))))
    (pss_cons (ps_if (pt_cmpR op_isN (L2.pv 3) pe_non (nomark _)) pss_never pss_nil)
    (pss_one (ps_ret (pe_ifExp (pt_cmpR op_gt (pe_cl cT hr (by decide) (by rfl) (pa_cons (L2.pv 3) pa_nil)) (L2.pv 1) (nomark _)) pe_never pe_non)))), ?_⟩
  have hlen := hI.len
  refine ⟨_, rfl, _, rfl, a, b, I, [], rfl, hI, hb, by simp; omega, fun p hp => ?_, fun H1 t R h1 _ hR pR => ?_⟩
  · obtain ⟨q, _, e⟩ := List.mem_map.mp (show p ∈ ofB I from hp)
    rw [← e]
    exact Int.natCast_nonneg _
  · rw [sub_nil, posB_ofB hI.isB] at pR
    have eR : R = I := isB_perm_eq hR.isB hI.isB pR
    subst eR
    refine ⟨_, rfl, rfl, false, rfl, ?_⟩
    refine ⟨_, rfl, t, R, rfl, hR, fun H2 h2 => ?_⟩
    exact ⟨_, rfl, _, _, rfl, rfl, false, bl_f (by omega), hQ _ fun v o z => h2 _ _ (h1 _ _ z)⟩
end
end Gk

/-! P10 -/
set_option Elab.async false
set_option linter.all false
set_option maxRecDepth 100000
set_option maxHeartbeats 1000000
namespace Gk
open PySem PySem.Spec PyProof.Rows L2
/-! ### the class -/
structure EffK (K : PySem.W.Frag) (mg : Str → Option Value) (C fI fE p g : Addr) : Prop where
  mgE : mg "Effect" = some (.ref C)
  ic : C8.InsC K C
  no : NoAttr K C "own_parts"
  mkE : Mk K C fI
  eqf : PySem.W.findIn K (.ref C) "__eq__" = some (some (.ref fE))
  eqi : PySem.W.isFn K (.ref fE) = true
  rd : ClX.CRead K C (.type "type")
  cm : ClX.CMet K C (.type "type") "of" p g
/-- a method that is at f -/
structure MtP (P : Program) (w : World) (K : PySem.W.Frag) (mg : Str → Option Value) (base : Heap) (k : Nat) (f : Addr) (sp : Sp) : Prop where
  ex : ∃ (fd : FuncData) (ps : List Str), FnOk P w K mg base CX0 k f fd ps sp ∧ Binds K fd ps []
structure MdP (K : PySem.W.Frag) (x qual : Str) (st : Stmt) (f : Addr) : Prop where
  ex : ∃ fd, FunD K x qual (defArgs st) (defBody st) (defScope st) [] [] f fd
section
variable {P : Program} {w : World} {K : PySem.W.Frag} {mg : Str → Option Value} {base : Heap}
theorem mt_of {x qual : Str} {st : Stmt} {f : Addr} (D : MdP K x qual st f) {N ps : List Str} {k : Nat} {sp : Sp} (S : FnScope N ps (defScope st)) (len : ∀ vs H Q E, sp vs H Q E → vs.length = ps.length)
    (hb : ∀ (kV doc pm : Value) (an : Option Addr) (cdv ct : Value) (us : List Value), us.length = ps.length → bindArgs (PySem.W.fnOf x qual (defArgs st) (defBody st) (defScope st) .none kV doc pm an cdv ct) ⟨us, []⟩ = pure (ps.zip us))
    (hbody : ∀ (cdv : Value) (A : Around) (outer : List Env) (s : Shared) (H : Hp) (vs : List V) (Q : VK) (E : XK), Room k (A.deeper (envOfC qual (defScope st) s.heap.objs.size f cdv)) → sp vs H Q E →
      ∃ t, PSs (cxOf CX0 P w K mg base N qual (defScope st) f cdv A outer s H E).nox (defBody st) t ∧ t { nx := fun _ H' => Q .non H', rt := Q } (start N vs) H) :
    MtP P w K mg base (k + 1) f sp := by
  obtain ⟨fd, F⟩ := D.ex
  refine ⟨fd, ps, F.ok S len (fun cdv A outer s H vs Q E hr h => ?_), F.bindsN hb⟩
  obtain ⟨t, h1, h2⟩ := hbody cdv A outer s H vs Q E hr h
  exact ⟨t, h1.nox, h2⟩
end
section
variable {X : Cx} {k j i : Nat} {C fI : Addr} {x : Str} {sp : Sp} {p pos : Pos} {e : Expr} {es : List Expr} {t : TA}
/-- C(..), C by its name -/
theorem pe_mk (M : Mk X.K C fI) (c : MtP X.prog X.w X.K X.mg X.base k fI sp) (hr : Room j X.A) (hk : k + 1 ≤ j) (hg : Gl X x) (hm : X.mg x = some (.ref C)) (ha : PA X (e :: es) t)
    (hdb : (x == ("__debug__" : Str)) = false := by decide) (he : starEach (e :: es) X.env = (false, eval e X.env) :: starEach es X.env := by rfl) (hpl : (backTo pos (starEach es X.env)).any (·.1) = false := by rfl) :
    PE X (.Call (.Name x p) (e :: es) [] pos) (tMake C sp [] E0 t) := by
  obtain ⟨fd, ps, F, b⟩ := c.ex
  exact pe_make M F (hr.mono hk) hg hm b .nil pass0 ha hdb he hpl
/-- .. by a local name -/
theorem pe_mkL (M : Mk X.K C fI) (c : MtP X.prog X.w X.K X.mg X.base k fI sp) (hr : Room j X.A) (hk : k + 1 ≤ j) (hN : X.N[i]? = some x) (hv : Vis X.env.scope x) (ha : PA X (e :: es) t)
    (hdb : (x == ("__debug__" : Str)) = false := by decide) (hcd : (x == ("__classdict__" : Str)) = false := by decide) (he : starEach (e :: es) X.env = (false, eval e X.env) :: starEach es X.env := by rfl) (hpl : (backTo pos (starEach es X.env)).any (·.1) = false := by rfl) :
    PE X (.Call (.Name x p) (e :: es) [] pos) (fun σ H Q => σ[i]? = some (some (.ref C)) ∧ tMake C sp [] E0 t σ H Q) := by
  obtain ⟨fd, ps, F, b⟩ := c.ex
  refine ⟨fun pins s σ H Q I h => ?_⟩
  obtain ⟨hs, ht⟩ := h
  refine wpAny_Call_Name_kw (thn ((pe_var (pos := p) hN hv hdb hcd).run pins s σ H (fun v H1 => v = .ref C ∧ H1 = H) I ⟨.ref C, hs, rfl, rfl⟩) fun u s1 ⟨v, H1, I1, r1, q1⟩ => ?_)
  obtain ⟨rfl, rfl⟩ := q1
  cases r1
  refine PySem.W.callWith_K (h₀ := X.base) I.ok.mod.kin M.kp (thn (ha.run pos pins s1 σ _ _ I1 ht) fun us s2 ⟨vs, H2, I2, r, q⟩ => ⟨I2.kIn, ?_⟩) he hpl
  exact run_make M F (hr.mono hk) b .nil pass0 I2 r q
end
section
variable {P : Program} {w : World} {K : PySem.W.Frag} {mg : Str → Option Value} {base : Heap} {C fI fE p g : Addr}
def spInit (K : PySem.W.Frag) (C : Addr) : Sp := fun vs H Q _ => ∃ (x a b dx : Addr) (n : Nat) (I : Bag), vs = [.ref x, .ref a, .int n, .ref b] ∧ H x = some (.ins C dx []) ∧ BagAt K H a I ∧ BagAt K H b [] ∧ (flat I).length ≤ n ∧
  ∀ H' t, (∀ v o, v ≠ x → H v = some o → H' v = some o) → H' x = some (.ins C dx [("own_parts", .ref t)]) → SqT K H' t [.ref a, .int n, .ref b] → BagAt K H' a I → BagAt K H' b [] → Q .non H'
abbrev initN : List Str := ["self", "inserted", "removals", "survivors", "fault"]
theorem sc_init : FnScope initN ["self", "inserted", "removals", "survivors"] (defScope sEffInit) := ⟨rfl, rfl, rfl, by decide +kernel, rfl, by decide +kernel, by decide +kernel⟩
theorem sqt_but {H H' : Hp} {x a : Addr} {xs : List V} (hx : ∀ o u, H x = some o → o ≠ .tup xs ∧ o ≠ .frz u (.tup xs)) (e : ∀ v o, v ≠ x → H v = some o → H' v = some o) (h : SqT K H a xs) : SqT K H' a xs := by
  rcases h with (h | ⟨o, h⟩) | h
  · exact .inl (.inl (e _ _ (fun z => (hx _ (Obj.mk .none none (.seq #[]) #[]) (z ▸ h)).1 rfl) h))
  · exact .inl (.inr ⟨o, e _ _ (fun z => (hx _ o (z ▸ h)).2 rfl) h⟩)
  · exact .inr h
theorem bag_but {H H' : Hp} {x a : Addr} {B : Bag} {C dx : Addr} {fs : List (Str × V)} (hx : H x = some (.ins C dx fs)) (e : ∀ v o, v ≠ x → H v = some o → H' v = some o) (h : BagAt K H a B) : BagAt K H' a B := by
  obtain ⟨as, h1, h2⟩ := h.ex
  refine ⟨h.isB, h.len, as, ?_, Paired.imp (fun b q hs => sqt_but (fun o u z => by rw [hx] at z; cases z; exact ⟨fun y => HO.noConfusion y, fun y => HO.noConfusion y⟩) e hs) h2⟩
  rcases h1 with ⟨o, q, d⟩ | q
  · exact .inl ⟨o, e _ _ (fun z => by rw [z, hx] at q; cases q) q, d⟩
  · exact .inr q
theorem ok_init (E : EffK K mg C fI fE p g) (cB : Cal P w K mg base 3 "check_bag" (spChkBag K)) (cC : Cal P w K mg base 3 "check_count" spChkCount) (cF : Cal P w K mg base 4 "find_fault" (spFault K)) (D : MdP K "__init__" "Effect.__init__" sEffInit fI) : MtP P w K mg base 5 fI (spInit K C) := by
  refine mt_of D (ps := ["self", "inserted", "removals", "survivors"]) sc_init (fun vs H Q E h => by obtain ⟨x, a, b, dx, n, I, rfl, _⟩ := h; rfl) (fun _ _ _ _ _ _ us hl => match us, hl with | [_, _, _, _], _ => rfl) fun cdv A outer s H vs Q E' hr h => ?_
  obtain ⟨x, a, b, dx, n, I, rfl, hx, hI, hb, hn, hQ⟩ := h
  have nd := sc_init.nd
  refine ⟨_, pss_cons (ps_expr (pe_cl cB hr (by decide) (by rfl) (pa_cons (L2.pv 1) pa_nil)))
    (pss_cons (ps_expr (pe_cl cC hr (by decide) (by rfl) (pa_cons (L2.pv 2) pa_nil)))
    (pss_cons (ps_expr (pe_cl cB hr (by decide) (by rfl) (pa_cons (L2.pv 3) pa_nil)))
    (pss_cons (ps_set (i := 4) nd rfl (Or.inl rfl) (pe_cl cF hr (by decide) (by rfl) (pa_cons (L2.pv 1) (pa_cons (L2.pv 2) (pa_cons (L2.pv 3) pa_nil)))))
    (pss_cons (ps_if (pt_cmpR op_notN (L2.pv 4) pe_non (nomark _)) pss_never pss_nil)
    (pss_one (ps_fld (L2.pv 0) (pe_tup (pa_cons (L2.pv 1) (pa_cons (L2.pv 2) (pa_cons (L2.pv 3) pa_nil)))) (by rfl))))))), ?_⟩
  refine ⟨_, rfl, a, I, rfl, hI, fun H1 h1 => ?_⟩
  refine ⟨_, rfl, n, rfl, ?_⟩
  refine ⟨_, rfl, b, [], rfl, hb.same h1, fun H2 h2 => ?_⟩
  have s2 : Same H H2 := fun v o z => h2 _ _ (h1 _ _ z)
  refine ⟨_, rfl, _, rfl, _, rfl, a, b, n, I, rfl, hI.same s2, hb.same s2, hn, fun H3 h3 => ?_⟩
  have s3 : Same H H3 := fun v o z => h3 _ _ (s2 _ _ z)
  refine ⟨_, rfl, rfl, false, rfl, ?_⟩
  refine ⟨_, rfl, _, rfl, _, rfl, by show 3 ≤ sizeLine; decide, fun t ht => ?_⟩
  have s4 := same_upd (o := .tup [.ref a, .int n, .ref b]) ht
  have hx4 := s4 _ _ (s3 _ _ hx)
  have hxt : t ≠ x := fun z => by rw [← z, upd_same] at hx4; cases hx4
  refine ⟨_, rfl, x, C, dx, [], rfl, hx4, E.ic.cl, E.no, by decide, ?_⟩
  have up : ∀ v o, v ≠ x → (upd H3 t (.tup [.ref a, .int n, .ref b])) v = some o → (upd (upd H3 t (.tup [.ref a, .int n, .ref b])) x (.ins C dx (putF "own_parts" (.ref t) []))) v = some o := fun v o z e => by rw [upd_ne z]; exact e
  refine hQ _ t (fun v o z e => up v o z (s4 _ _ (s3 _ _ e))) upd_same (SqT.of (up _ _ hxt upd_same)) (bag_but hx4 up (hI.same fun v o z => s4 _ _ (s3 _ _ z))) (bag_but hx4 up (hb.same fun v o z => s4 _ _ (s3 _ _ z)))
/-! ### Effect.of -/
def spOf (K : PySem.W.Frag) (C : Addr) : Sp := fun vs H Q _ => ∃ (p : Addr) (xs : List Int), vs = [.ref C, .ref p] ∧ IsProg K H p (insP xs) ∧ xs.length ≤ 100 ∧
  ∀ H' x dx t a b I, Same H H' → H' x = some (.ins C dx [("own_parts", .ref t)]) → SqT K H' t [.ref a, .int (xs.length : Int), .ref b] → BagAt K H' a I → BagAt K H' b [] → (flat I).Perm xs → Q (.ref x) H'
abbrev ofN : List Str := ["cls", "program", "inserted", "removals", "survivors"]
theorem sc_of : FnScope ofN ["cls", "program"] (defScope sEffOf) := ⟨rfl, rfl, rfl, by decide +kernel, rfl, by decide +kernel, by decide +kernel⟩
theorem ok_of (E : EffK K mg C fI fE p g) (cP : Cal P w K mg base 5 "check_program" (spChkProg K)) (cG : Cal P w K mg base 5 "program_parts" (spProgP K)) (cI : MtP P w K mg base 5 fI (spInit K C)) (D : MdP K "of" "Effect.of" sEffOf g) : MtP P w K mg base 7 g (spOf K C) := by
  refine mt_of D (ps := ["cls", "program"]) sc_of (fun vs H Q E h => by obtain ⟨p, xs, rfl, _⟩ := h; rfl) (fun _ _ _ _ _ _ us hl => match us, hl with | [_, _], _ => rfl) fun cdv A outer s H vs Q E' hr h => ?_
  obtain ⟨p, xs, rfl, hp, hl, hQ⟩ := h
  have nd := sc_of.nd
  refine ⟨_, pss_cons (ps_expr (pe_cl cP hr (by decide) (by rfl) (pa_cons (L2.pv 1) pa_nil)))
    (pss_cons (ps_asg (pe_cl cG hr (by decide) (by rfl) (pa_cons (L2.pv 1) pa_nil)) (pg_tup (by rfl) (pgs_cons (pg_name (i := 2) nd rfl (Or.inl rfl)) (pgs_cons (pg_name (i := 3) nd rfl (Or.inl rfl)) (pgs_cons (pg_name (i := 4) nd rfl (Or.inl rfl)) pgs_nil)))))
    (pss_one (ps_ret (pe_mkL (i := 0) E.mkE cI hr (by decide) rfl (.inl rfl) (pa_cons (L2.pv 2) (pa_cons (L2.pv 3) (pa_cons (L2.pv 4) pa_nil))))))), ?_⟩
  refine ⟨_, rfl, p, _, rfl, hp, fun H1 h1 => ?_⟩
  obtain ⟨as, q1, q2⟩ := hp
  refine ⟨_, rfl, p, xs, rfl, ⟨as, sqt_same h1 q1, Paired.imp (fun _ _ z => sqt_same h1 z) q2⟩, hl, fun H2 t a b I h2 ht hI hb pI => ?_⟩
  refine ⟨t, _, rfl, ht, rfl, _, _, rfl, _, _, rfl, _, _, rfl, rfl, ?_⟩
  refine ⟨rfl, _, rfl, _, rfl, _, rfl, fun x dx hx hdx hne => ?_⟩
  have s3 : Same H2 (upd (upd H2 dx (.own x)) x (.ins C dx [])) := fun v o z => by
    rw [upd_ne (ne_of_none z hx), upd_ne (ne_of_none z hdx)]
    exact z
  refine ⟨x, a, b, dx, xs.length, I, rfl, upd_same, hI.same s3, hb.same s3, Nat.le_of_eq pI.length_eq, fun H3 t3 h3 hx3 ht3 hI3 hb3 => ⟨rfl, ?_⟩⟩
  refine hQ H3 x dx t3 a b I (fun v o z => h3 v o (fun y => ?_) (s3 _ _ (h2 _ _ (h1 _ _ z)))) hx3 ht3 hI3 hb3 pI
  have := h2 _ _ (h1 _ _ z)
  rw [y, hx] at this
  cases this
/-! ### == -/
def bagD (I : Bag) : PyData := .tuple (I.map fun p => .tuple [.int p.1, .int (p.2 : Int)])
def partsD (I : Bag) (n : Nat) : PyData := .tuple [bagD I, .int n, bagD []]
theorem bagD_lay : ∀ I : Bag, PyData.canLayAll0 (I.map fun p => PyData.tuple [.int p.1, .int (p.2 : Int)]) = true
  | [] => rfl
  | p :: I => by simp [PyData.canLayAll0, PyData.canLay0, bagD_lay I]
theorem bagD_depth : ∀ I : Bag, PyData.depthAll (I.map fun p => PyData.tuple [.int p.1, .int (p.2 : Int)]) ≤ 1
  | [] => Nat.zero_le _
  | p :: I => by
    have := bagD_depth I
    simp only [List.map_cons, PyData.depthAll, PyData.depth]
    omega
theorem partsD_shaped (I : Bag) (n : Nat) : SeqAt.shaped (partsD I n) = true := by
  have h1 := bagD_lay I
  have h2 := bagD_depth I
  unfold SeqAt.shaped
  rw [Bool.and_eq_true, decide_eq_true_eq]
  constructor
  · simp [partsD, bagD, PyData.canLay0, PyData.canLayAll0, h1]
  · simp only [partsD, bagD, PyData.depth, PyData.depthAll, List.map_nil]
    omega
theorem dp_bag {H : Hp} {a : Addr} {I : Bag} (h : BagAt K H a I) : Dp K H (.ref a) (bagD I) := by
  obtain ⟨as, h1, h2⟩ := h.ex
  refine .tup h1.sq ?_
  have : ∀ {as : List Addr} {I : Bag}, PairsAt K H as I → DpAll K H (as.map V.ref) (I.map fun p => PyData.tuple [.int p.1, .int (p.2 : Int)]) := by
    intro as I h
    induction h with
    | nil => exact .nil
    | cons h t ih => exact .cons (.tup h (.cons (.int _) (.cons (.int _) .nil))) ih
  exact this h2
theorem dp_parts {H : Hp} {t a b : Addr} {I : Bag} {n : Nat} (ht : SqT K H t [.ref a, .int (n : Int), .ref b]) (hI : BagAt K H a I) (hb : BagAt K H b []) : Dp K H (.ref t) (partsD I n) :=
  .tup ht (.cons (dp_bag hI) (.cons (.int _) (.cons (dp_bag hb) .nil)))
/-- the two are of the same parts -/
def RParts (K : PySem.W.Frag) (C : Addr) : Addr → Addr → Hp → Prop := fun x y H => ∃ (dx dy tx ty : Addr) (d : PyData), H x = some (.ins C dx [("own_parts", .ref tx)]) ∧ H y = some (.ins C dy [("own_parts", .ref ty)]) ∧ Dp K H (.ref tx) d ∧ Dp K H (.ref ty) d ∧ SeqAt.shaped d = true
theorem sc_eq : FnScope ["self", "other"] ["self", "other"] (defScope sEffEq) := ⟨rfl, rfl, rfl, by decide +kernel, rfl, by decide +kernel, by decide +kernel⟩
theorem ok_eq (E : EffK K mg C fI fE p g) (fr : Free mg) (D : MdP K "__eq__" "Effect.__eq__" sEffEq fE) : MtP P w K mg base 1 fE (spEq (RParts K C)) := by
  refine mt_of D (ps := ["self", "other"]) sc_eq (fun vs H Q E h => by obtain ⟨a, b, rfl, _⟩ := h; rfl) (fun _ _ _ _ _ _ us hl => match us, hl with | [_, _], _ => rfl) fun cdv A outer s H vs Q E' hr h => ?_
  obtain ⟨x, y, rfl, ⟨dx, dy, tx, ty, d, hx, hy, d1, d2, sd⟩, hQ⟩ := h
  refine ⟨_, pss_one (ps_ret (pe_and (pe_callB (C8.call_isC E.ic) (by rfl) (fr _ (by decide)) (by decide +kernel) (pa_cons (L2.pv 1) (pa_cons (pe_glob (v := .ref C) (by rfl) E.mgE rfl) pa_nil)))
    (pe_one (pe_cmpR (op_eqD hr.units) (pe_fld (L2.pv 0) (by rfl)) (pe_fld (L2.pv 1) (by rfl)) (nomark _))))), ?_⟩
  refine ⟨_, rfl, y, dy, _, rfl, hy, true, rfl, ?_⟩
  refine ⟨_, rfl, x, C, dx, _, _, rfl, hx, E.ic.cl, E.no, rfl, _, rfl, y, C, dy, _, _, rfl, hy, E.ic.cl, E.no, rfl, d, d, d1, d2, sd, sd, ?_⟩
  rw [SeqAt.eqv_refl d (SeqAt.canLay_of_shaped sd)]
  exact hQ H fun _ _ z => z
end
end Gk

/-! St -/
set_option Elab.async false
set_option linter.all false
set_option maxRecDepth 100000
set_option maxHeartbeats 4000000
namespace Gk
open PySem PySem.Spec PyProof.Rows L2
/-! ### set(xs) of a list of ints -/
abbrev newSet (w : World) : Obj := { cls := .type "set", dict := none, data := .set #[] 0 (.fresh 0 0 (!w.params.followText "set-order")) }
theorem call_set_lst {P : Program} {w : World} {A : Around} {E : Value → Shared → Prop} {s : Shared} {l : Addr} {items : Array Value} (ns : List Int) {Q : Value → Shared → Prop} (hh : A.handled = none) (hl : s.heap.IsList l items) (hit : IntsAre items.toList ns) (hb : ns.length + 1 < scanBound)
    (h : ∀ (h' : Heap) (tk c : Nat), SetR w h' s.heap.objs.size (fun j => decide (j ∈ ns)) c → c ≤ ns.length → (∀ b o, s.heap.get? b = some o → h'.get? b = some o) → Q (.ref s.heap.objs.size) { s with heap := h', toks := tk }) :
    wpAny (model P w) A (call (.type "set") [.ref l]) Q E s := by
  have hisz : items.size = ns.length := by
    have q := IntsAre.length hit
    rwa [Array.length_toList] at q
  obtain ⟨c, tl, hmro⟩ := F.called_set.mro
  have hmade := F.called_set.made
  have hsub := F.called_set.sub
  refine wpAny_call (codeAny_of_tree ?_)
  show wpAny _ _ (callAny (.type "set") _) _ _ _
  refine wpAny_pure ⟨Code.quiet_builtin _ (by decide +kernel), codeAny_builtin F.entry_type_call ?_⟩
  rw [Around.under_plain (weight_type_call_type "set" [.ref l] []) rfl]
  have h1 := F.called_set.notType
  have h2 := F.called_set.canCreate
  have hct := F.typeCall_set_1 (.ref l)
  repeat (any_goals (first | assumption | wp_step))

  refine codeAny_mono (code_set_led1 (.ref l) (E := E) (Q₁ := fun obj s₁ => obj = .ref s.heap.objs.size ∧ s₁ = { s with heap := s.heap.push (newSet w) }) ⟨rfl, rfl⟩) fun r s₁ hr => ?_
  cases r with
  | error e => exact hr
  | ok fl =>
    cases fl with
    | ret obj =>
      obtain ⟨rfl, rfl⟩ := hr
      have hS : (s.heap.push (newSet w)).get? s.heap.objs.size = some (newSet w) := Heap.get?_push_size _ rfl
      have hT : Shared.TypeIs { s with heap := s.heap.push (newSet w) } (.ref s.heap.objs.size) "set" := ⟨_, hS, rfl⟩
      have hli := F.called_set.init.lookup
      have hbi := F.called_set.init.bind (.ref s.heap.objs.size)
      repeat (any_goals (first | assumption | wp_step))

      refine codeAny_mono (codeAny_call_builtin (R := wants (fun r s₂ => r = .none ∧ ∃ h' tk c, s₂ = { s with heap := h', toks := tk } ∧ SetR w h' s.heap.objs.size (fun j => decide (j ∈ ns)) c ∧ c ≤ ns.length ∧
          (∀ b o, s.heap.get? b = some o → h'.get? b = some o)) E) F.called_set.init.plain F.entry_set_init (check_set_init_1 hT ?_)) fun r₂ s₂ hr₂ => ?_
      · obtain ⟨ol, hol, hcl, nl, hdl⟩ := hl
        obtain ⟨ocls, odict, odata, oslots⟩ := ol
        simp only at hcl hdl
        subst hcl; subst hdl
        have hol' : (s.heap.push (newSet w)).get? l = some { cls := .type "list", dict := odict, data := .seq items nl, slots := oslots } := Heap.get?_push_of_some _ hol
        have hsls := F.sub_list_set
        have hslf := F.sub_list_frozenset
        have hne : (Value.type "list" == Value.type "dict") = false := by decide
        have hl1 : (s.heap.push (newSet w)).IsList l items := ⟨_, hol', rfl, nl, rfl⟩
        unfold Builtin.«set.__init__» noKeywords Builtin.Frozenset.updateFrom
        generalize hPI : pyIter = PI
        wp_walk
        subst hPI

        refine wpAny_pyIter_list hl1 ?_
        refine wpAny_bind (wpAny_runValue ?_)
        have hlS : l < s.heap.objs.size := Heap.lt_size hol
        have hh3 : A.in1.in1.in1.handled = none := by simp [hh]
        have hneI : l ≠ (s.heap.push (newSet w)).objs.size := by
          rw [Heap.size_push]; exact Nat.ne_of_lt (Nat.lt_succ_of_lt hlS)
        have hSf : s.heap.objs.size ∉ [(s.heap.push (newSet w)).objs.size, l] := by
          rw [Heap.size_push]; simp only [List.mem_cons, List.mem_singleton, List.not_mem_nil, or_false, not_or]
          exact ⟨Nat.ne_of_lt (Nat.lt_succ_self _), Nat.ne_of_gt hlS⟩
        have hval : ∀ (i : Nat) (v : Value), items[i]? = some v → ∃ k t, ns[i]? = some k ∧ v = .int k t := fun i v hv => by
          have hi : i < ns.length := by rw [← hisz]; exact (Array.getElem?_eq_some_iff.mp hv).1
          obtain ⟨t, e⟩ := PyProof.Rows.IntsAre.int_at hit i v (by rw [Array.getElem?_toList]; exact hv)
          refine ⟨ns[i], t, List.getElem?_eq_getElem hi, ?_⟩
          rw [e, List.getD_eq_getElem?_getD, List.getElem?_eq_getElem hi] <;> rfl
        refine set_update_ints ((Walks.list hh3 _ l hneI items).toS) s.heap.objs.size
          hSf ns hisz hb hval (items.size - 0) 0 _ (by omega) (Nat.zero_le _)
          ⟨⟨_, Heap.get?_push_size _ rfl, rfl, rfl⟩, (hl1.push _)⟩ ?hS0 ?hR
        case hS0 =>
          have hget : ((s.heap.push (newSet w)).push { cls := .type "list_iterator", data := .fields #[.ref l, .int 0 0] }).get? s.heap.objs.size
              = some (newSet w) := Heap.get?_push_of_some _ hS
          exact ⟨0, Nat.le_refl 0, setR_new_at hget⟩
        case hR =>
          intro s' c' hm hc' hS'
          obtain ⟨h', g2, d', tk', os'⟩ := s'
          have eg : g2 = s.gens := hm.gens
          have ed : d' = s.drawn := hm.drawn
          have eo : os' = s.os := hm.os
          subst eg; subst ed; subst eo
          show wpAny _ _ _ _ _ _
          refine wpAny_pure ?_
          show wpAny _ _ (ret Value.none) _ _ _
          rw [hisz] at hc'
          refine wpAny_pure ⟨rfl, h', tk', c', rfl, hS', hc', fun b o e => ?_⟩
          have hb0 : b < s.heap.objs.size := Heap.lt_size e
          have hb1 : b ≠ s.heap.objs.size := Nat.ne_of_lt hb0
          have hb2 : b ≠ (s.heap.push (newSet w)).objs.size := by
            rw [Heap.size_push]; exact Nat.ne_of_lt (Nat.lt_succ_of_lt hb0)
          exact hm.heap b o (by simp only [List.mem_cons, List.mem_singleton, List.not_mem_nil, or_false, not_or]; exact ⟨hb1, hb2⟩) (Heap.get?_push_of_some _ (Heap.get?_push_of_some _ e))

      · cases r₂ with
        | error e => exact hr₂
        | ok fl₂ =>
          cases fl₂ with
          | ret r =>
            obtain ⟨rfl, h', tk, c', rfl, hS', hc', hk'⟩ := hr₂
            repeat (any_goals (first | assumption | wp_step))
            exact h _ _ _ hS' hc' hk'
          | _ => exact hr₂.elim
    | _ => exact hr.elim
theorem call_setInts {X : Cx} (hc : X.calm = true) : CallR X (.type "set") (fun xs H Q => ∃ (l : Addr) (ns : List Int), xs = [.ref l] ∧ SqL X.K H l (ns.map V.int) ∧ ns.length < 64 ∧
    ∀ a c, H a = none → c ≤ ns.length → Q (.ref a) (upd H a (SetO X.w a (fun j => decide (j ∈ ns)) c))) := by
  intro pins s σ H xs us Q I r h
  obtain ⟨l, ns, rfl, hl, hn, q⟩ := h
  rw [Vals.ref1 r]
  obtain ⟨its, rv, pl, _⟩ := I.list hl
  refine call_set_lst ns (I.ok.hd hc) pl.isList (Vals.ints rv) (by unfold scanBound; omega) fun h' tk c R hc' k => ?_
  exact ⟨.ref s.heap.objs.size, upd H s.heap.objs.size (SetO X.w s.heap.objs.size (fun j => decide (j ∈ ns)) c), I.laid (t' := tk) k (Nat.le_refl _) (setO_new R), rfl, q _ c (I.hok.fresh (Nat.le_refl _)) hc'⟩
end Gk

/-! P11 -/
set_option Elab.async false
set_option linter.all false
set_option maxRecDepth 100000
set_option maxHeartbeats 1000000
namespace Gk
open PySem PySem.Spec PyProof.Rows L2
def cutI (ns : List Int) (lo hi : Option Int) : List Int := (ns.drop (HT.sIx ns.length 0 lo)).take (HT.sIx ns.length ns.length hi - HT.sIx ns.length 0 lo)
theorem cutV_ints (ns : List Int) (lo hi : Option Int) : cutV (ns.map V.int) lo hi = (cutI ns lo hi).map V.int := by
  unfold cutV cutI
  rw [List.length_map, List.map_take, List.map_drop]
theorem sql_same {K : PySem.W.Frag} {H H' : Hp} {a : Addr} {xs : List V} (e : Same H H') (h : SqL K H a xs) : SqL K H' a xs := by
  rcases h with (h | ⟨o, h⟩) | h
  · exact .inl (.inl (e _ _ h))
  · exact .inl (.inr ⟨o, e _ _ h⟩)
  · exact .inr h
theorem cmul_l {i j : Int} (h : -(2 ^ 64) < i ∧ i < 2 ^ 64) : CMul i j := .inl h
theorem cmul_r {i j : Int} (h : -(2 ^ 64) < j ∧ j < 2 ^ 64) : CMul i j := .inr h
theorem fmod_bd (i : Int) {m : Int} (hm : 0 < m) : 0 ≤ i.fmod m ∧ i.fmod m < m := ⟨Int.fmod_nonneg_of_pos i hm, Int.fmod_lt_of_pos i hm⟩
section
variable {P : Program} {w : World} {K : PySem.W.Frag} {mg : Str → Option Value} {base : Heap}
/-! ### the law's helpers -/
def spPool (K : PySem.W.Frag) : Sp := fun vs H Q _ => ∃ (sc : Addr) (ns : List Int) (k : Nat), vs = [.ref sc, .int k] ∧ SqL K H sc (ns.map V.int) ∧ k < 8 ∧
  ∀ H' t (p0 p1 : Int), Same H H' → H' t = some (.lst [.int p0, .int p1]) → H t = none → 0 ≤ p0 → 0 ≤ p1 → Q (.ref t) H'
abbrev poolN : List Str := ["_law_script", "_law_k", "_law_cell", "_law_great", "_law_mixed"]
theorem sc_pool : FnScope poolN ["_law_script", "_law_k"] (defScope sPool) := ⟨rfl, rfl, rfl, by decide +kernel, rfl, by decide +kernel, by decide +kernel⟩
theorem ok_pool (fr : Free mg) (D : DfP K mg sPool) : Cal P w K mg base 1 "_law_pool" (spPool K) := by
  refine cal_of D (ps := ["_law_script", "_law_k"]) sc_pool (fun vs H Q E h => by obtain ⟨sc, ns, k, rfl, _⟩ := h; rfl) (fun _ _ _ _ _ _ us hl => match us, hl with | [_, _], _ => rfl) fun cdv f A outer s H vs Q E hr h => ?_
  obtain ⟨sc, ns, k, rfl, hs, hk, hQ⟩ := h
  have nd := sc_pool.nd
  refine ⟨_, pss_cons (ps_set (i := 2) nd rfl (Or.inl rfl) (pe_op op_add (pe_op op_mul pe_int (pe_callB (cr_sum rfl) (by rfl) (fr _ (by decide)) (by decide +kernel) (pa_cons (pe_slice sl_list (L2.pv 0) po_none (po_some pe_int)) pa_nil))) (L2.pv 1)))
    (pss_cons (ps_if (pt_cmpR op_lt (L2.pv 1) (pe_callB call_len_seq (by rfl) (fr _ (by decide)) (by decide +kernel) (pa_cons (L2.pv 0) pa_nil)) (nomark _)) (pss_one (ps_set (i := 2) nd rfl (Or.inl rfl) (pe_ix ix_list (L2.pv 0) (L2.pv 1) (fun _ _ => rfl)))) pss_nil)
    (pss_cons (ps_set (i := 3) nd rfl (Or.inl rfl) (pe_callB call_abs (by rfl) (fr _ (by decide)) (by decide +kernel) (pa_cons (L2.pv 2) pa_nil)))
    (pss_cons (ps_set (i := 4) nd rfl (Or.inl rfl) (pe_op op_modN (pe_op op_mul (pe_op op_add (pe_op op_add (pe_op op_add (pe_op op_modN (L2.pv 3) pe_int) (pe_op op_mul (pe_op op_mul pe_int (L2.pv 1)) (L2.pv 1))) (pe_op op_mul pe_int (L2.pv 1))) pe_int) pe_int) pe_int))
    (pss_one (ps_ret (pe_lst (pa_cons (pe_op op_mul (L2.pv 3) (pe_callTy call_int1 (by rfl) (fr _ (by decide)) (by decide +kernel) (pa_cons (pe_cmpR op_ge (L2.pv 3) (pe_op op_pow pe_int pe_int) (nomark _)) pa_nil))) (pa_cons (pe_op op_modN (pe_op op_mul (L2.pv 4) (L2.pv 4)) pe_int) pa_nil)))))))), ?_⟩
  refine ⟨_, rfl, 63, rfl, sc, _, rfl, hs, fun p hp => ?_⟩
  rw [cutV_ints]
  have s1 := same_upd (o := .lst ((cutI ns none (some 63)).map V.int)) hp
  refine ⟨p, cutI ns none (some 63), rfl, SqL.of upd_same, _, _, rfl, rfl, cmul_l (by decide), ?_⟩
  refine ⟨_, rfl, _, _, rfl, rfl, ?_⟩
  have hs1 : SqL K (upd H p (.lst ((cutI ns none (some 63)).map V.int))) sc (ns.map V.int) := sql_same s1 hs
  refine ⟨_, rfl, _, rfl, sc, _, rfl, .inl hs1, _, _, rfl, rfl, ?_⟩
  have e63 : (2 : Int) ^ 64 = 18446744073709551616 := by decide
  by_cases hc : k < ns.length
  · have hki : (ns.map V.int)[k]? = some (.int ns[k]) := by rw [List.getElem?_map, List.getElem?_eq_getElem hc]; rfl
    refine ⟨true, bl_t (by rw [List.length_map]; omega), ?_⟩
    refine ⟨_, rfl, _, rfl, sc, _, (k : Int), .int ns[k], rfl, rfl, hs1, atI_nat hki, ?_⟩
    generalize ns[k] = c
    obtain ⟨g, hg, hg0⟩ : ∃ g : Int, (if c < 0 then -c else c) = g ∧ 0 ≤ g := ⟨_, rfl, by split <;> omega⟩
    refine ⟨_, rfl, c, rfl, ?_⟩
    rw [hg]
    have hkk : -(2 ^ 64) < (k : Int) ∧ (k : Int) < 2 ^ 64 := ⟨by omega, by omega⟩
    refine ⟨_, rfl, _, _, rfl, rfl, (by decide : (2147483629 : Int) ≠ 0), ?_⟩
    refine ⟨_, rfl, _, _, rfl, rfl, cmul_r hkk, _, rfl, _, _, rfl, rfl, cmul_r hkk, _, _, rfl, rfl, ?_⟩
    refine ⟨_, rfl, _, _, rfl, rfl, cmul_r hkk, _, _, rfl, rfl, _, _, rfl, rfl, _, _, rfl, rfl, cmul_r (by decide), _, _, rfl, rfl, (by decide : (2147483647 : Int) ≠ 0), ?_⟩
    obtain ⟨m, hm, hm0, hm1⟩ : ∃ m : Int, ((g.fmod 2147483629 + 7919 * (k : Int) * (k : Int) + 31 * (k : Int) + 17) * 48271).fmod 2147483647 = m ∧ 0 ≤ m ∧ m < 2147483647 := ⟨_, rfl, fmod_bd _ (by decide)⟩
    show gName 4 (V.int (((g.fmod 2147483629 + 7919 * (k : Int) * (k : Int) + 31 * (k : Int) + 17) * 48271).fmod 2147483647)) _ _ _
    rw [hm]
    have hmm : -(2 ^ 64) < m ∧ m < 2 ^ 64 := ⟨by omega, by omega⟩
    refine ⟨_, rfl, _, rfl, _, _, rfl, rfl, ⟨by decide, by decide, by decide⟩, _, _, rfl, rfl, .inr ⟨_, rfl, _, _, rfl, rfl, cmul_r ?_, ?_⟩⟩
    · split <;> exact ⟨by omega, by omega⟩
    refine ⟨_, rfl, _, rfl, _, _, rfl, rfl, cmul_r hmm, _, _, rfl, rfl, (by decide : (2147483629 : Int) ≠ 0), by show 2 ≤ sizeLine; decide, fun q hq => ?_⟩
    refine hQ _ q _ _ (fun v o e => same_upd hq _ _ (s1 _ _ e)) upd_same ?_ ?_ (fmod_bd _ (by decide)).1
    · cases z : H q with
      | none => rfl
      | some o => rw [s1 _ _ z] at hq; cases hq
    · refine Int.mul_nonneg hg0 ?_
      split <;> decide
  · refine ⟨false, bl_f (by rw [List.length_map]; omega), ?_⟩
    obtain ⟨c, hcd⟩ : ∃ c : Int, 11 * (cutI ns none (some 63)).sum + (k : Int) = c := ⟨_, rfl⟩
    obtain ⟨g, hg, hg0⟩ : ∃ g : Int, (if c < 0 then -c else c) = g ∧ 0 ≤ g := ⟨_, rfl, by split <;> omega⟩
    refine ⟨_, rfl, c, by rw [← hcd], ?_⟩
    rw [hg]
    have hkk : -(2 ^ 64) < (k : Int) ∧ (k : Int) < 2 ^ 64 := ⟨by omega, by omega⟩
    refine ⟨_, rfl, _, _, rfl, rfl, (by decide : (2147483629 : Int) ≠ 0), ?_⟩
    refine ⟨_, rfl, _, _, rfl, rfl, cmul_r hkk, _, rfl, _, _, rfl, rfl, cmul_r hkk, _, _, rfl, rfl, ?_⟩
    refine ⟨_, rfl, _, _, rfl, rfl, cmul_r hkk, _, _, rfl, rfl, _, _, rfl, rfl, _, _, rfl, rfl, cmul_r (by decide), _, _, rfl, rfl, (by decide : (2147483647 : Int) ≠ 0), ?_⟩
    obtain ⟨m, hm, hm0, hm1⟩ : ∃ m : Int, ((g.fmod 2147483629 + 7919 * (k : Int) * (k : Int) + 31 * (k : Int) + 17) * 48271).fmod 2147483647 = m ∧ 0 ≤ m ∧ m < 2147483647 := ⟨_, rfl, fmod_bd _ (by decide)⟩
    show gName 4 (V.int (((g.fmod 2147483629 + 7919 * (k : Int) * (k : Int) + 31 * (k : Int) + 17) * 48271).fmod 2147483647)) _ _ _
    rw [hm]
    have hmm : -(2 ^ 64) < m ∧ m < 2 ^ 64 := ⟨by omega, by omega⟩
    refine ⟨_, rfl, _, rfl, _, _, rfl, rfl, ⟨by decide, by decide, by decide⟩, _, _, rfl, rfl, .inr ⟨_, rfl, _, _, rfl, rfl, cmul_r ?_, ?_⟩⟩
    · split <;> exact ⟨by omega, by omega⟩
    refine ⟨_, rfl, _, rfl, _, _, rfl, rfl, cmul_r hmm, _, _, rfl, rfl, (by decide : (2147483629 : Int) ≠ 0), by show 2 ≤ sizeLine; decide, fun q hq => ?_⟩
    refine hQ _ q _ _ (fun v o e => same_upd hq _ _ (s1 _ _ e)) upd_same ?_ ?_ (fmod_bd _ (by decide)).1
    · cases z : H q with
      | none => rfl
      | some o => rw [s1 _ _ z] at hq; cases hq
    · refine Int.mul_nonneg hg0 ?_
      split <;> decide
end
end Gk

/-! P12 -/
set_option Elab.async false
set_option linter.all false
set_option maxRecDepth 100000
set_option maxHeartbeats 1000000
namespace Gk
open PySem PySem.Spec PyProof.Rows L2
section
variable {P : Program} {w : World} {K : PySem.W.Frag} {mg : Str → Option Value} {base : Heap}
/-! ### _law_draw -/
def spDraw : Sp := fun vs H Q _ => ∃ (t : Addr) (m p0 p1 : Int), vs = [.ref t, .int m] ∧ 0 < m ∧ m ≤ 1000 ∧ H t = some (.lst [.int p0, .int p1]) ∧
  ∀ q0 q1 r : Int, 0 ≤ r → r < m → Q (.int r) (upd H t (.lst [.int q0, .int q1]))
theorem sc_draw : FnScope ["_law_pool_here", "_law_many", "_law_found"] ["_law_pool_here", "_law_many"] (defScope sDraw) := ⟨rfl, rfl, rfl, by decide +kernel, rfl, by decide +kernel, by decide +kernel⟩
theorem fdiv_bd {i m : Int} (hm : 0 < m) (h0 : 0 ≤ i) : 0 ≤ i.fdiv m := Int.fdiv_nonneg h0 (by omega)
/-- pool[1] may be any int below the modulus: asked for the square -/
theorem ok_draw (D : DfP K mg sDraw) : Cal P w K mg base 1 "_law_draw" spDraw := by
  refine cal_of D (ps := ["_law_pool_here", "_law_many"]) sc_draw (fun vs H Q E h => by obtain ⟨t, m, p0, p1, rfl, _⟩ := h; rfl) (fun _ _ _ _ _ _ us hl => match us, hl with | [_, _], _ => rfl) fun cdv f A outer s H vs Q E hr h => ?_
  obtain ⟨t, m, p0, p1, rfl, hm0, hm1, ht, hQ⟩ := h
  have nd := sc_draw.nd
  refine ⟨_, pss_cons (ps_if (pt_cmpR op_gt (pe_ix ix_list (L2.pv 0) pe_int (fun _ _ => rfl)) pe_int (nomark _))
      (pss_cons (ps_set (i := 2) nd rfl (Or.inl rfl) (pe_op op_modN (pe_ix ix_list (L2.pv 0) pe_int (fun _ _ => rfl)) (L2.pv 1)))
      (pss_cons (ps_asg (pe_op op_fdivN (pe_ix ix_list (L2.pv 0) pe_int (fun _ _ => rfl)) (L2.pv 1)) (pg_sub (L2.pv 0) pe_int set_list))
      (pss_one (ps_ret (L2.pv 2))))) pss_nil)
    (pss_cons (ps_asg (pe_op op_modN (pe_op op_add (pe_op op_mul (pe_ix ix_list (L2.pv 0) pe_int (fun _ _ => rfl)) pe_int) pe_int) pe_int) (pg_sub (L2.pv 0) pe_int set_list))
    (pss_one (ps_ret (pe_op op_modN (pe_op op_fdivN (pe_op op_modN (pe_op op_mul (pe_ix ix_list (L2.pv 0) pe_int (fun _ _ => rfl)) (pe_ix ix_list (L2.pv 0) pe_int (fun _ _ => rfl))) pe_int) pe_int) (L2.pv 1))))), ?_⟩
  have hd : m ≠ 0 ∧ m.natAbs < 1073741824 := ⟨by omega, by omega⟩
  refine ⟨_, rfl, t, _, 0, .int p0, rfl, rfl, SqL.of ht, rfl, _, _, rfl, rfl, ?_⟩
  by_cases hc : 0 < p0
  · refine ⟨true, bl_t hc, ?_⟩
    refine ⟨_, rfl, t, _, 0, .int p0, rfl, rfl, SqL.of ht, rfl, _, rfl, _, _, rfl, rfl, hd.1, ?_⟩
    refine ⟨_, rfl, t, _, 0, .int p0, rfl, rfl, SqL.of ht, rfl, _, rfl, _, _, rfl, rfl, hd, ?_⟩
    refine ⟨_, rfl, t, _, 0, 0, rfl, rfl, ht, rfl, ?_⟩
    exact ⟨_, rfl, hQ (p0.fdiv m) p1 _ (fmod_bd _ hm0).1 (fmod_bd _ hm0).2⟩
  · refine ⟨false, bl_f hc, ?_⟩
    refine ⟨_, rfl, t, _, 1, .int p1, rfl, rfl, SqL.of ht, rfl, _, _, rfl, rfl, cmul_r (by decide), _, _, rfl, rfl, _, _, rfl, rfl, (by decide : (2147483647 : Int) ≠ 0), ?_⟩
    refine ⟨_, rfl, t, _, 1, 1, rfl, rfl, ht, rfl, ?_⟩
    obtain ⟨z, hz, z0, z1⟩ : ∃ z : Int, (p1 * 48271 + 11).fmod 2147483647 = z ∧ 0 ≤ z ∧ z < 2147483647 := ⟨_, rfl, fmod_bd _ (by decide)⟩
    have ht2 : (upd H t (.lst ([V.int p0, V.int p1].set 1 ((fun i j => V.int (i.fmod j)) (p1 * 48271 + 11) 2147483647)))) t = some (.lst [.int p0, .int z]) := by
      rw [upd_same, ← hz]
      rfl
    have e64 : (2 : Int) ^ 64 = 18446744073709551616 := by decide
    refine ⟨_, rfl, t, _, 1, .int z, rfl, rfl, SqL.of ht2, rfl, _, rfl, t, _, 1, .int z, rfl, rfl, SqL.of ht2, rfl, _, _, rfl, rfl, cmul_r ⟨by omega, by omega⟩, _, _, rfl, rfl, (by decide : (2147483629 : Int) ≠ 0), _, _, rfl, rfl, ⟨by decide, by decide⟩, _, rfl, _, _, rfl, rfl, hd.1, ?_⟩
    have := hQ p0 z ((((z * z).fmod 2147483629).fdiv 16).fmod m) (fmod_bd _ hm0).1 (fmod_bd _ hm0).2
    rw [← hz] at this ⊢
    exact this
/-! ### _law_random_numbers -/
def spRandom : Sp := fun vs H Q _ => ∃ (t : Addr) (n : Nat) (p0 p1 : Int), vs = [.ref t, .int n, .int 40] ∧ n ≤ 100 ∧ H t = some (.lst [.int p0, .int p1]) ∧
  ∀ H' l (xs : List Int) (q0 q1 : Int), (∀ b o, b ≠ t → H b = some o → H' b = some o) → H' t = some (.lst [.int q0, .int q1]) → H' l = some (.lst (xs.map V.int)) → H l = none → xs.length = n → Q (.ref l) H'
abbrev randN : List Str := ["_law_pool_here", "_law_many", "_law_most", "_law_turn"]
theorem sc_random : FnScope randN ["_law_pool_here", "_law_many", "_law_most"] (defScope sRandom) := ⟨rfl, rfl, rfl, by decide +kernel, rfl, by decide +kernel, by decide +kernel⟩
theorem ok_random (fr : Free mg) (cD : Cal P w K mg base 1 "_law_draw" spDraw) (D : DfP K mg sRandom) : Cal P w K mg base 3 "_law_random_numbers" spRandom := by
  refine cal_of D (ps := ["_law_pool_here", "_law_many", "_law_most"]) sc_random (fun vs H Q E h => by obtain ⟨t, m, p0, p1, rfl, _⟩ := h; rfl) (fun _ _ _ _ _ _ us hl => match us, hl with | [_, _, _], _ => rfl) fun cdv f A outer s H vs Q E hr h => ?_
  obtain ⟨t, n, p0, p1, rfl, hn, ht, hQ⟩ := h
  have nd := sc_random.nd
  refine ⟨_, pss_one (ps_ret (pe_lc (own := [("_law_turn", 3)]) (g := gName 3) (tt := tYes) rfl nd (pi_range1 (by rfl) (fr _ (by decide)) (pa_cons (L2.pv 1) pa_nil)) (blkOk_by (N := randN) (sc := defScope sRandom) (by decide +kernel))
      (fun _ _ _ _ _ => pg_name (i := 3) nd rfl (Or.inl rfl)) (fun _ _ _ _ _ => pts_nil)
      (fun _ _ _ _ _ => pe_op op_sub (pe_cl cD hr (by decide) (by rfl) (pa_cons (L2.pv 0) (pa_cons (L2.pv 2) pa_nil))) (pe_op op_fdivN (L2.pv 2) pe_int)))), ?_⟩
  refine ⟨_, rfl, (n : Int), rfl, by omega, by omega, fun l hl => ?_⟩
  have htl : t ≠ l := ne_of_none ht hl
  refine lc_range (lo := 0) (n := (n : Int).toNat) (fun i H' => (∀ b o, b ≠ t → H b = some o → H' b = some o) ∧ (∃ q0 q1 : Int, H' t = some (.lst [.int q0, .int q1])) ∧ ∃ xs : List Int, H' l = some (.lst (xs.map V.int)) ∧ xs.length = i)
    ⟨fun b o _ e => same_upd hl _ _ e, ⟨p0, p1, same_upd hl _ _ ht⟩, [], upd_same, rfl⟩ (fun i H' hi h => ?_) (fun H' h => ?_)
  · obtain ⟨h1, ⟨q0, q1, h2⟩, xs, h3, h4⟩ := h
    refine ⟨rfl, ?_⟩
    refine ⟨_, rfl, _, rfl, t, 40, q0, q1, rfl, by decide, by decide, h2, fun r0 r1 r hr0 hr1 => ?_⟩
    refine ⟨_, rfl, _, _, rfl, rfl, ⟨by decide, by decide⟩, _, _, rfl, rfl, ?_⟩
    refine ⟨xs.map V.int, by rw [upd_ne htl.symm]; exact h3, small1000 (by rw [List.length_map]; omega), fun b o hb e => ?_, ⟨r0, r1, by rw [upd_ne htl, upd_same]⟩, xs ++ [r - (40 : Int).fdiv 2], by rw [upd_same, List.map_append]; rfl, by simp [h4]⟩
    rw [upd_ne (fun z => by rw [z, hl] at e; cases e), upd_ne hb]
    exact h1 b o hb e
  · obtain ⟨h1, ⟨q0, q1, h2⟩, xs, h3, h4⟩ := h
    exact hQ H' l xs q0 q1 h1 h2 h3 hl (by rw [h4]; exact Int.toNat_natCast n)
/-! ### _law_bag -/
def spBag (K : PySem.W.Frag) : Sp := fun vs H Q _ => ∃ (l : Addr) (xs : List Int), vs = [.ref l] ∧ SqL K H l (xs.map V.int) ∧ xs.length < 64 ∧
  ∀ H' t B, Same H H' → BagAt K H' t B → (flat B).Perm xs → Q (.ref t) H'
theorem sc_bag : FnScope ["_law_numbers", "_law_number"] ["_law_numbers"] (defScope sBag) := ⟨rfl, rfl, rfl, by decide +kernel, rfl, by decide +kernel, by decide +kernel⟩
def cntB (xs ks : List Int) : Bag := ks.map fun k => (k, xs.count k)
theorem cntB_isB {xs ks : List Int} (h : ks.Pairwise (· < ·)) (hk : ∀ k ∈ ks, k ∈ xs) : IsB (cntB xs ks) := by
  refine ⟨List.pairwise_map.mpr h, fun p hp => ?_⟩
  obtain ⟨k, hk', e⟩ := List.mem_map.mp hp
  rw [← e]
  exact List.count_pos_iff.mpr (hk k hk')
theorem cntB_count {xs : List Int} (x : Int) : ∀ {ks : List Int}, ks.Nodup → (flat (cntB xs ks)).count x = if x ∈ ks then xs.count x else 0
  | [], _ => by simp [cntB, flat_nil]
  | k :: ks, h => by
    have ih := cntB_count (xs := xs) x (List.nodup_cons.mp h).2
    show (flat ((k, xs.count k) :: cntB xs ks)).count x = _
    rw [count_cons, ih]
    by_cases e : k = x
    · have h1 : x ∉ ks := e ▸ (List.nodup_cons.mp h).1
      subst e
      simp [h1]
    · have h1 : ¬ x = k := fun z => e z.symm
      simp [e, h1]
theorem cntB_flat {xs ks : List Int} (h : ks.Pairwise (· < ·)) (hk : ∀ k : Int, k ∈ ks ↔ decide (k ∈ xs) = true) : (flat (cntB xs ks)).Perm xs := by
  refine List.perm_iff_count.mpr fun x => ?_
  rw [cntB_count x (h.imp fun q => Int.ne_of_lt q)]
  by_cases e : x ∈ xs
  · rw [if_pos ((hk x).mpr (decide_eq_true e))]
  · rw [if_neg (fun z => e (of_decide_eq_true ((hk x).mp z))), List.count_eq_zero.mpr e]
theorem ok_bag (fr : Free mg) (D : DfP K mg sBag) : Cal P w K mg base 2 "_law_bag" (spBag K) := by
  refine cal_of D (ps := ["_law_numbers"]) sc_bag (fun vs H Q E h => by obtain ⟨t, m, rfl, _⟩ := h; rfl) (fun _ _ _ _ _ _ us hl => match us, hl with | [_], _ => rfl) fun cdv f A outer s H vs Q E hr h => ?_
  obtain ⟨l, xs, rfl, hl, hn, hQ⟩ := h
  have nd := sc_bag.nd
  refine ⟨_, pss_one (ps_ret (pe_callTy call_tupF (by rfl) (fr _ (by decide)) (by decide +kernel) (pa_cons (pe_lc (own := [("_law_number", 1)]) (g := gName 1) (tt := tYes) (te := tTup (tCons (tVar 1) (tCons (tBM K "list" (rCntI K) (tVar 0) (tCons (tVar 1) tNil)) tNil))) rfl nd
      (pi_list (pe_callB (cr_sortedSet rfl) (by rfl) (fr _ (by decide)) (by decide +kernel) (pa_cons (pe_callTy (call_setInts rfl) (by rfl) (fr _ (by decide)) (by decide +kernel) (pa_cons (L2.pv 0) pa_nil)) pa_nil)))
      (blkOk_by (N := ["_law_numbers", "_law_number"]) (sc := defScope sBag) (by decide +kernel))
      (fun _ _ _ _ _ => pg_name (i := 1) nd rfl (Or.inl rfl)) (fun _ _ _ _ _ => pts_nil)
      (fun _ _ _ _ _ => pe_tup (pa_cons (L2.pv 1) (pa_cons (pe_bm (r := rCntI K) PySem.F.plainAttrs_list PySem.F.slot_list_count PySem.F.type_list_count mt_lcount (L2.pv 0) (pa_cons (L2.pv 1) pa_nil)) pa_nil)))) pa_nil))), ?_⟩
  refine ⟨_, rfl, l, xs, rfl, hl, hn, fun a c ha hc => ?_⟩
  have s1 : Same H (upd H a (SetO w a (fun j => decide (j ∈ xs)) c)) := same_upd ha
  refine ⟨a, _, c, rfl, upd_same, by omega, fun ks p h1 h2 h3 hp => ?_⟩
  have s2 : Same H (upd (upd H a (SetO w a (fun j => decide (j ∈ xs)) c)) p (.lst (ks.map V.int))) := fun v o e => same_upd hp _ _ (s1 _ _ e)
  refine ⟨p, rfl, ⟨_, SqL.of upd_same⟩, fun d hd => ?_⟩
  obtain ⟨HH, hHH⟩ : ∃ HH : Hp, HH = upd (upd H a (SetO w a (fun j => decide (j ∈ xs)) c)) p (.lst (ks.map V.int)) := ⟨_, rfl⟩
  have hpH : HH p = some (.lst (ks.map V.int)) := by rw [hHH]; exact upd_same
  have hd' : HH d = none := by rw [hHH]; exact hd
  have s2' : Same H HH := by rw [hHH]; exact s2
  have s0 : Same HH (upd (upd (upd H a (SetO w a (fun j => decide (j ∈ xs)) c)) p (.lst (ks.map V.int))) d (.lst [])) := by rw [hHH]; exact same_upd hd
  refine lc_it (walk_list (xs := ks.map V.int)) (fun i H2 => Same HH H2 ∧ ∃ as, H2 d = some (.lst (as.map V.ref)) ∧ PairsAt K H2 as (cntB xs (ks.take i)) ∧ as.length = i) ⟨s0, [], upd_same, .nil, rfl⟩ (fun i H2 _ h => SqL.of (h.1 _ _ hpH)) (fun i x H1 H2 hi h y => ?_) (fun H2 h => ?_)
  · obtain ⟨g1, as, g2, g3, g4⟩ := h
    obtain ⟨rfl, hx⟩ := y
    rw [List.getElem?_map, Option.map_eq_some_iff] at hx
    obtain ⟨k, hk, rfl⟩ := hx
    have hi' : i < ks.length := (List.getElem?_eq_some_iff.mp hk).1
    have hsl : SqL K H2 l (xs.map V.int) := sql_same (fun v o e => g1 _ _ (s2' _ _ e)) hl
    refine ⟨rfl, ?_⟩
    refine ⟨_, rfl, _, rfl, .inl ⟨rfl, _, hsl⟩, _, rfl, l, xs, k, rfl, rfl, hsl, by show 2 ≤ sizeLine; decide, fun q hq => ?_⟩
    have nq : d ≠ q := ne_of_none g2 hq
    have sq : ∀ (u : HO) (b : Addr) (o : HO), H2 b = some o → b ≠ d → (upd (upd H2 q (.tup [.int k, .int ((xs.count k : Nat) : Int)])) d u) b = some o := fun u b o e z => by
      rw [upd_ne z, upd_ne (ne_of_none e hq)]
      exact e
    refine ⟨_, by rw [upd_ne nq]; exact g2, small1000 (by rw [List.length_map]; omega), (fun v o e => sq _ _ _ (g1 v o e) (fun z => by rw [z, hd'] at e; cases e)), as ++ [q], by rw [upd_same, List.map_append]; rfl, ?_, by simp [g4]⟩
    have ec : cntB xs (ks.take (i + 1)) = cntB xs (ks.take i) ++ [(k, xs.count k)] := by unfold cntB; rw [take_snoc hk, List.map_append]; rfl
    rw [ec]
    refine paired_snoc (F := fun (a : Addr) (p : Int × Nat) => SqT K _ a (prV p)) (Paired.imp (fun a p hs => ?_) g3) (SqT.of ?_)
    · rcases hs with (hs | ⟨o, hs⟩) | hs
      · exact .inl (.inl (sq _ _ _ hs fun z => by rw [z, g2] at hs; cases hs))
      · exact .inl (.inr ⟨o, sq _ _ _ hs fun z => by rw [z, g2] at hs; cases hs⟩)
      · exact .inr hs
    · rw [upd_ne nq.symm, upd_same]
  · obtain ⟨g1, as, g2, g3, g4⟩ := h
    rw [List.length_map, List.take_length] at g3
    refine ⟨d, _, rfl, SqL.of g2, fun t o ht ho => ?_⟩
    have s3 : Same H2 (upd H2 t (.frz o (.tup (as.map V.ref)))) := same_upd ht
    refine hQ _ t (cntB xs ks) (fun v u e => s3 _ _ (g1 _ _ (s2' _ _ e))) ⟨cntB_isB h1 (fun k hk => of_decide_eq_true ((h2 k).mp hk)), ?_, as, .inl ⟨o, upd_same, ho⟩, g3.same s3⟩ (cntB_flat h1 h2)
    unfold cntB
    rw [List.length_map]
    omega
end
end Gk

/-! Si -/
set_option Elab.async false
set_option linter.all false
set_option maxRecDepth 100000
set_option maxHeartbeats 1000000
namespace Gk
open PySem PySem.Spec PyProof.Rows L2
/-! ### what the removals hand out -/
abbrev vOf : Option Int → List V
  | some x => [.str "insert", .int x, .int 1]
  | none => [.str "remove", .int 1]
def itm : Sx → List (Option Int)
  | .ins x => [some x]
  | .rem n => List.replicate n none
def itms (ps : List Sx) : List (Option Int) := ps.flatMap itm
theorem outs_itms (ps : List Sx) : ps.flatMap Sx.outs = (itms ps).map vOf := by
  unfold itms
  rw [List.map_flatMap]
  congr 1
  funext st
  cases st with
  | ins x => rfl
  | rem n =>
    show List.replicate n [V.str "remove", V.int 1] = (List.replicate n none).map vOf
    rw [List.map_replicate]
theorem itms_len (ps : List Sx) : (itms ps).length = remN ps := by
  rw [← outs_len, outs_itms, List.length_map]
/-- from the contents ℓ, sorted, through the steps es, to nothing: rs is what is removed -/
inductive Sim : List Int → List (Option Int) → List Int → Prop where
  | nil : Sim [] [] []
  | ins {ℓ ℓ' : List Int} {x : Int} {es : List (Option Int)} {rs : List Int} (h : ℓ'.Pairwise (· ≤ ·)) (p : ℓ'.Perm (ℓ ++ [x])) (t : Sim ℓ' es rs) : Sim ℓ (some x :: es) rs
  | rem {ℓ : List Int} {y : Int} {es : List (Option Int)} {rs : List Int} (t : Sim ℓ es rs) : Sim (y :: ℓ) (none :: es) (y :: rs)
theorem Sim.app {ℓ es rs es2 rs2} (a : Sim ℓ es rs) (b : Sim [] es2 rs2) : Sim ℓ (es ++ es2) (rs ++ rs2) := by
  induction a with
  | nil => exact b
  | ins h p t ih => exact .ins h p ih
  | rem t ih => exact .rem ih
theorem Sim.rems : ∀ ℓ : List Int, Sim ℓ (List.replicate ℓ.length none) ℓ
  | [] => .nil
  | y :: ℓ => .rem (Sim.rems ℓ)
def srt (l : List Int) : List Int := l.mergeSort fun a b => decide (a ≤ b)
theorem srt_perm (l : List Int) : (srt l).Perm l := List.mergeSort_perm l _
theorem srt_sorted (l : List Int) : (srt l).Pairwise (· ≤ ·) := by
  have := List.pairwise_mergeSort (le := fun a b : Int => decide (a ≤ b)) (fun a b c h1 h2 => by simp at *; omega) (fun a b => by simp; omega) l
  exact this.imp fun h => of_decide_eq_true h
theorem Sim.inss : ∀ (xs : List Int) {ℓ ℓ2 : List Int} {es rs}, ℓ.Pairwise (· ≤ ·) → ℓ2.Pairwise (· ≤ ·) → ℓ2.Perm (ℓ ++ xs) → Sim ℓ2 es rs → Sim ℓ (xs.map some ++ es) rs
  | [], ℓ, ℓ2, es, rs, h1, h2, p, s => by
    rw [List.append_nil] at p
    rw [← sorted_eq h2 h1 p]
    exact s
  | x :: xs, ℓ, ℓ2, es, rs, h1, h2, p, s =>
    .ins (srt_sorted (ℓ ++ [x])) (srt_perm _) (Sim.inss xs (srt_sorted _) h2 (p.trans (by
      have e : ℓ ++ x :: xs = (ℓ ++ [x]) ++ xs := by simp
      rw [e]
      exact ((srt_perm (ℓ ++ [x])).symm).append_right _)) s)
theorem itms_app (a b : List Sx) : itms (a ++ b) = itms a ++ itms b := by unfold itms; rw [List.flatMap_append]
theorem itms_ins (xs : List Int) : itms (xs.map Sx.ins) = xs.map some := by
  induction xs with
  | nil => rfl
  | cons x xs ih =>
    show [some x] ++ itms (xs.map Sx.ins) = _
    rw [ih]
    rfl
/-- sorting by a heap -/
theorem sim_insP {xs rs : List Int} (h : rs.Pairwise (· ≤ ·)) (p : rs.Perm xs) : Sim [] (itms (insP xs)) rs := by
  unfold insP
  rw [itms_app, itms_ins]
  refine Sim.inss xs List.Pairwise.nil h (by rw [List.nil_append]; exact p) ?_
  have e : itms [.rem xs.length] = List.replicate rs.length none := by
    show List.replicate xs.length none ++ [] = _
    rw [List.append_nil, p.length_eq]
  rw [e]
  exact Sim.rems rs
theorem Sim.sorted_next {ℓ : List Int} {x : Int} {es rs} (s : Sim ℓ (some x :: es) rs) : ∃ ℓ', ℓ'.Pairwise (· ≤ ·) ∧ ℓ'.Perm (ℓ ++ [x]) ∧ Sim ℓ' es rs := by
  cases s with
  | ins h p t => exact ⟨_, h, p, t⟩
theorem Sim.rem_next {ℓ : List Int} {es rs} (s : Sim ℓ (none :: es) rs) : ∃ y ℓ' rs', ℓ = y :: ℓ' ∧ rs = y :: rs' ∧ Sim ℓ' es rs' := by
  cases s with
  | rem t => exact ⟨_, _, _, rfl, rfl, t⟩
theorem Sim.nil_next {ℓ : List Int} {rs} (s : Sim ℓ [] rs) : ℓ = [] ∧ rs = [] := by cases s; exact ⟨rfl, rfl⟩
theorem rev_at {α : Type} (d : List α) (x : α) (t : List α) : (d ++ x :: t).reverse[t.length]? = some x := by
  rw [List.reverse_append, List.reverse_cons, List.append_assoc, List.getElem?_append_right (by simp), List.length_reverse, Nat.sub_self]
  rfl
end Gk

/-! Ow -/
set_option Elab.async false
set_option linter.all false
set_option maxRecDepth 100000
set_option maxHeartbeats 1000000
namespace Gk
open PySem PySem.Spec PyProof.Rows L2
/-! ### an outer generator goes to sleep, and is woken -/
section
variable {Bo : Bd} {TT : Addr → Option (List V)} {pv : List Addr} {ip : List (Addr × Obj)} {σ : L2.St} {H : Hp} {s₀ s1 : Shared} {c : Addr} {Bg : Bag}
abbrev ghOf (Bo : Bd) (H : Hp) (ip : List (Addr × Obj)) (sl : List (Nat × GenState)) (exl : List (Addr × Obj)) : Gh := ⟨tups H, Bo.L :: ip.map (·.1), sl, exl⟩
/-- what is had when it is woken -/
structure Woke (Bo : Bd) (H : Hp) (ip : List (Addr × Obj)) (σ : L2.St) (c : Addr) (Bg : Bag) (s3 : Shared) : Prop where
  inv : Inv (Bo.cx (tups H) (Bo.L :: ip.map (·.1)) s3) ip σ (hpT Bo (tups H) (Bo.L :: ip.map (·.1)) s3.heap) s3
  bag : BagAt Bo.K (hpT Bo (tups H) (Bo.L :: ip.map (·.1)) s3.heap) c Bg
  rd : ∀ b xs, Rd H b (.tup xs) → Rd (hpT Bo (tups H) (Bo.L :: ip.map (·.1)) s3.heap) b (.tup xs)
  sz : Bo.L < s3.heap.objs.size
  tf : ∀ b ∈ frs Bo.outer, tups H b = none
theorem o_sleep (ok : Bo.Ok) (I : Inv (Bo.cx TT pv s₀) ip σ H s1) (hS : Same (hpT Bo TT pv s₀.heap) H) (hge : ∀ p ∈ ip, Bo.L ≤ p.1) (hB : BagAt Bo.K H c Bg) (hTf : ∀ b ∈ frs Bo.outer, TT b = none) :
    ∃ exl : List (Addr × Obj), ∀ (gok : Nat → Prop) (gh : Gh) (sl : List (Nat × GenState)), gh.pv = pv → (∀ p ∈ sl, (gok p.1 ∧ s1.gens[p.1]? = some p.2) ∨ (¬ gok p.1 ∧ p.2 = .running)) →
      Kept (frs Bo.outer) pv s₀ s1 ∧ Told Bo (fun _ => True) gok gh (ghOf Bo H ip sl exl) s₀ s1 ∧ ∀ s3, Back Bo (ghOf Bo H ip sl exl) s1 s3 → Woke Bo H ip σ c Bg s3 := by
  have U1 : Up Bo (tups H) (Bo.L :: ip.map (·.1)) ip σ s1 := Up.of ok I (fun b xs e => tups_rd e) List.mem_cons_self (fun b hb => by
    rcases List.mem_cons.mp hb with e | hb
    · rw [e]; exact ⟨Nat.le_refl _, I.free⟩
    · obtain ⟨p, hp, e⟩ := List.mem_map.mp hb
      rw [← e]
      exact ⟨hge p hp, (I.pin p (List.mem_append_right _ hp)).2.1⟩) (fun p hp => List.mem_cons_of_mem _ (List.mem_map.mpr ⟨p, hp, rfl⟩))
  have tf : ∀ b ∈ frs Bo.outer, tups H b = none := fun b hb => by
    have hn : H b = none := I.stkFree b (by
      show b ∈ frs (Bo.env :: Bo.outer)
      unfold frs
      rw [List.filterMap_cons, ok.fr]
      exact List.mem_cons_of_mem _ hb)
    cases q : tups H b with
    | none => rfl
    | some xs =>
      rcases tups_rd q with r | ⟨o, r⟩
      · rw [hn] at r; cases r
      · rw [hn] at r; cases r
  obtain ⟨as, f1, f2⟩ := hB.ex
  have main : ∃ exl : List (Addr × Obj), (∀ p ∈ exl, s1.heap.get? p.1 = some p.2 ∧ p.2.cls = .type "tuple") ∧ ∀ s3 : Shared, (∀ p ∈ exl, s3.heap.get? p.1 = some p.2) → FqT Bo.K (hpT Bo (tups H) (Bo.L :: ip.map (·.1)) s3.heap) c (as.map V.ref) := by
    rcases f1 with ⟨o, q, d⟩ | q
    · obtain ⟨ho, _, _, _, o', ho', hc', _⟩ := (show ObjOk Bo.prog Bo.w H s1.heap c (.frz o (.tup (as.map V.ref))) from I.hok c _ q)
      rw [ho] at ho'
      cases ho'
      refine ⟨[(c, o)], fun p hp => by rw [List.mem_singleton.mp hp]; exact ⟨ho, hc'⟩, fun s3 h3 => .inl ⟨o, hpT_tt (rd_tups (.inr ⟨o, q⟩)) (h3 (c, o) List.mem_cons_self), d⟩⟩
    · exact ⟨[], fun p hp => (nomatch hp), fun s3 _ => .inr q⟩
  obtain ⟨exl, x1, x2⟩ := main
  refine ⟨exl, fun gok gh sl hpv hsl => ⟨kept_inv ok (fun b hb _ => hTf b hb) I hS, ⟨trivial, fun b xs e => (U1.tt b xs e).1.2, fun b hb => ?_, hsl, x1⟩, fun s3 Bk => ?_⟩⟩
  · have hb' := U1.pvA b hb
    have hHb : H b = none := by
      rcases List.mem_cons.mp hb with e | hb
      · rw [e]; exact I.free
      · obtain ⟨p, hp, e⟩ := List.mem_map.mp hb
        rw [← e]
        exact (I.pin p (List.mem_append_right _ hp)).2.1
    refine ⟨?_, hb', ?_⟩
    · rw [hpv]
      exact hpT_none (hS.free hHb) hb'
    · rcases List.mem_cons.mp hb with e | hb
      · obtain ⟨m, ⟨o, es, ep, ho, hd, _⟩, _⟩ := I.loc
        rw [e]
        exact ⟨o, ho, fun v z => by rw [hd] at z; cases z⟩
      · obtain ⟨p, hp, e⟩ := List.mem_map.mp hb
        obtain ⟨q1, _, _, _, q5⟩ := I.pin p (List.mem_append_right _ hp)
        rw [← e]
        exact ⟨p.2, q1, q5⟩
  · have U3 : Up Bo (tups H) (Bo.L :: ip.map (·.1)) ip σ s3 := U1.move Bk.bare Bk.base Bk.funs Bk.priv Bk.tt
    have hex : ∀ b ys, tups H b = some ys → ∃ o, s3.heap.get? b = some o := fun b xs e => let ⟨⟨_, _, _, o, ho, _⟩, _⟩ := U3.tt b xs e; ⟨o, ho⟩
    exact ⟨U3.inv ok, ⟨hB.isB, hB.len, as, x2 s3 Bk.ex, Paired.imp (fun _ _ q => sqt_tups hex q) f2⟩, fun b xs r => (by
      obtain ⟨o, ho⟩ := hex b xs (rd_tups r)
      exact .inr ⟨o, hpT_tt (rd_tups r) ho⟩), let ⟨_, hm, _⟩ := U3.loc; hm.lt, tf⟩
end
/-- .. a plain statement, and the table's size -/
theorem sg_nxz {P : Program} {w : World} {A : Around} {F : End → Shared → Prop} {s₀ s : Shared} {c : Code} {fs : List Frame} {K : Flow → Sem PySem.Fin} {J : Value → Sem PySem.Fin} {gd : Bool → Bool} {lv : List Value → List Value} {B : Bd} {TT : (Addr → Option (List V))} {pv : List Addr} {ip : List (Addr × Obj)} {σ : L2.St} {H : Hp} {st : Stmt} {rest : List Stmt} {t : TS} {N : L2.St → Hp → Prop} (h : PS (B.cx TT pv s₀) st t) (hA : A.over c fs = B.A) (I : Inv (B.cx TT pv s₀) ip σ H s)
    (ht : t { nx := N, rt := fun _ _ => False } σ H)
    (k : ∀ σ' H' s', s.gens.size ≤ s'.gens.size → Inv (B.cx TT pv s₀) ip σ' H' s' → N σ' H' → Go (model B.prog B.w) A F c ((execs rest B.env).wrap K J gd lv) fs s') : Go (model B.prog B.w) A F c ((execs (st :: rest) B.env).wrap K J gd lv) fs s := by
  refine go_cons (go_wrap ?_)
  rw [hA]
  refine GenW.wpAny_gsz (Nat.le_refl s.gens.size) (wpAny_mono (h.run ip s σ H _ I ht) (fun f s' hs hz => ?_) fun _ _ z => False.elim z)
  cases f with
  | next => obtain ⟨σ', H', I', q⟩ := hs; exact k σ' H' s' hz I' q
  | brk => obtain ⟨_, _, _, q⟩ := hs; exact q.elim
  | cont => obtain ⟨_, _, _, q⟩ := hs; exact q.elim
  | ret u => obtain ⟨_, _, _, _, _, q⟩ := hs; exact q.elim
end Gk

/-! Og1 -/
set_option Elab.async false
set_option linter.all false
set_option maxRecDepth 100000
set_option maxHeartbeats 1000000
namespace Gk
open PySem PySem.Spec PyProof.Rows L2
def ifBody : Stmt → List Stmt
  | .If _ b _ _ => b
  | _ => []
def asgE : Stmt → Expr
  | .Assign _ e _ => e
  | _ => .Name "" ⟨0, 0, 0, 0⟩
/-! ### removed_along: its loop -/
abbrev oN : List Str := ["bag", "program", "limit", "contents", "index", "step"]
theorem oN_nd : oN.Nodup := by decide +kernel
abbrev stAt (l : List Stmt) (i : Nat) : Stmt := l.getD i (.Pass ⟨0, 0, 0, 0⟩)
abbrev rFor : Stmt := stAt (defBody sRemoved) 5
abbrev rIf : Stmt := stAt (forBd rFor) 0
abbrev rIf2 : Stmt := stAt (ifElse rIf) 0
abbrev rSet : Stmt := stAt (ifBody rIf) 0
abbrev rYield : Stmt := stAt (ifElse rIf2) 0
abbrev rDrop : Stmt := stAt (ifElse rIf2) 1
def rB (P : Program) (w : World) (K : PySem.W.Frag) (mg : Str → Option Value) (base : Heap) (L f : Addr) (cd : Value) (A : Around) (outer : List Env) : Bd where
  prog := P
  w := w
  K := K
  mg := mg
  base := base
  A := A.deeper (envOfC "removed_along" (defScope sRemoved) L f cd)
  N := oN
  env := envOfC "removed_along" (defScope sRemoved) L f cd
  outer := outer
def rIt (R : List Int) : Nat → Gh → Gh → Shared → Value → Shared → Prop := fun n _ _ _ v _ => ∃ x tk, v = .int x tk ∧ R.reverse[n]? = some x
theorem bagD_shaped (I : Bag) : SeqAt.shaped (bagD I) = true := by
  have h1 := bagD_lay I
  have h2 := bagD_depth I
  unfold SeqAt.shaped
  rw [Bool.and_eq_true, decide_eq_true_eq]
  constructor
  · simp [bagD, PyData.canLay0, h1]
  · simp only [bagD, PyData.depth]
    omega
theorem bagD_ne {p : Int × Nat} {I : Bag} : PyData.eqv (bagD (p :: I)) (.tuple []) = false := by
  simp [bagD, PyData.eqv, PyData.eqvAll]
section
variable {P : Program} {w : World} {K : PySem.W.Frag} {mg : Str → Option Value} {base : Heap} {L f : Addr} {cd : Value} {A : Around} {outer : List Env} {TT : Addr → Option (List V)} {pv : List Addr} {s₀ : Shared} {j : Nat}
theorem r_test : ∃ t, PT ((rB P w K mg base L f cd A outer).cx TT pv s₀) (ifTest rIf) t ∧ ∀ (σ : L2.St) (H : Hp) (a : Addr) (it : Option Int) (Q : Bool → Hp → Prop), σ[5]? = some (some (.ref a)) → SqT K H a (vOf it) → Q it.isSome H → t σ H Q := by
  refine ⟨_, pt_cmpR op_eq (pe_ix ix_tup (L2.pv 5) pe_int (fun _ _ => rfl)) pe_str (nomark _), fun σ H a it Q hσ ha hQ => ?_⟩
  cases it with
  | some x => exact ⟨_, hσ, a, _, _, .str "insert", rfl, rfl, ha, rfl, rfl, true, rfl, hQ⟩
  | none => exact ⟨_, hσ, a, _, _, .str "remove", rfl, rfl, ha, rfl, rfl, false, rfl, hQ⟩
theorem r_set (cA : Cal P w K mg base 3 "add" (spAdd K)) (hr : Room j (rB P w K mg base L f cd A outer).A) (hj : 3 ≤ j) : ∃ t, PS ((rB P w K mg base L f cd A outer).cx TT pv s₀) rSet t ∧ ∀ (D : Ends) (σ : L2.St) (H : Hp) (a c : Addr) (x : Int) (B : Bag), σ[5]? = some (some (.ref a)) → σ[3]? = some (some (.ref c)) → SqT K H a (vOf (some x)) → BagAt K H c B → B.length ≤ 500 →
    (∀ H' c' R, Same H H' → BagAt K H' c' R → (flat R).Perm (flat B ++ [x]) → D.nx (σ.set 3 (some (.ref c'))) H') → t D σ H := by
  refine ⟨_, ps_set (i := 3) oN_nd rfl (Or.inl rfl) (pe_cl cA hr hj (by rfl) (pa_cons (L2.pv 3) (pa_cons (pe_tupF (pa_cons (pe_tup (pa_cons (pe_ix ix_tup (L2.pv 5) pe_int (fun _ _ => rfl)) (pa_cons pe_int pa_nil))) pa_nil)) pa_nil))), fun D σ H a c x B h5 h3 ha hc hl hQ => ?_⟩
  refine ⟨_, h3, _, h5, a, _, 1, .int x, rfl, rfl, ha, rfl, by show 2 ≤ sizeLine; decide, fun q hq => ⟨by show 1 ≤ sizeLine; decide, fun t o ht ho => ?_⟩⟩
  have nqt : q ≠ t := ne_of_none (H := upd H q (.tup [.int x, .int 1])) upd_same ht
  have s1 : Same H (upd (upd H q (.tup [.int x, .int 1])) t (.frz o (.tup [.ref q]))) := fun v u e => same_upd ht _ _ (same_upd hq _ _ e)
  refine ⟨c, t, B, [(x, 1)], rfl, hc.same s1, ⟨(Unit1.one x).isB, by show 1 ≤ 1000; decide, [q], .inl ⟨o, upd_same, ho⟩, .cons (SqT.of (by rw [upd_ne nqt, upd_same]; rfl)) .nil⟩, by simp; omega, fun H' t' R h1 _ hR pR => ?_⟩
  exact hQ H' t' R (fun v u e => h1 _ _ (s1 _ _ e)) hR pR
theorem r_test2 (hr : Room j (rB P w K mg base L f cd A outer).A) : ∃ t, PT ((rB P w K mg base L f cd A outer).cx TT pv s₀) (ifTest rIf2) t ∧ ∀ (σ : L2.St) (H : Hp) (c : Addr) (p : Int × Nat) (B : Bag) (Q : Bool → Hp → Prop), σ[3]? = some (some (.ref c)) → BagAt K H c (p :: B) → (∀ H', Same H H' → Q false H') → t σ H Q := by
  refine ⟨_, pt_cmpR (op_eqD hr.units) (L2.pv 3) (pe_tup pa_nil) (nomark _), fun σ H c p B Q h3 hc hQ => ?_⟩
  refine ⟨_, h3, Nat.zero_le _, fun q hq => ?_⟩
  have s1 := same_upd (o := .tup []) hq
  exact ⟨bagD (p :: B), .tuple [], dp_bag (hc.same s1), .tup (SqT.of upd_same) .nil, bagD_shaped _, by decide +kernel, false, by rw [bagD_ne], hQ _ s1⟩
theorem r_head : ∃ t, PE ((rB P w K mg base L f cd A outer).cx TT pv s₀) (yieldE rYield) t ∧ ∀ (σ : L2.St) (H : Hp) (c : Addr) (p : Int × Nat) (B : Bag) (Q : VK), σ[3]? = some (some (.ref c)) → BagAt K H c (p :: B) → Q (.int p.1) H → t σ H Q := by
  refine ⟨_, pe_ix ix_tup (pe_ix ix_tup (L2.pv 3) pe_int (fun _ _ => rfl)) pe_int (fun _ _ => rfl), fun σ H c p B Q h3 hc hQ => ?_⟩
  obtain ⟨as, h1, h2⟩ := hc.ex
  cases h2 with
  | @cons b _ as _ hb ht => exact ⟨_, h3, c, _, 0, .ref b, rfl, rfl, h1.sq, (show atI ((b :: as).map V.ref) ((0 : Nat) : Int) = _ from atI_nat rfl), b, _, 0, .int p.1, rfl, rfl, hb, rfl, hQ⟩
theorem r_drop (cD : Cal P w K mg base 2 "drop" (spDrop K)) (hr : Room j (rB P w K mg base L f cd A outer).A) (hj : 2 ≤ j) : ∃ t, PS ((rB P w K mg base L f cd A outer).cx TT pv s₀) rDrop t ∧ ∀ (D : Ends) (σ : L2.St) (H : Hp) (c : Addr) (B : Bag), σ[3]? = some (some (.ref c)) → BagAt K H c B →
    (∀ H' c', Same H H' → BagAt K H' c' (dropB 1 B) → D.nx (σ.set 3 (some (.ref c'))) H') → t D σ H := by
  refine ⟨_, ps_set (i := 3) oN_nd rfl (Or.inl rfl) (pe_cl cD hr hj (by rfl) (pa_cons (L2.pv 3) (pa_cons pe_int pa_nil))), fun D σ H c B h3 hc hQ => ?_⟩
  exact ⟨_, h3, c, B, 1, rfl, hc, fun H' c' h1 _ hB => hQ H' c' h1 hB⟩
end
end Gk

/-! Og2 -/
set_option Elab.async false
set_option linter.all false
set_option maxRecDepth 100000
set_option maxHeartbeats 2000000
namespace Gk
open PySem PySem.Spec PyProof.Rows L2
theorem EnSt.os_eq {M : Model} {Bi : Bd} {Aw : Around} {outs : List (List V)} {TTi : Addr → Option (List V)} {e a : Addr} {g n i : Nat} {pl : List (Addr × Obj)} {gh : Gh} {gs : GenState} {os os' : OsState} (S : EnSt M Bi Aw outs TTi e a g n i pl gh gs os) (h : os = os') : EnSt M Bi Aw outs TTi e a g n i pl gh gs os' := h ▸ S
theorem EnSt.pl_ge {M : Model} {Bi : Bd} {Aw : Around} {outs : List (List V)} {TTi : Addr → Option (List V)} {e a : Addr} {g n i : Nat} {pl : List (Addr × Obj)} {gh : Gh} {gs : GenState} {os : OsState} (S : EnSt M Bi Aw outs TTi e a g n i pl gh gs os) : ∀ p ∈ pl, Bi.L ≤ p.1 := fun p hp => by
  rcases S.only p hp with q | q | q
  · rw [q]; exact S.gee
  · rw [q]; exact S.gea
  · exact S.ge _ q
theorem rd_same {H H' : Hp} {b : Addr} {u : HO} (e : Same H H') (h : Rd H b u) : Rd H' b u := by
  rcases h with h | ⟨o, h⟩
  · exact .inl (e _ _ h)
  · exact .inr ⟨o, e _ _ h⟩
section
variable {P : Program} {w : World} {K : PySem.W.Frag} {mg : Str → Option Value} {base : Heap} {L f Li fi : Addr} {cd ci : Value} {A : Around} {outer : List Env} {j : Nat} {e a : Addr} {g : Nat} {TTi : Addr → Option (List V)} {outs : List (List V)} {R : List Int} {gok : Nat → Prop}
abbrev rEnv (L f : Addr) (cd : Value) : Env := envOfC "removed_along" (defScope sRemoved) L f cd
theorem r_loop (ok : (rB P w K mg base L f cd A outer).Ok) (cA : Cal P w K mg base 3 "add" (spAdd K)) (cD : Cal P w K mg base 2 "drop" (spDrop K)) (hr : Room j (rB P w K mg base L f cd A outer).A) (hj : 3 ≤ j) (hLi : L < Li) (hgok : gok g)
    {k1 : Result → Sem PySem.Fin} {p1 : Pos} {h1 : List Value} (hk1 : k1 (.ok .next) = leafOf (.ok (.ret .none))) :
    ∀ (es : List (Option Int)) (dE : List (Option Int)) (rs dR : List Int) (gh : Gh) (s₀ s : Shared) (σ : L2.St) (H : Hp) (pl : List (Addr × Obj)) (ghi : Gh) (gs : GenState) (i : Nat) (c : Addr) (Bg : Bag),
      outs = (dE ++ es).map vOf → R = dR ++ rs → Sim (flat Bg) es rs → (flat Bg).length + es.length ≤ 500 →
      Inv ((rB P w K mg base L f cd A outer).cx gh.TT gh.pv s₀) pl σ H s → Same (hpT (rB P w K mg base L f cd A outer) gh.TT gh.pv s₀.heap) H → (∀ b ∈ frs outer, gh.TT b = none) → σ[3]? = some (some (.ref c)) → BagAt K H c Bg → s.gens[g]? = some gs →
      EnSt (model P w) (eB P w K mg base Li fi ci (rB P w K mg base L f cd A outer).A.in1.in1 (rEnv L f cd :: outer)) (rB P w K mg base L f cd A outer).A.in1.in1 outs TTi e a g es.length i pl ghi gs s.os → (∀ b xs, TTi b = some xs → Rd H b (.tup xs)) →
      Go (model P w) A (Post (model P w) (rB P w K mg base L f cd A outer) A (rIt R) (fun _ => True) gok rs.length gh s₀) (.forLoop (forTg rFor) (.ref e) (forBd rFor) [] (rEnv L f cd)) ((model P w).den (.forLoop (forTg rFor) (.ref e) (forBd rFor) [] (rEnv L f cd)))
        [.ret k1 none false h1 (.func (defBody sRemoved) (rEnv L f cd)) p1 []] s := by
  have ov : ∀ tg it body, A.over (.forLoop tg it body [] (rEnv L f cd)) [.ret k1 none false h1 (.func (defBody sRemoved) (rEnv L f cd)) p1 []] = (rB P w K mg base L f cd A outer).A := fun tg it body => (GenW.over_loop rfl rfl).trans GenW.over_func
  have hd : (rB P w K mg base L f cd A outer).A.depth < recursionLimit := hr.depth
  intro es
  induction es with
  | nil =>
    intro dE rs dR gh s₀ s σ H pl ghi gs i c Bg hO hR hsim hlen I hS hTf h3 hc hgs S hTT
    obtain ⟨_, rfl⟩ := hsim.nil_next
    refine en_done (Bo := rB P w K mg base L f cd A outer) (Bi := eB P w K mg base Li fi ci (rB P w K mg base L f cd A outer).A.in1.in1 (rEnv L f cd :: outer)) ok rfl rfl hLi (ov _ _ _) hd I hgs S hTT fun s' I' => ?_
    refine sg_done ?_
    rw [hk1]
    exact go_end (.ok (.ret .none)) ⟨.inl rfl, kept_inv ok (fun b hb _ => hTf b hb) I' hS⟩
  | cons o es ih =>
    intro dE rs dR gh s₀ s σ H pl ghi gs i c Bg hO hR hsim hlen I hS hTf h3 hc hgs S hTT
    have hσl : σ.length = 6 := I.len
    refine en_item (Bo := rB P w K mg base L f cd A outer) (Bi := eB P w K mg base Li fi ci (rB P w K mg base L f cd A outer).A.in1.in1 (rEnv L f cd :: outer)) ok rfl rfl hLi (ov _ _ _) hd
      (pg_tup rfl (pgs_cons (pg_name (i := 4) oN_nd rfl (.inl rfl)) (pgs_cons (pg_name (i := 5) oN_nd rfl (.inl rfl)) pgs_nil))) I hgs S hTT
      (N := fun t xs σ' H' => σ' = (σ.set 4 (some (.int i))).set 5 (some (.ref t)) ∧ Same H H' ∧ H' t = some (.tup xs)) (fun t T xs H1 q1 q2 q3 q4 => ⟨T, _, rfl, SqT.of q4, rfl, _, _, rfl, _, _, rfl, rfl, rfl, q2, q3⟩) fun t xs pl' gh' gs' σ' H' s' hxs I' hN hgs' hsl S' => ?_
    obtain ⟨rfl, hs1, ht⟩ := hN
    have exs : xs = vOf o := by
      have := rev_at (dE.map vOf) (vOf o) (es.map vOf)
      rw [List.length_map] at this
      have e2 : outs = dE.map vOf ++ vOf o :: es.map vOf := by rw [hO, List.map_append]; rfl
      rw [e2, this] at hxs
      exact (Option.some.inj hxs).symm
    subst exs
    have h3' : ((σ.set 4 (some (V.int i))).set 5 (some (V.ref t)))[3]? = some (some (.ref c)) := by
      rw [List.getElem?_set_ne (by decide), List.getElem?_set_ne (by decide)]; exact h3
    have h5' : ((σ.set 4 (some (V.int i))).set 5 (some (V.ref t)))[5]? = some (some (.ref t)) := List.getElem?_set_self (by rw [List.length_set, hσl]; decide)
    have hc' := hc.same hs1
    have hS' : Same (hpT (rB P w K mg base L f cd A outer) gh.TT gh.pv s₀.heap) H' := hS.trans hs1
    have hTT' : ∀ b xs, TTi b = some xs → Rd H' b (.tup xs) := fun b xs q => rd_same hs1 (hTT b xs q)
    show Go _ A _ _ ((execs [rIf] _).wrap _ _ id id) _ s'
    refine go_cons ?_
    obtain ⟨tt, pt, rdt⟩ := r_test (P := P) (w := w) (K := K) (mg := mg) (base := base) (L := L) (f := f) (cd := cd) (A := A) (outer := outer) (TT := gh.TT) (pv := gh.pv) (s₀ := s₀)
    refine sg_if (ov _ _ _) (wpAny_mono (pt_asleep pt (fun _ _ z => z) I' (Q := fun b H1 => b = o.isSome ∧ H1 = H') (rdt _ H' t o _ h5' (SqT.of ht) ⟨rfl, rfl⟩)) (fun d s1 hh => ?_) fun _ _ z => False.elim z)
    obtain ⟨as1, H1, I1, rfl, rfl⟩ := hh
    have hgs1 := as1 g _ hgs' hsl
    have S1 := S'.os_eq (I'.os.trans I1.os.symm)
    have hlen' : (flat Bg).length + (es.length + 1) ≤ 500 := hlen
    cases o with
    | some x =>
      show Go _ A _ _ ((execs [rSet] _).wrap _ _ id id) _ s1
      obtain ⟨ℓ', l1, l2, sim'⟩ := hsim.sorted_next
      obtain ⟨t2, ps2, rd2⟩ := r_set (P := P) (w := w) (K := K) (mg := mg) (base := base) (L := L) (f := f) (cd := cd) (A := A) (outer := outer) (TT := gh.TT) (pv := gh.pv) (s₀ := s₀) cA hr hj
      refine sg_nx (B := rB P w K mg base L f cd A outer) (N := fun σ2 H2 => ∃ c2 B2, σ2 = ((σ.set 4 (some (V.int i))).set 5 (some (V.ref t))).set 3 (some (.ref c2)) ∧ Same H1 H2 ∧ BagAt K H2 c2 B2 ∧ (flat B2).Perm (flat Bg ++ [x])) ps2 (ov _ _ _) I1
        (rd2 _ _ H1 t c x Bg h5' h3' (SqT.of ht) hc' (by have := len_le_flat hc.isB; omega) fun H2 c2 B2 q1 q2 q3 => ⟨c2, B2, rfl, q1, q2, q3⟩) fun σ2 H2 s2 as2 I2 hN2 => ?_
      obtain ⟨c2, B2, rfl, q1, q2, q3⟩ := hN2
      refine go_nil (go_again rfl ?_)
      have e3 : flat B2 = ℓ' := sorted_eq (flat_sorted q2.isB) l1 (q3.trans l2.symm)
      refine ih (dE ++ [some x]) rs dR gh s₀ s2 _ H2 pl' gh' gs' (i + 1) c2 B2 (by rw [hO]; simp) hR (by rw [e3]; exact sim') (by rw [e3, l2.length_eq, List.length_append]; simp; omega) I2 (hS'.trans q1) hTf (List.getElem?_set_self (by simp [hσl])) q2 (as2 g _ hgs1 hsl) (S1.os_eq (I1.os.trans I2.os.symm)) fun b xs q => rd_same q1 (hTT' b xs q)
    | none =>
      show Go _ A _ _ ((execs [rIf2] _).wrap _ _ id id) _ s1
      obtain ⟨y, ℓ', rs', e1, rfl, sim'⟩ := hsim.rem_next
      obtain ⟨p, B1, rfl⟩ : ∃ p B1, Bg = p :: B1 := by
        cases Bg with
        | nil => rw [flat_nil] at e1; cases e1
        | cons p B1 => exact ⟨p, B1, rfl⟩
      have hp2 := hc.isB.2 p List.mem_cons_self
      have ey : y = p.1 := by
        rw [flat_cons] at e1
        obtain ⟨m, hm⟩ : ∃ m, p.2 = m + 1 := ⟨p.2 - 1, by omega⟩
        rw [hm, List.replicate_succ] at e1
        exact (List.cons.inj e1).1.symm
      have hdr : flat (dropB 1 (p :: B1)) = ℓ' := by rw [dropB_flat 1 hc.isB, e1]; rfl
      refine go_cons ?_
      obtain ⟨t2, pt2, rd2⟩ := r_test2 (P := P) (w := w) (K := K) (mg := mg) (base := base) (L := L) (f := f) (cd := cd) (A := A) (outer := outer) (TT := gh.TT) (pv := gh.pv) (s₀ := s₀) hr
      refine sg_if (ov _ _ _) (wpAny_mono (pt_asleep pt2 (fun _ _ z => z) I1 (Q := fun b H2 => b = false ∧ Same H1 H2) (rd2 _ H1 c p B1 _ h3' hc' fun H2 q => ⟨rfl, q⟩)) (fun d s2 hh => ?_) fun _ _ z => False.elim z)
      obtain ⟨as2, H2, I2, rfl, q2⟩ := hh
      show Go _ A _ _ ((execs [rYield, rDrop] _).wrap _ _ id id) _ s2
      refine go_cons ?_
      have hc2 := hc'.same q2
      obtain ⟨t3, pe3, rd3⟩ := r_head (P := P) (w := w) (K := K) (mg := mg) (base := base) (L := L) (f := f) (cd := cd) (A := A) (outer := outer) (TT := gh.TT) (pv := gh.pv) (s₀ := s₀)
      refine go_yields (NoGen.cons NoGen.nil) (ov _ _ _) ?_ (hco := rfl) (hi := rfl)
      refine wpAny_mono (pe_asleep pe3 (fun _ _ z => z) I2 (Q := fun v H3 => v = .int p.1 ∧ H3 = H2) (rd3 _ H2 c p B1 _ h3' hc2 ⟨rfl, rfl⟩)) (fun v s3 hh => ?_) fun _ _ z => False.elim z
      obtain ⟨as3, x3, H3, I3, rv, rfl, rfl⟩ := hh
      obtain ⟨tk, rfl⟩ := rv
      intro k l pos hk
      have hS3 := hS'.trans q2
      have hgs3 := as3 g _ (as2 g _ hgs1 hsl) hsl
      have S3 := (S1.os_eq (I1.os.trans I2.os.symm)).os_eq (I2.os.trans I3.os.symm)
      obtain ⟨exl, hsleep⟩ := o_sleep ok I3 hS3 (fun p hp => Nat.le_of_lt (Nat.lt_of_lt_of_le hLi (S'.pl_ge p hp))) hc2 hTf
      obtain ⟨kp, told, wake⟩ := hsleep gok gh [(g, gs')] rfl fun p hp => by rw [List.mem_singleton.mp hp]; exact .inl ⟨hgok, hgs3⟩
      refine ⟨.int p.1 tk, id false, l, k, _, pos, _, ghOf (rB P w K mg base L f cd A outer) H3 pl' [(g, gs')] exl, rfl, rfl, kp, ⟨p.1, tk, rfl, ?_⟩, told, ?_⟩
      · rw [hR, ey]
        exact rev_at dR p.1 rs'
      · rw [alv_iff]
        intro s4 Bk
        show Go _ A _ _ (k (.send .none)) _ s4
        rw [hk]
        obtain ⟨I4, bag4, rd4, sz4, tf4⟩ := wake s4 Bk
        show Go _ A _ _ ((execs [rDrop] _).wrap _ _ id id) _ s4
        obtain ⟨t5, ps5, rd5⟩ := r_drop (P := P) (w := w) (K := K) (mg := mg) (base := base) (L := L) (f := f) (cd := cd) (A := A) (outer := outer) (TT := tups H3) (pv := (rB P w K mg base L f cd A outer).L :: pl'.map (·.1)) (s₀ := s4) cD hr (by omega)
        refine sg_nx (B := rB P w K mg base L f cd A outer) (N := fun σ2 H5 => ∃ c2, σ2 = ((σ.set 4 (some (V.int i))).set 5 (some (V.ref t))).set 3 (some (.ref c2)) ∧ Same (hpT (rB P w K mg base L f cd A outer) (tups H3) ((rB P w K mg base L f cd A outer).L :: pl'.map (·.1)) s4.heap) H5 ∧ BagAt K H5 c2 (dropB 1 (p :: B1))) ps5 (ov _ _ _) I4
          (rd5 _ _ _ c (p :: B1) h3' bag4 fun H5 c5 q1 q2 => ⟨c5, rfl, q1, q2⟩) fun σ2 H5 s5 as5 I5 hN5 => ?_
        obtain ⟨c5, rfl, q5, bag5⟩ := hN5
        refine go_nil (go_again rfl ?_)
        have hgs4 : s4.gens[g]? = some gs' := Bk.sl (g, gs') List.mem_cons_self
        refine ih (dE ++ [none]) rs' (dR ++ [y]) (ghOf (rB P w K mg base L f cd A outer) H3 pl' [(g, gs')] exl) s4 s5 _ H5 pl' gh' gs' (i + 1) c5 (dropB 1 (p :: B1)) (by rw [hO]; simp) (by rw [hR]; simp) (by rw [hdr]; exact sim') (by rw [hdr]; have := congrArg List.length e1; simp at this; omega) I5 q5 tf4 (List.getElem?_set_self (by simp [hσl])) bag5 (as5 g _ hgs4 hsl)
          ((S3.os_eq Bk.os.symm).os_eq (I4.os.trans I5.os.symm)) fun b xs q => rd_same q5 (rd4 b xs (rd_same q2 (hTT' b xs q)))
end
end Gk

/-! Og3 -/
set_option Elab.async false
set_option linter.all false
set_option maxRecDepth 100000
set_option maxHeartbeats 2000000
namespace Gk
open PySem PySem.Spec PyProof.Rows L2
/-! ### the call of a generator def, in an expression -/
section
variable {X : Cx} {pins : List (Addr × Obj)} {σ : L2.St} {H : Hp} {s : Shared} {f : Addr} {fd : FuncData} {x name qual : Str} {params : Arguments} {body : List Stmt} {scope : Scope} {dv0 dvs : List V} {kws : List (Str × V)} {N ps : List Str} {ds : List Value} {k : Nat} {e : Expr} {es : List Expr} {p pos : Pos} {t : TA} {Q : Value → Shared → Prop}
theorem eval_gen (I : Inv X pins σ H s) (F : FunD X.K name qual params body scope dv0 kws f fd) (hg : Gl X x) (hm : X.mg x = some (.ref f)) (b : Binds X.K fd ps ds) (d : Vals dvs ds) (S : GScope N ps scope) (hnc : ∀ n, cellsFrom n scope.names [] = []) (hnm : ∀ y ∈ scope.names, y.2 ≠ .cell ∧ y.2 ≠ .free) (hr : Room k X.A) (ha : PA X (e :: es) t)
    (hw : t σ H fun vs H1 => (vs ++ dvs).length = ps.length ∧ ∀ cdv s1 s2 a, s.gens.size ≤ s1.gens.size → Inv X pins σ H1 s1 → Made X N qual scope f cdv body (vs ++ dvs) H1 s1 s2 a → Inv X pins σ H1 s2 → Q (.ref a) s2)
    (hdb : (x == ("__debug__" : Str)) = false := by decide) (he : starEach (e :: es) X.env = (false, eval e X.env) :: starEach es X.env := by rfl) (hpl : (backTo pos (starEach es X.env)).any (·.1) = false := by rfl) :
    wpAny (model X.prog X.w) X.A (eval (.Call (.Name x p) (e :: es) [] pos) X.env) Q X.xe s := by
  have kp := F.kp
  obtain ⟨oc, od, dV, kV, doc, pm, an, cdv, ct, osl, rfl, lk, hcd, _, _⟩ := F.ex
  refine wpAny_Call_Name_kw (ld_glob I hg hm ?_ hdb)
  refine PySem.W.callWith_K (h₀ := X.base) I.ok.mod.kin kp (GenW.wpAny_gsz (Nat.le_refl s.gens.size) (wpAny_mono (ha.run pos pins s σ H _ I hw) (fun us s1 hap hz => ?_) fun _ _ z _ => z)) he hpl
  obtain ⟨vs, H1, I1, r, hl, q⟩ := hap
  refine ⟨I1.kIn, ?_⟩
  have r2 : Vals (vs ++ dvs) (us ++ ds) := r.append d
  exact gen_made I1 lk hcd S hnc hnm hr (b s1 us I1.kIn (by rw [← r2.length]; exact hl)) hl r2 fun a s2 md I2 => q cdv s1 s2 a hz I1 md I2
end
/-! ### removed_along: from its first line -/
abbrev rP (i : Nat) : Stmt := stAt (defBody sRemoved) i
theorem eScope : GScope eN ["program"] (defScope sElem) := ⟨rfl, rfl, rfl, by decide +kernel, rfl, by decide +kernel, by decide +kernel⟩
section
variable {P : Program} {w : World} {K : PySem.W.Frag} {mg : Str → Option Value} {base : Heap} {L f : Addr} {cd : Value} {A : Around} {outer : List Env} {j : Nat}
/-- what the body needs of the module -/
structure OFac (P : Program) (w : World) (K : PySem.W.Frag) (mg : Str → Option Value) (base : Heap) : Prop where
  fr : Free mg
  cB : Cal P w K mg base 3 "check_bag" (spChkBag K)
  cP : Cal P w K mg base 5 "check_program" (spChkProg K)
  cC : Cal P w K mg base 3 "check_count" spChkCount
  cN : Cal P w K mg base 1 "count_steps" (spCount K)
  cA : Cal P w K mg base 3 "add" (spAdd K)
  cD : Cal P w K mg base 2 "drop" (spDrop K)
  dE : DfP K mg sElem
theorem r_for (O : OFac P w K mg base) (ok : (rB P w K mg base L f cd A outer).Ok) (hr : Room j (rB P w K mg base L f cd A outer).A) (hj : 6 ≤ j) {gO : Nat} {ps : List Sx} {R : List Int} {gh : Gh} {s₀ s : Shared} {σ : L2.St} {H : Hp} {pa c : Addr} {Bg : Bag} {K1 : Flow → Sem PySem.Fin} {J1 : Value → Sem PySem.Fin}
    (hK : K1 .next = leafOf (.ok (.ret .none))) (hsim : Sim (flat Bg) (itms ps) R) (hlen : (flat Bg).length + remN ps ≤ 500) (hcnt : ∀ st ∈ ps, st.cnt < 2 ^ 62)
    (I : Inv ((rB P w K mg base L f cd A outer).cx gh.TT gh.pv s₀) [] σ H s) (hS : Same (hpT (rB P w K mg base L f cd A outer) gh.TT gh.pv s₀.heap) H) (hTf : ∀ b ∈ frs outer, gh.TT b = none) (h1 : σ[1]? = some (some (.ref pa))) (h3 : σ[3]? = some (some (.ref c))) (hp : IsProg K H pa ps) (hc : BagAt K H c Bg) (hg : gO < s.gens.size) :
    Go (model P w) A (Post (model P w) (rB P w K mg base L f cd A outer) A (rIt R) (fun _ => True) (· ≠ gO) R.length gh s₀) (.func (defBody sRemoved) (rEnv L f cd)) ((exec rFor (rEnv L f cd)).wrap K1 J1 id id) [] s := by
  obtain ⟨fe, fde, FE, hme⟩ := O.dE.ex
  have bE : Binds K fde ["program"] [] := FE.bindsN fun _ _ _ _ _ _ us hl => match us, hl with | [_], _ => rfl
  refine sg_for (tg := forTg rFor) (iter := forIt rFor) (body := forBd rFor) (A' := (rB P w K mg base L f cd A outer).A) GenW.over_func ?_
  refine wpAny_Call_Name_kw (ld_blt I (by rfl) (O.fr _ (by decide)) boot_enumerate ?_ (by decide) (by decide))
  refine PyProof.Rows.callWith_type1 ?_ rfl rfl
  refine Calls.spliced_cons (eval_gen I FE (by rfl) hme bE .nil eScope (fun n => rfl) (by decide +kernel) hr (pa_cons (L2.pv 1) pa_nil) ⟨_, h1, rfl, fun ci s1 s2 a hz I1 md I2 => ?_⟩)
  refine Calls.spliced_nil ?_
  refine call_enum_gen md.gen fun h' he hz' hk => wpAny_pyIter_enum he ?_
  intro p1
  have I3 : Inv ((rB P w K mg base L f cd A outer).cx gh.TT gh.pv s₀) [] σ H { s2 with heap := h' } := I2.kept (t' := s2.toks) hk
  obtain ⟨oki, Ui⟩ := md.up (rB P w K mg base L f cd A outer).A.in1.in1 ok.hd ok.frames
  have hL1 : L < s1.heap.objs.size := I1.lt
  have lt2 := md.lt
  have lt3 := md.ltz
  have sz12 : s1.heap.objs.size ≤ s2.heap.objs.size := Nat.le_of_lt (Nat.lt_trans lt2 lt3)
  have fresh1 : ∀ b, s1.heap.objs.size ≤ b → H b = none := fun b hb => I1.hok.fresh hb
  have gel : ∀ b, s1.heap.objs.size ≤ b → L ≤ b ∧ b ≠ L := fun b hb => ⟨Nat.le_of_lt (Nat.lt_of_lt_of_le hL1 hb), Nat.ne_of_gt (Nat.lt_of_lt_of_le hL1 hb)⟩
  have ge3 : ∀ b ∈ [s2.heap.objs.size, a, s1.heap.objs.size], s1.heap.objs.size ≤ b := fun b hb => by
    rcases List.mem_cons.mp hb with q | hb
    · rw [q]; exact sz12
    · rcases List.mem_cons.mp hb with q | hb
      · rw [q]; exact Nat.le_of_lt lt2
      · rw [List.mem_singleton.mp hb]; exact Nat.le_refl _
  obtain ⟨oL, hoL, hcL⟩ := md.fr
  obtain ⟨og, nm, qn, hog, hgc, hgd, hgsl⟩ := md.gen
  have I4 := I3.pinned (fp := [s2.heap.objs.size, a, s1.heap.objs.size]) (fun b hb => fp_of ok (fresh1 b (ge3 b hb)) (gel b (ge3 b hb)).1 (gel b (ge3 b hb)).2 fun p hp => nomatch hp) (fun b hb => by
    rcases List.mem_cons.mp hb with q | hb
    · rw [q]; exact ⟨_, he, fun v z => nomatch z⟩
    · rcases List.mem_cons.mp hb with q | hb
      · rw [q]; exact ⟨og, hk a og hog, fun v z => by rw [hgd] at z; cases z⟩
      · rw [List.mem_singleton.mp hb]; exact ⟨oL, hk _ _ hoL, hcL⟩)
  have hgs : s2.gens[s1.gens.size]? = some (.fresh (.func (defBody sElem) (envOfC "elementary" (defScope sElem) s1.heap.objs.size fe ci))) := by rw [md.gens, Array.getElem?_push_size]; rfl
  have hexT : ∀ h : Heap, (∀ b xs, tups H b = some xs → ∃ o, h.get? b = some o) → IsProg K (hpT (eB P w K mg base s1.heap.objs.size fe ci (rB P w K mg base L f cd A outer).A.in1.in1 (rEnv L f cd :: outer)) (tups H) [s1.heap.objs.size] h) pa ps := fun h hh => by
    obtain ⟨as, q1, q2⟩ := hp
    exact ⟨as, sqt_tups hh q1, Paired.imp (fun _ _ q => sqt_tups hh q) q2⟩
  have ali := e_alv (P := P) (w := w) (K := K) (mg := mg) (base := base) (L := s1.heap.objs.size) (f := fe) (cd := ci) (A := (rB P w K mg base L f cd A outer).A.in1.in1) (outer := rEnv L f cd :: outer) (TT := tups H) (ps := ps) (pa := pa) oki (fun b hb => by
      have hn : H b = none := I1.stkFree b hb
      cases q : tups H b with
      | none => rfl
      | some xs =>
        rcases tups_rd q with r | ⟨o, r⟩
        · rw [hn] at r; cases r
        · rw [hn] at r; cases r) hcnt (O.fr _ (by decide)) Ui rfl hexT
  rw [← itms_len] at ali
  have ne1 : a ≠ s1.heap.objs.size := Nat.ne_of_gt lt2
  have ne2 : s2.heap.objs.size ≠ a := Nat.ne_of_gt lt3
  have ne3 : s2.heap.objs.size ≠ s1.heap.objs.size := Nat.ne_of_gt (Nat.lt_trans lt2 lt3)
  refine r_loop (P := P) (w := w) (K := K) (mg := mg) (base := base) (L := L) (f := f) (cd := cd) (A := A) (outer := outer) (Li := s1.heap.objs.size) (fi := fe) (ci := ci) (a := a) (g := s1.gens.size) (TTi := tups H) (outs := ps.flatMap Sx.outs) (R := R) (gok := (· ≠ gO)) (j := j) ok O.cA O.cD hr (by omega) hL1 (Nat.ne_of_gt (Nat.lt_of_lt_of_le hg hz)) (backK_ok.trans hK)
    (itms ps) [] R [] gh s₀ { s2 with heap := h' } σ H _ ⟨tups H, [s1.heap.objs.size], [], []⟩ _ 0 c Bg (outs_itms ps) rfl hsim (by rw [itms_len]; exact hlen) I4 hS hTf h3 hc hgs ?_ fun b xs q => tups_rd q
  refine ⟨⟨.none, mem_pinsAt List.mem_cons_self he⟩, ⟨og, nm, qn, mem_pinsAt (List.mem_cons_of_mem _ List.mem_cons_self) (hk a og hog), hgc, hgd, hgsl⟩, ⟨s2, rfl, ali, fun b hb => ?_⟩, rfl, rfl, rfl, ne2, ?_, ?_, fun p hp => ?_, fun b hb => ?_, sz12, Nat.le_of_lt lt2⟩
  · rw [List.mem_singleton.mp hb]
    exact ⟨oL, hoL, mem_pinsAt (List.mem_cons_of_mem _ (List.mem_cons_of_mem _ List.mem_cons_self)) (hk _ _ hoL)⟩
  · exact fun z => ne3 (List.mem_singleton.mp z)
  · exact fun z => ne1 (List.mem_singleton.mp z)
  · obtain ⟨q1, _⟩ := of_pinsAt (by simpa using hp)
    rcases List.mem_cons.mp q1 with q | q1
    · exact .inl q
    · rcases List.mem_cons.mp q1 with q | q1
      · exact .inr (.inl q)
      · exact .inr (.inr q1)
  · rw [List.mem_singleton.mp hb]
    exact Nat.le_refl _
end
end Gk

/-! Og4 -/
set_option Elab.async false
set_option linter.all false
set_option maxRecDepth 100000
set_option maxHeartbeats 2000000
namespace Gk
open PySem PySem.Spec PyProof.Rows L2
section
variable {P : Program} {w : World} {K : PySem.W.Frag} {mg : Str → Option Value} {base : Heap} {L f : Addr} {cd : Value} {A : Around} {outer : List Env} {j : Nat}
/-- THE GENERATOR removed_along, not begun -/
theorem r_alv (O : OFac P w K mg base) (ok : (rB P w K mg base L f cd A outer).Ok) (hr : Room j (rB P w K mg base L f cd A outer).A) (hj : 6 ≤ j) {gO : Nat} {ps : List Sx} {R : List Int} {TT : Addr → Option (List V)} {exs : List (Addr × Obj)} {s : Shared} {pa c : Addr} {Bg : Bag}
    (hsim : Sim (flat Bg) (itms ps) R) (hlen : (flat Bg).length + remN ps ≤ 500) (hcnt : ∀ st ∈ ps, st.cnt < 2 ^ 62) (hTf : ∀ b ∈ frs outer, TT b = none)
    (U : Up (rB P w K mg base L f cd A outer) TT [L] [] (start oN [.ref c, .ref pa, .int 1000]) s)
    (hpr : ∀ h : Heap, (∀ b xs, TT b = some xs → ∃ o, h.get? b = some o) → IsProg K (hpT (rB P w K mg base L f cd A outer) TT [L] h) pa ps)
    (hbg : ∀ h : Heap, (∀ b xs, TT b = some xs → ∃ o, h.get? b = some o) → (∀ p ∈ exs, h.get? p.1 = some p.2) → BagAt K (hpT (rB P w K mg base L f cd A outer) TT [L] h) c Bg) :
    Alv (model P w) (rB P w K mg base L f cd A outer) A (rIt R) (fun _ => True) (· ≠ gO) R.length ⟨TT, [L], [(gO, .running)], exs⟩ (.fresh (.func (defBody sRemoved) (rEnv L f cd))) s := by
  rw [alv_iff]
  intro s' Bk
  have U' : Up (rB P w K mg base L f cd A outer) TT [L] [] (start oN [.ref c, .ref pa, .int 1000]) s' := U.move Bk.bare Bk.base Bk.funs Bk.priv Bk.tt
  have I := U'.inv ok
  have hex : ∀ b xs, TT b = some xs → ∃ o, s'.heap.get? b = some o := fun b xs e => let ⟨⟨_, _, _, o, ho, _⟩, _⟩ := U'.tt b xs e; ⟨o, ho⟩
  have hp := hpr s'.heap hex
  have hb := hbg s'.heap hex Bk.ex
  have hg0 : gO < s'.gens.size := (Array.getElem?_eq_some_iff.mp (Bk.sl (gO, .running) List.mem_cons_self)).1
  show Go _ A _ (.func (defBody sRemoved) _) _ [] s'
  refine go_func ?_
  show Go _ A _ _ ((execs [rP 0, rP 1, rP 2, rP 3, rP 4, rFor] _).wrap _ _ id id) [] s'
  refine sg_nxz (P := P) (w := w) (B := rB P w K mg base L f cd A outer) (TT := TT) (pv := [L]) (s₀ := s') (N := fun σ' H' => σ' = start oN [.ref c, .ref pa, .int 1000] ∧ Same (hpT (rB P w K mg base L f cd A outer) TT [L] s'.heap) H') (ps_expr (pe_cl O.cB hr (by omega) (by rfl) (pa_cons (L2.pv 0) pa_nil))) GenW.over_func I
    ⟨_, rfl, c, Bg, rfl, hb, fun H' q => ⟨rfl, q⟩⟩ fun σ1 H1 s1 z1 I1 hN1 => ?_
  obtain ⟨rfl, q1⟩ := hN1
  refine sg_nxz (P := P) (w := w) (B := rB P w K mg base L f cd A outer) (TT := TT) (pv := [L]) (s₀ := s') (N := fun σ' H' => σ' = start oN [.ref c, .ref pa, .int 1000] ∧ Same (hpT (rB P w K mg base L f cd A outer) TT [L] s'.heap) H') (ps_expr (pe_cl O.cP hr (by omega) (by rfl) (pa_cons (L2.pv 1) pa_nil))) GenW.over_func I1
    ⟨_, rfl, pa, ps, rfl, hp.same q1, fun H' q => ⟨rfl, q1.trans q⟩⟩ fun σ2 H2 s2 z2 I2 hN2 => ?_
  obtain ⟨rfl, q2⟩ := hN2
  refine sg_nxz (P := P) (w := w) (B := rB P w K mg base L f cd A outer) (TT := TT) (pv := [L]) (s₀ := s') (N := fun σ' H' => σ' = start oN [.ref c, .ref pa, .int 1000] ∧ Same (hpT (rB P w K mg base L f cd A outer) TT [L] s'.heap) H') (ps_expr (pe_cl O.cC hr (by omega) (by rfl) (pa_cons (L2.pv 2) pa_nil))) GenW.over_func I2
    ⟨_, rfl, 1000, rfl, rfl, q2⟩ fun σ3 H3 s3 z3 I3 hN3 => ?_
  obtain ⟨rfl, q3⟩ := hN3
  refine sg_nxz (P := P) (w := w) (B := rB P w K mg base L f cd A outer) (TT := TT) (pv := [L]) (s₀ := s') (N := fun σ' H' => σ' = start oN [.ref c, .ref pa, .int 1000] ∧ Same (hpT (rB P w K mg base L f cd A outer) TT [L] s'.heap) H') (ps_if (pt_cmpR op_gt (pe_cl O.cN hr (by omega) (by rfl) (pa_cons (L2.pv 1) (pa_cons pe_non pa_nil))) (L2.pv 2) (nomark _)) pss_never pss_nil) GenW.over_func I3
    ⟨_, rfl, pa, ps, rfl, hp.same q3, _, rfl, _, _, rfl, rfl, false, bl_f (by omega), rfl, q3⟩ fun σ4 H4 s4 z4 I4 hN4 => ?_
  obtain ⟨rfl, q4⟩ := hN4
  refine sg_nxz (P := P) (w := w) (B := rB P w K mg base L f cd A outer) (TT := TT) (pv := [L]) (s₀ := s') (N := fun σ' H' => σ' = (start oN [.ref c, .ref pa, .int 1000]).set 3 (some (.ref c)) ∧ Same (hpT (rB P w K mg base L f cd A outer) TT [L] s'.heap) H') (ps_set (i := 3) oN_nd rfl (Or.inl rfl) (L2.pv 0)) GenW.over_func I4
    ⟨_, rfl, rfl, q4⟩ fun σ5 H5 s5 z5 I5 hN5 => ?_
  obtain ⟨rfl, q5⟩ := hN5
  refine go_cons ?_
  exact r_for O ok hr hj (gh := ⟨TT, [L], [(gO, .running)], exs⟩) (gO := gO) (pa := pa) (c := c) (Bg := Bg) rfl hsim hlen hcnt I5 q5 hTf rfl rfl (hp.same q5) (hb.same q5) (Nat.lt_of_lt_of_le hg0 (Nat.le_trans z1 (Nat.le_trans z2 (Nat.le_trans z3 (Nat.le_trans z4 z5)))))
end
end Gk

/-! Oh1 -/
set_option Elab.async false
set_option linter.all false
set_option maxRecDepth 100000
set_option maxHeartbeats 1000000
namespace Gk
open PySem PySem.Spec PyProof.Rows L2
/-! ### heaps_along: its loop -/
abbrev hFor : Stmt := stAt (defBody sHeaps) 6
abbrev hIf : Stmt := stAt (forBd hFor) 0
abbrev hYield : Stmt := stAt (forBd hFor) 1
abbrev hYield0 : Stmt := stAt (defBody sHeaps) 5
def hB (P : Program) (w : World) (K : PySem.W.Frag) (mg : Str → Option Value) (base : Heap) (L f : Addr) (cd : Value) (A : Around) (outer : List Env) : Bd where
  prog := P
  w := w
  K := K
  mg := mg
  base := base
  A := A.deeper (envOfC "heaps_along" (defScope sHeaps) L f cd)
  N := oN
  env := envOfC "heaps_along" (defScope sHeaps) L f cd
  outer := outer
/-- the last one is the empty tuple -/
def hIt (K : PySem.W.Frag) (bag : Addr) (E : Prop) : Nat → Gh → Gh → Shared → Value → Shared → Prop := fun n gh gh' s' v s1 => ∃ t : Addr, v = .ref t ∧
  (n = 0 → (∀ H : Hp, SqT K H t []) ∨ (t = bag ∧ E) ∨ (IsTup s1.heap t #[] ∧ t ∉ gh'.pv ∧ (t ∈ gh.pv ∨ s'.heap.get? t = none)))
section
variable {P : Program} {w : World} {K : PySem.W.Frag} {mg : Str → Option Value} {base : Heap} {L f : Addr} {cd : Value} {A : Around} {outer : List Env} {TT : Addr → Option (List V)} {pv : List Addr} {s₀ : Shared} {j : Nat}
theorem h_if (cA : Cal P w K mg base 3 "add" (spAdd K)) (cD : Cal P w K mg base 2 "drop" (spDrop K)) (hr : Room j (hB P w K mg base L f cd A outer).A) (hj : 3 ≤ j) : ∃ t, PS ((hB P w K mg base L f cd A outer).cx TT pv s₀) hIf t ∧ ∀ (D : Ends) (σ : L2.St) (H : Hp) (a c : Addr) (it : Option Int) (B : Bag) (ℓ : List Int),
    σ[5]? = some (some (.ref a)) → σ[3]? = some (some (.ref c)) → SqT K H a (vOf it) → BagAt K H c B → B.length ≤ 500 → (it = none → B ≠ []) →
    (∀ H' c' R, Same H H' → H c' = none → BagAt K H' c' R → (∀ x, it = some x → (flat R).Perm (flat B ++ [x])) → (it = none → R = dropB 1 B) → D.nx (σ.set 3 (some (.ref c'))) H') → t D σ H := by
  refine ⟨_, ps_if (pt_cmpR op_eq (pe_ix ix_tup (L2.pv 5) pe_int (fun _ _ => rfl)) pe_str (nomark _))
    (pss_one (ps_set (i := 3) oN_nd rfl (Or.inl rfl) (pe_cl cA hr hj (by rfl) (pa_cons (L2.pv 3) (pa_cons (pe_tupF (pa_cons (pe_tup (pa_cons (pe_ix ix_tup (L2.pv 5) pe_int (fun _ _ => rfl)) (pa_cons pe_int pa_nil))) pa_nil)) pa_nil)))))
    (pss_one (ps_if (pt_cmpR (op_eqD hr.units) (L2.pv 3) (pe_tup pa_nil) (nomark _)) pss_never
      (pss_one (ps_set (i := 3) oN_nd rfl (Or.inl rfl) (pe_cl cD hr (by omega) (by rfl) (pa_cons (L2.pv 3) (pa_cons pe_int pa_nil))))))), fun D σ H a c it B ℓ h5 h3 ha hc hl hne hQ => ?_⟩
  cases it with
  | some x =>
    refine ⟨_, h5, a, _, _, .str "insert", rfl, rfl, ha, rfl, rfl, true, rfl, ?_⟩
    refine ⟨_, h3, _, h5, a, _, 1, .int x, rfl, rfl, ha, rfl, by show 2 ≤ sizeLine; decide, fun q hq => ⟨by show 1 ≤ sizeLine; decide, fun t o ht ho => ?_⟩⟩
    have nqt : q ≠ t := ne_of_none (H := upd H q (.tup [.int x, .int 1])) upd_same ht
    have s1 : Same H (upd (upd H q (.tup [.int x, .int 1])) t (.frz o (.tup [.ref q]))) := fun v u e => same_upd ht _ _ (same_upd hq _ _ e)
    refine ⟨c, t, B, [(x, 1)], rfl, hc.same s1, ⟨(Unit1.one x).isB, by show 1 ≤ 1000; decide, [q], .inl ⟨o, upd_same, ho⟩, .cons (SqT.of (by rw [upd_ne nqt, upd_same]; rfl)) .nil⟩, by simp; omega, fun H' t' R h1 hn hR pR => ?_⟩
    refine hQ H' t' R (fun v u e => h1 _ _ (s1 _ _ e)) ?_ hR (fun y e => by cases e; exact pR) fun e => nomatch e
    cases q : H t' with
    | none => rfl
    | some o => rw [s1 _ _ q] at hn; cases hn
  | none =>
    refine ⟨_, h5, a, _, _, .str "remove", rfl, rfl, ha, rfl, rfl, false, rfl, ?_⟩
    obtain ⟨p, B1, rfl⟩ : ∃ p B1, B = p :: B1 := by
      cases B with
      | nil => exact absurd rfl (hne rfl)
      | cons p B1 => exact ⟨p, B1, rfl⟩
    refine ⟨_, h3, Nat.zero_le _, fun q hq => ?_⟩
    have s1 := same_upd (o := .tup []) hq
    refine ⟨bagD (p :: B1), .tuple [], dp_bag (hc.same s1), .tup (SqT.of upd_same) .nil, bagD_shaped _, by decide +kernel, false, by rw [bagD_ne], ?_⟩
    refine ⟨_, h3, c, p :: B1, 1, rfl, hc.same s1, fun H' t' h1 hn hR => ?_⟩
    refine hQ H' t' _ (fun v u e => h1 _ _ (s1 _ _ e)) ?_ hR (fun y e => nomatch e) fun _ => rfl
    cases q : H t' with
    | none => rfl
    | some o => rw [s1 _ _ q] at hn; cases hn
theorem h_val : ∃ t, PE ((hB P w K mg base L f cd A outer).cx TT pv s₀) (yieldE hYield) t ∧ ∀ (σ : L2.St) (H : Hp) (v : V) (Q : VK), σ[3]? = some (some v) → Q v H → t σ H Q := ⟨_, L2.pv 3, fun σ H v Q h3 hQ => ⟨v, h3, hQ⟩⟩
theorem h_val0 : ∃ t, PE ((hB P w K mg base L f cd A outer).cx TT pv s₀) (yieldE hYield0) t ∧ ∀ (σ : L2.St) (H : Hp) (v : V) (Q : VK), σ[3]? = some (some v) → Q v H → t σ H Q := ⟨_, L2.pv 3, fun σ H v Q h3 hQ => ⟨v, h3, hQ⟩⟩
end
/-- what is new in a stretch was private, or not there, at the waking -/
theorem new_at {B : Bd} {TT : Addr → Option (List V)} {pv : List Addr} {ip : List (Addr × Obj)} {σ : L2.St} {H : Hp} {s₀ s : Shared} {c : Addr} {u : HO} (I : Inv (B.cx TT pv s₀) ip σ H s) (h0 : hpT B TT pv s₀.heap c = none) (h1 : H c = some u) : c ∈ pv ∨ s₀.heap.get? c = none := by
  by_cases hc : B.L ≤ c
  · exact hpT_none h0 hc
  · refine .inr ?_
    cases q : s₀.heap.get? c with
    | none => rfl
    | some o =>
      have hlt : c < B.L := Nat.lt_of_not_le hc
      have := I.base.free c o (cut_some.mpr ⟨hlt, q⟩) (by
        show (if c < B.L then hpT B TT pv s₀.heap c else none) = none
        rw [if_pos hlt, h0]) (fun z => nomatch z)
      rw [this] at h1
      cases h1
end Gk

/-! Oh2 -/
set_option Elab.async false
set_option linter.all false
set_option maxRecDepth 100000
set_option maxHeartbeats 2000000
namespace Gk
open PySem PySem.Spec PyProof.Rows L2
abbrev hEnv (L f : Addr) (cd : Value) : Env := envOfC "heaps_along" (defScope sHeaps) L f cd
theorem bag_empty {K : PySem.W.Frag} {H : Hp} {c : Addr} {B : Bag} (h : BagAt K H c B) (hB : flat B = []) : B = [] := flat_inj h.isB isB_nil (by rw [hB]; exact List.Perm.refl _)
/-- the empty bag, as it stands -/
theorem bag_nil_at {X : Cx} {pins : List (Addr × Obj)} {σ : L2.St} {H : Hp} {s : Shared} {c : Addr} (I : Inv X pins σ H s) (h : BagAt X.K H c []) : (∀ H' : Hp, SqT X.K H' c []) ∨ (IsTup s.heap c #[] ∧ ∃ u, H c = some u) := by
  obtain ⟨as, h1, h2⟩ := h.ex
  cases h2
  rcases h1 with ⟨o, q, d⟩ | q
  · obtain ⟨_, _, its, rv, ht⟩ := (show ObjOk X.prog X.w H s.heap c (.frz o (.tup [])) from I.hok c _ q)
    cases rv
    exact .inr ⟨ht, _, q⟩
  · refine .inl fun H' => ?_
    obtain ⟨o, its, n, e1, e2, _, e4, e5, e6⟩ := q
    exact .inr ⟨o, its, n, e1, e2, e4, e5, e6⟩
section
variable {P : Program} {w : World} {K : PySem.W.Frag} {mg : Str → Option Value} {base : Heap} {L f Li fi : Addr} {cd ci : Value} {A : Around} {outer : List Env} {j : Nat} {e a : Addr} {g : Nat} {TTi : Addr → Option (List V)} {outs : List (List V)} {bg : Addr} {Eb : Prop} {gok : Nat → Prop}
theorem h_loop (ok : (hB P w K mg base L f cd A outer).Ok) (cA : Cal P w K mg base 3 "add" (spAdd K)) (cD : Cal P w K mg base 2 "drop" (spDrop K)) (hr : Room j (hB P w K mg base L f cd A outer).A) (hj : 3 ≤ j) (hLi : L < Li) (hgok : gok g)
    {k1 : Result → Sem PySem.Fin} {p1 : Pos} {h1 : List Value} (hk1 : k1 (.ok .next) = leafOf (.ok (.ret .none))) :
    ∀ (es : List (Option Int)) (dE : List (Option Int)) (rs : List Int) (gh : Gh) (s₀ s : Shared) (σ : L2.St) (H : Hp) (pl : List (Addr × Obj)) (ghi : Gh) (gs : GenState) (i : Nat) (c : Addr) (Bg : Bag),
      outs = (dE ++ es).map vOf → Sim (flat Bg) es rs → (flat Bg).length + es.length ≤ 500 →
      Inv ((hB P w K mg base L f cd A outer).cx gh.TT gh.pv s₀) pl σ H s → Same (hpT (hB P w K mg base L f cd A outer) gh.TT gh.pv s₀.heap) H → (∀ b ∈ frs outer, gh.TT b = none) → σ[3]? = some (some (.ref c)) → BagAt K H c Bg → s.gens[g]? = some gs →
      EnSt (model P w) (eB P w K mg base Li fi ci (hB P w K mg base L f cd A outer).A.in1.in1 (hEnv L f cd :: outer)) (hB P w K mg base L f cd A outer).A.in1.in1 outs TTi e a g es.length i pl ghi gs s.os → (∀ b xs, TTi b = some xs → Rd H b (.tup xs)) →
      Go (model P w) A (Post (model P w) (hB P w K mg base L f cd A outer) A (hIt K bg Eb) (fun _ => True) gok es.length gh s₀) (.forLoop (forTg hFor) (.ref e) (forBd hFor) [] (hEnv L f cd)) ((model P w).den (.forLoop (forTg hFor) (.ref e) (forBd hFor) [] (hEnv L f cd)))
        [.ret k1 none false h1 (.func (defBody sHeaps) (hEnv L f cd)) p1 []] s := by
  have ov : ∀ tg it body, A.over (.forLoop tg it body [] (hEnv L f cd)) [.ret k1 none false h1 (.func (defBody sHeaps) (hEnv L f cd)) p1 []] = (hB P w K mg base L f cd A outer).A := fun tg it body => (GenW.over_loop rfl rfl).trans GenW.over_func
  have hd : (hB P w K mg base L f cd A outer).A.depth < recursionLimit := hr.depth
  intro es
  induction es with
  | nil =>
    intro dE rs gh s₀ s σ H pl ghi gs i c Bg hO hsim hlen I hS hTf h3 hc hgs S hTT
    refine en_done (Bo := hB P w K mg base L f cd A outer) (Bi := eB P w K mg base Li fi ci (hB P w K mg base L f cd A outer).A.in1.in1 (hEnv L f cd :: outer)) ok rfl rfl hLi (ov _ _ _) hd I hgs S hTT fun s' I' => ?_
    refine sg_done ?_
    rw [hk1]
    exact go_end (.ok (.ret .none)) ⟨.inl rfl, kept_inv ok (fun b hb _ => hTf b hb) I' hS⟩
  | cons o es ih =>
    intro dE rs gh s₀ s σ H pl ghi gs i c Bg hO hsim hlen I hS hTf h3 hc hgs S hTT
    have hσl : σ.length = 6 := I.len
    refine en_item (Bo := hB P w K mg base L f cd A outer) (Bi := eB P w K mg base Li fi ci (hB P w K mg base L f cd A outer).A.in1.in1 (hEnv L f cd :: outer)) ok rfl rfl hLi (ov _ _ _) hd
      (pg_tup rfl (pgs_cons (pg_name (i := 4) oN_nd rfl (.inl rfl)) (pgs_cons (pg_name (i := 5) oN_nd rfl (.inl rfl)) pgs_nil))) I hgs S hTT
      (N := fun t xs σ' H' => σ' = (σ.set 4 (some (.int i))).set 5 (some (.ref t)) ∧ Same H H' ∧ H' t = some (.tup xs)) (fun t T xs H1 q1 q2 q3 q4 => ⟨T, _, rfl, SqT.of q4, rfl, _, _, rfl, _, _, rfl, rfl, rfl, q2, q3⟩) fun t xs pl' gh' gs' σ' H' s' hxs I' hN hgs' hsl S' => ?_
    obtain ⟨rfl, hs1, ht⟩ := hN
    have exs : xs = vOf o := by
      have := rev_at (dE.map vOf) (vOf o) (es.map vOf)
      rw [List.length_map] at this
      have e2 : outs = dE.map vOf ++ vOf o :: es.map vOf := by rw [hO, List.map_append]; rfl
      rw [e2, this] at hxs
      exact (Option.some.inj hxs).symm
    subst exs
    have h3' : ((σ.set 4 (some (V.int i))).set 5 (some (V.ref t)))[3]? = some (some (.ref c)) := by
      rw [List.getElem?_set_ne (by decide), List.getElem?_set_ne (by decide)]; exact h3
    have h5' : ((σ.set 4 (some (V.int i))).set 5 (some (V.ref t)))[5]? = some (some (.ref t)) := List.getElem?_set_self (by rw [List.length_set, hσl]; decide)
    have hc' := hc.same hs1
    have hS' : Same (hpT (hB P w K mg base L f cd A outer) gh.TT gh.pv s₀.heap) H' := hS.trans hs1
    have hTT' : ∀ b xs, TTi b = some xs → Rd H' b (.tup xs) := fun b xs q => rd_same hs1 (hTT b xs q)
    have hlen' : (flat Bg).length + (es.length + 1) ≤ 500 := hlen
    have next : ∃ rs', ∀ R : Bag, IsB R → (∀ x, o = some x → (flat R).Perm (flat Bg ++ [x])) → (o = none → R = dropB 1 Bg) → Sim (flat R) es rs' ∧ (flat R).length + es.length ≤ 500 := by
      cases o with
      | some x =>
        obtain ⟨ℓ', l1, l2, sim'⟩ := hsim.sorted_next
        refine ⟨rs, fun R hR h1 _ => ?_⟩
        have e3 : flat R = ℓ' := sorted_eq (flat_sorted hR) l1 ((h1 x rfl).trans l2.symm)
        exact ⟨by rw [e3]; exact sim', by rw [e3, l2.length_eq, List.length_append]; simp; omega⟩
      | none =>
        obtain ⟨y, ℓ', rs', e1, _, sim'⟩ := hsim.rem_next
        refine ⟨rs', fun R hR _ h2 => ?_⟩
        have hdr : flat R = ℓ' := by rw [h2 rfl, dropB_flat 1 hc.isB, e1]; rfl
        exact ⟨by rw [hdr]; exact sim', by rw [hdr]; have := congrArg List.length e1; simp at this; omega⟩
    have hne : o = none → Bg ≠ [] := fun e z => by
      subst e z
      obtain ⟨y, ℓ', rs', e1, _⟩ := hsim.rem_next
      cases e1
    obtain ⟨rs', hnext⟩ := next
    show Go _ A _ _ ((execs [hIf, hYield] _).wrap _ _ id id) _ s'
    obtain ⟨t2, ps2, rd2⟩ := h_if (P := P) (w := w) (K := K) (mg := mg) (base := base) (L := L) (f := f) (cd := cd) (A := A) (outer := outer) (TT := gh.TT) (pv := gh.pv) (s₀ := s₀) cA cD hr hj
    refine sg_nx (B := hB P w K mg base L f cd A outer) (N := fun σ2 H2 => ∃ c2 B2, σ2 = ((σ.set 4 (some (V.int i))).set 5 (some (V.ref t))).set 3 (some (.ref c2)) ∧ Same H' H2 ∧ H' c2 = none ∧ BagAt K H2 c2 B2 ∧ (∀ x, o = some x → (flat B2).Perm (flat Bg ++ [x])) ∧ (o = none → B2 = dropB 1 Bg)) ps2 (ov _ _ _) I'
      (rd2 _ _ H' t c o Bg [] h5' h3' (SqT.of ht) hc' (by have := len_le_flat hc.isB; omega) hne fun H2 c2 B2 q1 q2 q3 q4 q5 => ⟨c2, B2, rfl, q1, q2, q3, q4, q5⟩) fun σ2 H2 s2 as2 I2 hN2 => ?_
    obtain ⟨c2, B2, rfl, q1, q2, q3, q4, q5⟩ := hN2
    obtain ⟨sim2, len2⟩ := hnext B2 q3.isB q4 q5
    have hgs2 := as2 g _ hgs' hsl
    have h32 : (((σ.set 4 (some (V.int i))).set 5 (some (V.ref t))).set 3 (some (V.ref c2)))[3]? = some (some (.ref c2)) := List.getElem?_set_self (by simp [hσl])
    refine go_cons ?_
    obtain ⟨t3, pe3, rd3⟩ := h_val (P := P) (w := w) (K := K) (mg := mg) (base := base) (L := L) (f := f) (cd := cd) (A := A) (outer := outer) (TT := gh.TT) (pv := gh.pv) (s₀ := s₀)
    refine go_yields (NoGen.cons NoGen.nil) (ov _ _ _) ?_ (hco := rfl) (hi := rfl)
    refine wpAny_mono (pe_asleep pe3 (fun _ _ z => z) I2 (Q := fun v H3 => v = .ref c2 ∧ H3 = H2) (rd3 _ H2 _ _ h32 ⟨rfl, rfl⟩)) (fun v s3 hh => ?_) fun _ _ z => False.elim z
    obtain ⟨as3, x3, H3, I3, rv, rfl, rfl⟩ := hh
    cases rv
    intro k l pos hk
    have hS3 := hS'.trans q1
    have hgs3 := as3 g _ hgs2 hsl
    have S3 := (S'.os_eq (I'.os.trans I2.os.symm)).os_eq (I2.os.trans I3.os.symm)
    obtain ⟨exl, hsleep⟩ := o_sleep ok I3 hS3 (fun p hp => Nat.le_of_lt (Nat.lt_of_lt_of_le hLi (S'.pl_ge p hp))) q3 hTf
    obtain ⟨kp, told, wake⟩ := hsleep gok gh [(g, gs')] rfl fun p hp => by rw [List.mem_singleton.mp hp]; exact .inl ⟨hgok, hgs3⟩
    refine ⟨.ref c2, id false, l, k, _, pos, _, ghOf (hB P w K mg base L f cd A outer) H3 pl' [(g, gs')] exl, rfl, rfl, kp, ⟨c2, rfl, fun hz => ?_⟩, told, ?_⟩
    · have ees : es = [] := List.length_eq_zero_iff.mp hz
      subst ees
      have eB2 := bag_empty q3 sim2.nil_next.1
      subst eB2
      rcases bag_nil_at I3 q3 with z | ⟨z, u, hu⟩
      · exact .inl z
      · refine .inr (.inr ⟨z, fun hm => ?_, ?_⟩)
        · rcases List.mem_cons.mp hm with e1 | hm
          · rw [e1] at hu
            have hfree : H3 (hB P w K mg base L f cd A outer).L = none := I3.free
            rw [hfree] at hu
            cases hu
          · obtain ⟨p, hp, e1⟩ := List.mem_map.mp hm
            have hpn := (I3.pin p (List.mem_append_right _ hp)).2.1
            rw [e1, hu] at hpn
            cases hpn
        · exact new_at I3 (hS'.free q2) hu
    · rw [alv_iff]
      intro s4 Bk
      show Go _ A _ _ (k (.send .none)) _ s4
      rw [hk]
      obtain ⟨I4, bag4, rd4, sz4, tf4⟩ := wake s4 Bk
      show Go _ A _ _ ((execs [] _).wrap _ _ id id) _ s4
      refine go_nil (go_again rfl ?_)
      have hgs4 : s4.gens[g]? = some gs' := Bk.sl (g, gs') List.mem_cons_self
      exact ih (dE ++ [o]) rs' (ghOf (hB P w K mg base L f cd A outer) H3 pl' [(g, gs')] exl) s4 s4 _ _ pl' gh' gs' (i + 1) c2 B2 (by rw [hO]; simp) sim2 len2 I4 (Same.refl _) tf4 h32 bag4 hgs4
        (S3.os_eq Bk.os.symm) fun b xs q => rd4 b xs (rd_same q1 (hTT' b xs q))
end
end Gk

/-! Oh3 -/
set_option Elab.async false
set_option linter.all false
set_option maxRecDepth 100000
set_option maxHeartbeats 2000000
namespace Gk
open PySem PySem.Spec PyProof.Rows L2
/-! ### heaps_along: from its first line -/
abbrev hP (i : Nat) : Stmt := stAt (defBody sHeaps) i
section
variable {P : Program} {w : World} {K : PySem.W.Frag} {mg : Str → Option Value} {base : Heap} {L f : Addr} {cd : Value} {A : Around} {outer : List Env} {j : Nat}
theorem h_for (O : OFac P w K mg base) (ok : (hB P w K mg base L f cd A outer).Ok) (hr : Room j (hB P w K mg base L f cd A outer).A) (hj : 6 ≤ j) {gO : Nat} {ps : List Sx} {R : List Int} {bg : Addr} {Eb : Prop} {gh : Gh} {s₀ s : Shared} {σ : L2.St} {H : Hp} {pa c : Addr} {Bg : Bag} {K1 : Flow → Sem PySem.Fin} {J1 : Value → Sem PySem.Fin}
    (hK : K1 .next = leafOf (.ok (.ret .none))) (hsim : Sim (flat Bg) (itms ps) R) (hlen : (flat Bg).length + remN ps ≤ 500) (hcnt : ∀ st ∈ ps, st.cnt < 2 ^ 62)
    (I : Inv ((hB P w K mg base L f cd A outer).cx gh.TT gh.pv s₀) [] σ H s) (hS : Same (hpT (hB P w K mg base L f cd A outer) gh.TT gh.pv s₀.heap) H) (hTf : ∀ b ∈ frs outer, gh.TT b = none) (h1 : σ[1]? = some (some (.ref pa))) (h3 : σ[3]? = some (some (.ref c))) (hp : IsProg K H pa ps) (hc : BagAt K H c Bg) (hg : gO < s.gens.size) :
    Go (model P w) A (Post (model P w) (hB P w K mg base L f cd A outer) A (hIt K bg Eb) (fun _ => True) (· ≠ gO) (itms ps).length gh s₀) (.func (defBody sHeaps) (hEnv L f cd)) ((exec hFor (hEnv L f cd)).wrap K1 J1 id id) [] s := by
  obtain ⟨fe, fde, FE, hme⟩ := O.dE.ex
  have bE : Binds K fde ["program"] [] := FE.bindsN fun _ _ _ _ _ _ us hl => match us, hl with | [_], _ => rfl
  refine sg_for (tg := forTg hFor) (iter := forIt hFor) (body := forBd hFor) (A' := (hB P w K mg base L f cd A outer).A) GenW.over_func ?_
  refine wpAny_Call_Name_kw (ld_blt I (by rfl) (O.fr _ (by decide)) boot_enumerate ?_ (by decide) (by decide))
  refine PyProof.Rows.callWith_type1 ?_ rfl rfl
  refine Calls.spliced_cons (eval_gen I FE (by rfl) hme bE .nil eScope (fun n => rfl) (by decide +kernel) hr (pa_cons (L2.pv 1) pa_nil) ⟨_, h1, rfl, fun ci s1 s2 a hz I1 md I2 => ?_⟩)
  refine Calls.spliced_nil ?_
  refine call_enum_gen md.gen fun h' he hz' hk => wpAny_pyIter_enum he ?_
  intro p1
  have I3 : Inv ((hB P w K mg base L f cd A outer).cx gh.TT gh.pv s₀) [] σ H { s2 with heap := h' } := I2.kept (t' := s2.toks) hk
  obtain ⟨oki, Ui⟩ := md.up (hB P w K mg base L f cd A outer).A.in1.in1 ok.hd ok.frames
  have hL1 : L < s1.heap.objs.size := I1.lt
  have lt2 := md.lt
  have lt3 := md.ltz
  have sz12 : s1.heap.objs.size ≤ s2.heap.objs.size := Nat.le_of_lt (Nat.lt_trans lt2 lt3)
  have fresh1 : ∀ b, s1.heap.objs.size ≤ b → H b = none := fun b hb => I1.hok.fresh hb
  have gel : ∀ b, s1.heap.objs.size ≤ b → L ≤ b ∧ b ≠ L := fun b hb => ⟨Nat.le_of_lt (Nat.lt_of_lt_of_le hL1 hb), Nat.ne_of_gt (Nat.lt_of_lt_of_le hL1 hb)⟩
  have ge3 : ∀ b ∈ [s2.heap.objs.size, a, s1.heap.objs.size], s1.heap.objs.size ≤ b := fun b hb => by
    rcases List.mem_cons.mp hb with q | hb
    · rw [q]; exact sz12
    · rcases List.mem_cons.mp hb with q | hb
      · rw [q]; exact Nat.le_of_lt lt2
      · rw [List.mem_singleton.mp hb]; exact Nat.le_refl _
  obtain ⟨oL, hoL, hcL⟩ := md.fr
  obtain ⟨og, nm, qn, hog, hgc, hgd, hgsl⟩ := md.gen
  have I4 := I3.pinned (fp := [s2.heap.objs.size, a, s1.heap.objs.size]) (fun b hb => fp_of ok (fresh1 b (ge3 b hb)) (gel b (ge3 b hb)).1 (gel b (ge3 b hb)).2 fun p hp => nomatch hp) (fun b hb => by
    rcases List.mem_cons.mp hb with q | hb
    · rw [q]; exact ⟨_, he, fun v z => nomatch z⟩
    · rcases List.mem_cons.mp hb with q | hb
      · rw [q]; exact ⟨og, hk a og hog, fun v z => by rw [hgd] at z; cases z⟩
      · rw [List.mem_singleton.mp hb]; exact ⟨oL, hk _ _ hoL, hcL⟩)
  have hgs : s2.gens[s1.gens.size]? = some (.fresh (.func (defBody sElem) (envOfC "elementary" (defScope sElem) s1.heap.objs.size fe ci))) := by rw [md.gens, Array.getElem?_push_size]; rfl
  have hexT : ∀ h : Heap, (∀ b xs, tups H b = some xs → ∃ o, h.get? b = some o) → IsProg K (hpT (eB P w K mg base s1.heap.objs.size fe ci (hB P w K mg base L f cd A outer).A.in1.in1 (hEnv L f cd :: outer)) (tups H) [s1.heap.objs.size] h) pa ps := fun h hh => by
    obtain ⟨as, q1, q2⟩ := hp
    exact ⟨as, sqt_tups hh q1, Paired.imp (fun _ _ q => sqt_tups hh q) q2⟩
  have ali := e_alv (P := P) (w := w) (K := K) (mg := mg) (base := base) (L := s1.heap.objs.size) (f := fe) (cd := ci) (A := (hB P w K mg base L f cd A outer).A.in1.in1) (outer := hEnv L f cd :: outer) (TT := tups H) (ps := ps) (pa := pa) oki (fun b hb => by
      have hn : H b = none := I1.stkFree b hb
      cases q : tups H b with
      | none => rfl
      | some xs =>
        rcases tups_rd q with r | ⟨o, r⟩
        · rw [hn] at r; cases r
        · rw [hn] at r; cases r) hcnt (O.fr _ (by decide)) Ui rfl hexT
  rw [← itms_len] at ali
  have ne1 : a ≠ s1.heap.objs.size := Nat.ne_of_gt lt2
  have ne2 : s2.heap.objs.size ≠ a := Nat.ne_of_gt lt3
  have ne3 : s2.heap.objs.size ≠ s1.heap.objs.size := Nat.ne_of_gt (Nat.lt_trans lt2 lt3)
  refine h_loop (P := P) (w := w) (K := K) (mg := mg) (base := base) (L := L) (f := f) (cd := cd) (A := A) (outer := outer) (Li := s1.heap.objs.size) (fi := fe) (ci := ci) (a := a) (g := s1.gens.size) (TTi := tups H) (outs := ps.flatMap Sx.outs) (bg := bg) (Eb := Eb) (gok := (· ≠ gO)) (j := j) ok O.cA O.cD hr (by omega) hL1 (Nat.ne_of_gt (Nat.lt_of_lt_of_le hg hz)) (backK_ok.trans hK)
    (itms ps) [] R gh s₀ { s2 with heap := h' } σ H _ ⟨tups H, [s1.heap.objs.size], [], []⟩ _ 0 c Bg (outs_itms ps) hsim (by rw [itms_len]; exact hlen) I4 hS hTf h3 hc hgs ?_ fun b xs q => tups_rd q
  refine ⟨⟨.none, mem_pinsAt List.mem_cons_self he⟩, ⟨og, nm, qn, mem_pinsAt (List.mem_cons_of_mem _ List.mem_cons_self) (hk a og hog), hgc, hgd, hgsl⟩, ⟨s2, rfl, ali, fun b hb => ?_⟩, rfl, rfl, rfl, ne2, ?_, ?_, fun p hp => ?_, fun b hb => ?_, sz12, Nat.le_of_lt lt2⟩
  · rw [List.mem_singleton.mp hb]
    exact ⟨oL, hoL, mem_pinsAt (List.mem_cons_of_mem _ (List.mem_cons_of_mem _ List.mem_cons_self)) (hk _ _ hoL)⟩
  · exact fun z => ne3 (List.mem_singleton.mp z)
  · exact fun z => ne1 (List.mem_singleton.mp z)
  · obtain ⟨q1, _⟩ := of_pinsAt (by simpa using hp)
    rcases List.mem_cons.mp q1 with q | q1
    · exact .inl q
    · rcases List.mem_cons.mp q1 with q | q1
      · exact .inr (.inl q)
      · exact .inr (.inr q1)
  · rw [List.mem_singleton.mp hb]
    exact Nat.le_refl _
end
end Gk

/-! Oh4 -/
set_option Elab.async false
set_option linter.all false
set_option maxRecDepth 100000
set_option maxHeartbeats 2000000
namespace Gk
open PySem PySem.Spec PyProof.Rows L2
section
variable {P : Program} {w : World} {K : PySem.W.Frag} {mg : Str → Option Value} {base : Heap} {L f : Addr} {cd : Value} {A : Around} {outer : List Env} {j : Nat}
/-- THE GENERATOR heaps_along, not begun -/
theorem h_alv (O : OFac P w K mg base) (ok : (hB P w K mg base L f cd A outer).Ok) (hr : Room j (hB P w K mg base L f cd A outer).A) (hj : 6 ≤ j) {gO : Nat} {ps : List Sx} {R : List Int} {TT : Addr → Option (List V)} {exs : List (Addr × Obj)} {s : Shared} {pa c : Addr} {Bg : Bag}
    (hsim : Sim (flat Bg) (itms ps) R) (hlen : (flat Bg).length + remN ps ≤ 500) (hcnt : ∀ st ∈ ps, st.cnt < 2 ^ 62) (hTf : ∀ b ∈ frs outer, TT b = none)
    (U : Up (hB P w K mg base L f cd A outer) TT [L] [] (start oN [.ref c, .ref pa, .int 1000]) s)
    (hpr : ∀ h : Heap, (∀ b xs, TT b = some xs → ∃ o, h.get? b = some o) → IsProg K (hpT (hB P w K mg base L f cd A outer) TT [L] h) pa ps)
    (hbg : ∀ h : Heap, (∀ b xs, TT b = some xs → ∃ o, h.get? b = some o) → (∀ p ∈ exs, h.get? p.1 = some p.2) → BagAt K (hpT (hB P w K mg base L f cd A outer) TT [L] h) c Bg) :
    Alv (model P w) (hB P w K mg base L f cd A outer) A (hIt K c (Bg = [])) (fun _ => True) (· ≠ gO) ((itms ps).length + 1) ⟨TT, [L], [(gO, .running)], exs⟩ (.fresh (.func (defBody sHeaps) (hEnv L f cd))) s := by
  rw [alv_iff]
  intro s' Bk
  have U' : Up (hB P w K mg base L f cd A outer) TT [L] [] (start oN [.ref c, .ref pa, .int 1000]) s' := U.move Bk.bare Bk.base Bk.funs Bk.priv Bk.tt
  have I := U'.inv ok
  have hex : ∀ b xs, TT b = some xs → ∃ o, s'.heap.get? b = some o := fun b xs e => let ⟨⟨_, _, _, o, ho, _⟩, _⟩ := U'.tt b xs e; ⟨o, ho⟩
  have hp := hpr s'.heap hex
  have hb := hbg s'.heap hex Bk.ex
  have hg0 : gO < s'.gens.size := (Array.getElem?_eq_some_iff.mp (Bk.sl (gO, .running) List.mem_cons_self)).1
  show Go _ A _ (.func (defBody sHeaps) _) _ [] s'
  refine go_func ?_
  show Go _ A _ _ ((execs [hP 0, hP 1, hP 2, hP 3, hP 4, hYield0, hFor] _).wrap _ _ id id) [] s'
  refine sg_nxz (P := P) (w := w) (B := hB P w K mg base L f cd A outer) (TT := TT) (pv := [L]) (s₀ := s') (N := fun σ' H' => σ' = start oN [.ref c, .ref pa, .int 1000] ∧ Same (hpT (hB P w K mg base L f cd A outer) TT [L] s'.heap) H') (ps_expr (pe_cl O.cB hr (by omega) (by rfl) (pa_cons (L2.pv 0) pa_nil))) GenW.over_func I
    ⟨_, rfl, c, Bg, rfl, hb, fun H' q => ⟨rfl, q⟩⟩ fun σ1 H1 s1 z1 I1 hN1 => ?_
  obtain ⟨rfl, q1⟩ := hN1
  refine sg_nxz (P := P) (w := w) (B := hB P w K mg base L f cd A outer) (TT := TT) (pv := [L]) (s₀ := s') (N := fun σ' H' => σ' = start oN [.ref c, .ref pa, .int 1000] ∧ Same (hpT (hB P w K mg base L f cd A outer) TT [L] s'.heap) H') (ps_expr (pe_cl O.cP hr (by omega) (by rfl) (pa_cons (L2.pv 1) pa_nil))) GenW.over_func I1
    ⟨_, rfl, pa, ps, rfl, hp.same q1, fun H' q => ⟨rfl, q1.trans q⟩⟩ fun σ2 H2 s2 z2 I2 hN2 => ?_
  obtain ⟨rfl, q2⟩ := hN2
  refine sg_nxz (P := P) (w := w) (B := hB P w K mg base L f cd A outer) (TT := TT) (pv := [L]) (s₀ := s') (N := fun σ' H' => σ' = start oN [.ref c, .ref pa, .int 1000] ∧ Same (hpT (hB P w K mg base L f cd A outer) TT [L] s'.heap) H') (ps_expr (pe_cl O.cC hr (by omega) (by rfl) (pa_cons (L2.pv 2) pa_nil))) GenW.over_func I2
    ⟨_, rfl, 1000, rfl, rfl, q2⟩ fun σ3 H3 s3 z3 I3 hN3 => ?_
  obtain ⟨rfl, q3⟩ := hN3
  refine sg_nxz (P := P) (w := w) (B := hB P w K mg base L f cd A outer) (TT := TT) (pv := [L]) (s₀ := s') (N := fun σ' H' => σ' = start oN [.ref c, .ref pa, .int 1000] ∧ Same (hpT (hB P w K mg base L f cd A outer) TT [L] s'.heap) H') (ps_if (pt_cmpR op_gt (pe_cl O.cN hr (by omega) (by rfl) (pa_cons (L2.pv 1) (pa_cons pe_non pa_nil))) (L2.pv 2) (nomark _)) pss_never pss_nil) GenW.over_func I3
    ⟨_, rfl, pa, ps, rfl, hp.same q3, _, rfl, _, _, rfl, rfl, false, bl_f (by omega), rfl, q3⟩ fun σ4 H4 s4 z4 I4 hN4 => ?_
  obtain ⟨rfl, q4⟩ := hN4
  refine sg_nxz (P := P) (w := w) (B := hB P w K mg base L f cd A outer) (TT := TT) (pv := [L]) (s₀ := s') (N := fun σ' H' => σ' = (start oN [.ref c, .ref pa, .int 1000]).set 3 (some (.ref c)) ∧ Same (hpT (hB P w K mg base L f cd A outer) TT [L] s'.heap) H') (ps_set (i := 3) oN_nd rfl (Or.inl rfl) (L2.pv 0)) GenW.over_func I4
    ⟨_, rfl, rfl, q4⟩ fun σ5 H5 s5 z5 I5 hN5 => ?_
  obtain ⟨rfl, q5⟩ := hN5
  refine go_cons ?_
  obtain ⟨t3, pe3, rd3⟩ := h_val0 (P := P) (w := w) (K := K) (mg := mg) (base := base) (L := L) (f := f) (cd := cd) (A := A) (outer := outer) (TT := TT) (pv := [L]) (s₀ := s')
  refine go_yields NoGen.nil GenW.over_func ?_ (hco := rfl) (hi := rfl)
  refine wpAny_mono (pe3.run _ s5 _ H5 (fun v H6 => v = .ref c ∧ H6 = H5) I5 (rd3 _ H5 _ _ rfl ⟨rfl, rfl⟩)) (fun v s6 hh => ?_) fun _ _ z => False.elim z
  obtain ⟨x6, H6, I6, rv, rfl, rfl⟩ := hh
  cases rv
  intro k l pos hk
  have hb6 := hb.same q5
  obtain ⟨exl, hsleep⟩ := o_sleep ok I6 q5 (fun p hp => nomatch hp) hb6 hTf
  obtain ⟨kp, told, wake⟩ := hsleep (· ≠ gO) ⟨TT, [L], [(gO, .running)], exs⟩ [(gO, .running)] rfl fun p hp => by rw [List.mem_singleton.mp hp]; exact .inr ⟨fun z => z rfl, rfl⟩
  refine ⟨.ref c, id false, l, k, _, pos, _, ghOf (hB P w K mg base L f cd A outer) H6 [] [(gO, .running)] exl, rfl, rfl, kp, ⟨c, rfl, fun hz => .inr (.inl ⟨rfl, ?_⟩)⟩, told, ?_⟩
  · have e0 : itms ps = [] := List.length_eq_zero_iff.mp hz
    rw [e0] at hsim
    exact bag_empty hb6 hsim.nil_next.1
  rw [alv_iff]
  intro s7 Bk7
  show Go _ A _ _ (k (.send .none)) _ s7
  rw [hk]
  obtain ⟨I7, bag7, rd7, sz7, tf7⟩ := wake s7 Bk7
  have hg7 : gO < s7.gens.size := (Array.getElem?_eq_some_iff.mp (Bk7.sl (gO, .running) List.mem_cons_self)).1
  show Go _ A _ _ ((execs [hFor] _).wrap _ _ id id) _ s7
  refine go_cons ?_
  have hp7 : IsProg K (hpT (hB P w K mg base L f cd A outer) (tups H6) ((hB P w K mg base L f cd A outer).L :: ([] : List (Addr × Obj)).map (·.1)) s7.heap) pa ps := by
    obtain ⟨as, r1, r2⟩ := hp.same q5
    have tr : ∀ b xs, SqT K H6 b xs → SqT K (hpT (hB P w K mg base L f cd A outer) (tups H6) ((hB P w K mg base L f cd A outer).L :: ([] : List (Addr × Obj)).map (·.1)) s7.heap) b xs := fun b xs q => by
      rcases q with q | q
      · exact .inl (rd7 b xs q)
      · exact .inr q
    exact ⟨as, tr _ _ r1, Paired.imp (fun _ _ q => tr _ _ q) r2⟩
  exact h_for O ok hr hj (gh := ghOf (hB P w K mg base L f cd A outer) H6 [] [(gO, .running)] exl) (gO := gO) (pa := pa) (c := c) (Bg := Bg) rfl hsim hlen hcnt I7 (Same.refl _) tf7 rfl rfl hp7 bag7 hg7
end
end Gk

/-! Lw1 -/
set_option Elab.async false
set_option linter.all false
set_option maxRecDepth 100000
set_option maxHeartbeats 2000000
namespace Gk
open PySem PySem.Spec PyProof.Rows L2
/-! ### list(removed_along(..)), list(heaps_along(..)) -/
theorem kw_r {K : PySem.W.Frag} {f : Addr} {fd : FuncData} (F : FunD K "removed_along" "removed_along" (defArgs sRemoved) (defBody sRemoved) (defScope sRemoved) [] [("limit", .int 1000)] f fd) : ∃ ds, Vals [V.int 1000] ds ∧ Binds K fd ["bag", "program", "limit"] ds :=
  F.binds0 (ps := ["bag", "program", "limit"]) 2 (fun z => nomatch z) rfl fun D doc pm an cdv ct us ks h1 h2 => match us, ks, h1, h2 with
    | [_, _], [_], _, _ => ⟨_, _, _, _, _, _, rfl, rfl, rfl⟩
theorem kw_h {K : PySem.W.Frag} {f : Addr} {fd : FuncData} (F : FunD K "heaps_along" "heaps_along" (defArgs sHeaps) (defBody sHeaps) (defScope sHeaps) [] [("limit", .int 1000)] f fd) : ∃ ds, Vals [V.int 1000] ds ∧ Binds K fd ["bag", "program", "limit"] ds :=
  F.binds0 (ps := ["bag", "program", "limit"]) 2 (fun z => nomatch z) rfl fun D doc pm an cdv ct us ks h1 h2 => match us, ks, h1, h2 with
    | [_, _], [_], _, _ => ⟨_, _, _, _, _, _, rfl, rfl, rfl⟩
theorem rScope : GScope oN ["bag", "program", "limit"] (defScope sRemoved) := ⟨rfl, rfl, rfl, by decide +kernel, rfl, by decide +kernel, by decide +kernel⟩
theorem hScope : GScope oN ["bag", "program", "limit"] (defScope sHeaps) := ⟨rfl, rfl, rfl, by decide +kernel, rfl, by decide +kernel, by decide +kernel⟩
theorem Sim.len_le {ℓ es rs} (s : Sim ℓ es rs) : rs.length ≤ es.length := by
  induction s with
  | nil => exact Nat.le_refl _
  | ins _ _ _ ih => rw [List.length_cons]; omega
  | rem _ ih => rw [List.length_cons, List.length_cons]; omega
/-- what must be had to run program p on bag b: R is what is removed -/
structure RunOk (K : PySem.W.Frag) (H : Hp) (b p : Addr) (Bg : Bag) (ps : List Sx) (R : List Int) : Prop where
  bag : BagAt K H b Bg
  prog : IsProg K H p ps
  sim : Sim (flat Bg) (itms ps) R
  len : (flat Bg).length + remN ps ≤ 500
  cnt : ∀ st ∈ ps, st.cnt < 2 ^ 62
/-- the module's generator def -/
structure GnP (K : PySem.W.Frag) (mg : Str → Option Value) (st : Stmt) : Prop where
  ex : ∃ f fd, FunD K (defName st) (defName st) (defArgs st) (defBody st) (defScope st) [] [("limit", .int 1000)] f fd ∧ mg (defName st) = some (.ref f)
theorem bag_ex {B : Bd} {X : Cx} {pins : List (Addr × Obj)} {σ : L2.St} {H : Hp} {s : Shared} {c : Addr} {Bg : Bag} (hK : B.K = X.K) (I : Inv X pins σ H s) (hB : BagAt X.K H c Bg) (L : Addr) :
    ∃ exs : List (Addr × Obj), (∀ p ∈ exs, s.heap.get? p.1 = some p.2 ∧ p.2.cls = .type "tuple") ∧ ∀ h : Heap, (∀ b xs, tups H b = some xs → ∃ o, h.get? b = some o) → (∀ p ∈ exs, h.get? p.1 = some p.2) → BagAt B.K (hpT B (tups H) [L] h) c Bg := by
  obtain ⟨as, f1, f2⟩ := hB.ex
  rw [← hK] at f2
  rcases f1 with ⟨o, q, d⟩ | q
  · obtain ⟨ho, _, _, _, o', ho', hc', _⟩ := (show ObjOk X.prog X.w H s.heap c (.frz o (.tup (as.map V.ref))) from I.hok c _ q)
    rw [ho] at ho'
    cases ho'
    refine ⟨[(c, o)], fun p hp => by rw [List.mem_singleton.mp hp]; exact ⟨ho, hc'⟩, fun h hh h3 => ⟨hB.isB, hB.len, as, .inl ⟨o, hpT_tt (rd_tups (.inr ⟨o, q⟩)) (h3 (c, o) List.mem_cons_self), d⟩, Paired.imp (fun _ _ q => sqt_tups hh q) f2⟩⟩
  · rw [← hK] at q
    exact ⟨[], fun p hp => (nomatch hp), fun h hh _ => ⟨hB.isB, hB.len, as, .inr q, Paired.imp (fun _ _ q => sqt_tups hh q) f2⟩⟩
theorem tf_stack {X : Cx} {pins : List (Addr × Obj)} {σ : L2.St} {H : Hp} {s : Shared} (I : Inv X pins σ H s) : ∀ b ∈ frs X.stack, tups H b = none := fun b hb => by
  have hn : H b = none := I.stkFree b hb
  cases q : tups H b with
  | none => rfl
  | some xs =>
    rcases tups_rd q with r | ⟨o, r⟩
    · rw [hn] at r; cases r
    · rw [hn] at r; cases r
section
variable {X : Cx} {pins : List (Addr × Obj)} {σ : L2.St} {H : Hp} {s : Shared} {f : Addr} {fd : FuncData} {x name qual : Str} {params : Arguments} {body : List Stmt} {scope : Scope} {dv0 dvs : List V} {kws : List (Str × V)} {N ps : List Str} {ds : List Value} {k : Nat} {e : Expr} {es : List Expr} {p pos : Pos} {t : TA} {Q : Value → Shared → Prop} {R : List V → Hp → Prop}
theorem eval_genR (I : Inv X pins σ H s) (F : FunD X.K name qual params body scope dv0 kws f fd) (hg : Gl X x) (hm : X.mg x = some (.ref f)) (b : Binds X.K fd ps ds) (d : Vals dvs ds) (S : GScope N ps scope) (hnc : ∀ n, cellsFrom n scope.names [] = []) (hnm : ∀ y ∈ scope.names, y.2 ≠ .cell ∧ y.2 ≠ .free) (hr : Room k X.A) (ha : PA X (e :: es) t) (hw : t σ H R)
    (hR : ∀ vs H1, R vs H1 → (vs ++ dvs).length = ps.length ∧ ∀ cdv s1 s2 a, s.gens.size ≤ s1.gens.size → Inv X pins σ H1 s1 → Made X N qual scope f cdv body (vs ++ dvs) H1 s1 s2 a → Inv X pins σ H1 s2 → Q (.ref a) s2)
    (hdb : (x == ("__debug__" : Str)) = false := by decide) (he : starEach (e :: es) X.env = (false, eval e X.env) :: starEach es X.env := by rfl) (hpl : (backTo pos (starEach es X.env)).any (·.1) = false := by rfl) :
    wpAny (model X.prog X.w) X.A (eval (.Call (.Name x p) (e :: es) [] pos) X.env) Q X.xe s := by
  have kp := F.kp
  obtain ⟨oc, od, dV, kV, doc, pm, an, cdv, ct, osl, rfl, lk, hcd, _, _⟩ := F.ex
  refine wpAny_Call_Name_kw (ld_glob I hg hm ?_ hdb)
  refine PySem.W.callWith_K (h₀ := X.base) I.ok.mod.kin kp (GenW.wpAny_gsz (Nat.le_refl s.gens.size) (wpAny_mono (ha.run pos pins s σ H _ I hw) (fun us s1 hap hz => ?_) fun _ _ z _ => z)) he hpl
  obtain ⟨vs, H1, I1, r, h1⟩ := hap
  obtain ⟨hl, q⟩ := hR vs H1 h1
  refine ⟨I1.kIn, ?_⟩
  have r2 : Vals (vs ++ dvs) (us ++ ds) := r.append d
  exact gen_made I1 lk hcd S hnc hnm hr (b s1 us I1.kIn (by rw [← r2.length]; exact hl)) hl r2 fun a s2 md I2 => q cdv s1 s2 a hz I1 md I2
end
section
variable {X : Cx} {j : Nat} {e1 e2 : Expr} {p0 p1 pos0 pos1 : Pos} {ta : TA}
theorem pe_listR (O : OFac X.prog X.w X.K X.mg X.base) (D : GnP X.K X.mg sRemoved) (hr : Room j X.A) (hj : 10 ≤ j) (hgl : Gl X "list") (hg : Gl X "removed_along") 
    (he : starEach [e1, e2] X.env = (false, eval e1 X.env) :: starEach [e2] X.env := by rfl) (hpl : (backTo pos1 (starEach [e2] X.env)).any (·.1) = false := by rfl)
    (ha : PA X [e1, e2] ta) :
    PE X (.Call (.Name "list" p0) [.Call (.Name "removed_along" p1) [e1, e2] [] pos1] [] pos0) (fun σ H Q => ta σ H fun vs H1 => ∃ b p Bg ps R, vs = [.ref b, .ref p] ∧ RunOk X.K H1 b p Bg ps R ∧ ∀ H' l, Same H1 H' → H1 l = none → H' l = some (.lst (R.map V.int)) → Q (.ref l) H') := by
  refine ⟨fun pins s σ H Q I hq => ?_⟩
  obtain ⟨f, fd, F, hm⟩ := D.ex
  obtain ⟨ds, hds, bn⟩ := kw_r F
  refine wpAny_Call_Name_kw (ld_blt I hgl (O.fr _ (by decide)) (show bootBuiltins "list" = some (.type "list") by decide +kernel) ?_ (by decide) (by decide))
  refine PyProof.Rows.callWith_type1 ?_ rfl rfl
  have hr1 : Room (j - 4 + 4) X.A := hr.mono (by omega)
  refine Calls.spliced_cons (eval_genR I F hg hm bn hds rScope (fun n => rfl) (by decide +kernel) hr ha hq (fun vs H1 hv => ?_) (by decide) he hpl)
  obtain ⟨b, p, Bg, ps, R, rfl, ok, hQ⟩ := hv
  refine ⟨rfl, fun cdv s1 s2 a hz I1 md I2 => ?_⟩
  refine Calls.spliced_nil ?_
  obtain ⟨exs, x1, x2⟩ := bag_ex (B := rB X.prog X.w X.K X.mg X.base s1.heap.objs.size f cdv X.A.in1.in1.in1 X.stack) rfl I1 ok.bag s1.heap.objs.size
  obtain ⟨okB, U⟩ := md.up X.A.in1.in1.in1 hr.hd I.ok.frames
  have hRl : R.length ≤ sizeLine := by
    have : R.length ≤ 500 := by
      have := ok.sim.len_le
      have := ok.len
      rw [← itms_len] at this
      omega
    exact Nat.le_of_lt (small1000 (by omega))
  refine list_gen (It := rIt R) (n := R.length) (ex := exs) I1 I2 md hr.hd hr.depth hRl (fun p hp => ⟨md.keep _ _ (x1 p hp).1, (x1 p hp).2⟩)
    (r_alv (L := s1.heap.objs.size) (f := f) (cd := cdv) (A := X.A.in1.in1.in1) (outer := X.stack) (j := j - 4) O okB ((hr1.in1.in1.in1).deeper _) (by omega) ok.sim ok.len ok.cnt (tf_stack I1) U (fun h hh => by
      obtain ⟨as, q1, q2⟩ := ok.prog
      exact ⟨as, sqt_tups hh q1, Paired.imp (fun _ _ q => sqt_tups hh q) q2⟩) x2)
    (fun _ n ys _ _ => n ≤ R.length ∧ ys = (R.take (R.length - n)).map V.int) (fun S n ys gh h h' hG _ => hG) (fun S n gh gh' s' v s'' ys _ _ hit hG => ?_) (fun S h => ⟨Nat.le_refl _, by rw [Nat.sub_self]; rfl⟩) (fun S s'' ys gh hS I3 hG => ?_)
  · obtain ⟨x, tk, rfl, hx⟩ := hit
    obtain ⟨hn, rfl⟩ := hG
    refine ⟨.int x, ⟨tk, rfl⟩, by omega, ?_⟩
    have hx' : R[R.length - (n + 1)]? = some x := by
      rw [List.getElem?_reverse (by omega)] at hx
      rw [show R.length - (n + 1) = R.length - 1 - n by omega]
      exact hx
    rw [show R.length - n = (R.length - (n + 1)) + 1 by omega, take_snoc hx', List.map_append]
    rfl
  · obtain ⟨_, rfl⟩ := hG
    rw [Nat.sub_zero, List.take_length] at I3
    exact ⟨.ref S, _, I3, rfl, hQ _ S (same_upd hS) hS upd_same⟩
theorem pe_listH (O : OFac X.prog X.w X.K X.mg X.base) (D : GnP X.K X.mg sHeaps) (hr : Room j X.A) (hj : 10 ≤ j) (hex : X.ex = []) (hgl : Gl X "list") (hg : Gl X "heaps_along") 
    (he : starEach [e1, e2] X.env = (false, eval e1 X.env) :: starEach [e2] X.env := by rfl) (hpl : (backTo pos1 (starEach [e2] X.env)).any (·.1) = false := by rfl)
    (ha : PA X [e1, e2] ta) :
    PE X (.Call (.Name "list" p0) [.Call (.Name "heaps_along" p1) [e1, e2] [] pos1] [] pos0) (fun σ H Q => ta σ H fun vs H1 => ∃ b p Bg ps R, vs = [.ref b, .ref p] ∧ RunOk X.K H1 b p Bg ps R ∧ ∀ H' l ys t, Same H1 H' → H1 l = none → H' l = some (.lst (ys ++ [.ref t])) → SqT X.K H' t [] → Q (.ref l) H') := by
  refine ⟨fun pins s σ H Q I hq => ?_⟩
  obtain ⟨f, fd, F, hm⟩ := D.ex
  obtain ⟨ds, hds, bn⟩ := kw_h F
  refine wpAny_Call_Name_kw (ld_blt I hgl (O.fr _ (by decide)) (show bootBuiltins "list" = some (.type "list") by decide +kernel) ?_ (by decide) (by decide))
  refine PyProof.Rows.callWith_type1 ?_ rfl rfl
  have hr1 : Room (j - 4 + 4) X.A := hr.mono (by omega)
  refine Calls.spliced_cons (eval_genR I F hg hm bn hds hScope (fun n => rfl) (by decide +kernel) hr ha hq (fun vs H1 hv => ?_) (by decide) he hpl)
  obtain ⟨b, p, Bg, ps, R, rfl, ok, hQ⟩ := hv
  refine ⟨rfl, fun cdv s1 s2 a hz I1 md I2 => ?_⟩
  refine Calls.spliced_nil ?_
  obtain ⟨exs, x1, x2⟩ := bag_ex (B := hB X.prog X.w X.K X.mg X.base s1.heap.objs.size f cdv X.A.in1.in1.in1 X.stack) rfl I1 ok.bag s1.heap.objs.size
  obtain ⟨okB, U⟩ := md.up X.A.in1.in1.in1 hr.hd I.ok.frames
  have hRl : (itms ps).length + 1 ≤ sizeLine := by
    have := ok.len
    rw [← itms_len] at this
    exact Nat.le_of_lt (small1000 (by omega))
  refine list_gen (It := hIt X.K b (Bg = [])) (n := (itms ps).length + 1) (ex := exs) I1 I2 md hr.hd hr.depth hRl (fun p hp => ⟨md.keep _ _ (x1 p hp).1, (x1 p hp).2⟩)
    (h_alv (L := s1.heap.objs.size) (f := f) (cd := cdv) (A := X.A.in1.in1.in1) (outer := X.stack) (j := j - 4) O okB ((hr1.in1.in1.in1).deeper _) (by omega) ok.sim ok.len ok.cnt (tf_stack I1) U (fun h hh => by
      obtain ⟨as, q1, q2⟩ := ok.prog
      exact ⟨as, sqt_tups hh q1, Paired.imp (fun _ _ q => sqt_tups hh q) q2⟩) x2)
    (fun S n ys gh h => n = 0 → ∃ zs t, ys = zs ++ [.ref t] ∧ ((∀ H : Hp, SqT X.K H t []) ∨ (t = b ∧ Bg = []) ∨ (IsTup h t #[] ∧ t ∉ gh.pv ∧ t ≠ S ∧ FreeAt X pins H1 t))) (fun S n ys gh h h' hG hk hn => ?_) (fun S n gh gh' s' v s'' ys hHn hSl hit hG => ?_) (fun S h hn => ?_) (fun S s'' ys gh hS I3 hG => ?_)
  · obtain ⟨zs, t, e, q⟩ := hG hn
    refine ⟨zs, t, e, q.imp id fun q => q.imp id fun q => ?_⟩
    obtain ⟨⟨o, ho, hc, m, hd⟩, q2, q3, q4⟩ := q
    obtain ⟨sl, e2⟩ := hk t o q2 q3 ho
    exact ⟨⟨_, e2, hc, m, hd⟩, q2, q3, q4⟩
  · obtain ⟨t, rfl, hz⟩ := hit
    refine ⟨.ref t, rfl, fun hn => ⟨ys, t, rfl, (hz hn).imp id fun q => q.imp id fun q => ?_⟩⟩
    obtain ⟨q1, q2, q3⟩ := q
    refine ⟨q1, q2, fun z => ?_, hHn t q3⟩
    obtain ⟨hSp, o, ho, hc⟩ := hSl
    rcases q3 with q3 | q3
    · exact hSp (z ▸ q3)
    · rw [z, ho] at q3; cases q3
  · cases hn
  · obtain ⟨zs, t, rfl, q⟩ := hG rfl
    rcases q with q | ⟨rfl, rfl⟩ | ⟨q1, _, q3, q4⟩
    · exact ⟨.ref S, _, I3, rfl, hQ _ S zs t (same_upd hS) hS upd_same (q _)⟩
    · obtain ⟨as, f1, f2⟩ := ok.bag.ex
      cases f2
      exact ⟨.ref S, _, I3, rfl, hQ _ S zs t (same_upd hS) hS upd_same (sqt_same (same_upd hS) f1.sq)⟩
    · have hn : (upd H1 S (.lst (zs ++ [.ref t]))) t = none := by rw [upd_ne q3]; exact q4.nn
      have I4 := inv_track I3 (t := t) (xs := []) (its := []) q1 .nil (Nat.zero_le _) hn (q4.s0.elim (fun z => by rw [hex] at z; cases z) id) q4.loc q4.cel q4.pin
      exact ⟨.ref S, _, I4, rfl, hQ _ S zs t (fun v u e => same_upd hn _ _ (same_upd hS _ _ e)) hS (by rw [upd_ne (Ne.symm q3), upd_same]) (SqT.of upd_same)⟩
end
end Gk

/-! Lw2 -/
set_option Elab.async false
set_option linter.all false
set_option maxRecDepth 100000
set_option maxHeartbeats 4000000
namespace Gk
open PySem PySem.Spec PyProof.Rows L2
/-! ### the law -/
theorem op_catU {X : Cx} : OpR X (binaryOp .Add) (fun x y H Q => ∃ a b xs ys, x = .ref a ∧ y = .ref b ∧ SqT X.K H a xs ∧ SqT X.K H b ys ∧ xs.length + ys.length ≤ sizeLine ∧ ∀ H' r, Same H H' → SqT X.K H' r (xs ++ ys) → Q (.ref r) H') := by
  intro pins s σ H x y v u Q I rx ry h
  obtain ⟨a, b, xs, ys, e1, e2, h1, h2, hl, q⟩ := h
  refine op_catA pins s σ H x y v u Q I rx ry ⟨a, b, xs, ys, e1, e2, h1, h2, hl, fun e => ?_, fun _ e => ?_, fun _ _ p hp => q _ p (same_upd hp) (SqT.of upd_same)⟩
  · subst e; exact q H b (Same.refl _) h2
  · subst e; exact q H a (Same.refl _) (by rw [List.append_nil]; exact h1)
structure LFac (P : Program) (w : World) (K : PySem.W.Frag) (mg : Str → Option Value) (base : Heap) (C fI fE p g : Addr) : Prop where
  O : OFac P w K mg base
  gR : GnP K mg sRemoved
  gH : GnP K mg sHeaps
  cPool : Cal P w K mg base 1 "_law_pool" (spPool K)
  cDraw : Cal P w K mg base 1 "_law_draw" spDraw
  cRand : Cal P w K mg base 3 "_law_random_numbers" spRandom
  cBag : Cal P w K mg base 2 "_law_bag" (spBag K)
  E : EffK K mg C fI fE p g
  mI : MtP P w K mg base 5 fI (spInit K C)
  mO : MtP P w K mg base 7 g (spOf K C)
  mE : MtP P w K mg base 1 fE (spEq (RParts K C))
theorem remN_insP (xs : List Int) : remN (insP xs) = xs.length + xs.length := by
  rw [← itms_len]
  unfold insP
  rw [itms_app, itms_ins, List.length_append, List.length_map]
  show _ + (List.replicate xs.length none ++ []).length = _
  simp
theorem cnt_insP {xs : List Int} (h : xs.length ≤ 1000) : ∀ st ∈ insP xs, st.cnt < 2 ^ 62 := fun st hst => by
  unfold insP at hst
  rcases List.mem_append.mp hst with q | q
  · obtain ⟨x, _, e⟩ := List.mem_map.mp q
    rw [← e]
    show 1 < 2 ^ 62
    decide
  · rw [List.mem_singleton.mp q]
    show xs.length < 2 ^ 62
    have : (1000 : Nat) < 2 ^ 62 := by decide
    omega
abbrev lawN : List Str := ["_law_script", "_law_k", "_law_pool_here", "_law_numbers", "_law_program", "_law_at", "_law_expected", "_law_part", "_law_number"]
theorem sc_law : FnScope lawN ["_law_script"] (defScope sLaw) := ⟨rfl, rfl, rfl, by decide +kernel, rfl, by decide +kernel, by decide +kernel⟩
section
variable {P : Program} {w : World} {K : PySem.W.Frag} {mg : Str → Option Value} {base : Heap} {C fI fE p g : Addr}
def spLaw (K : PySem.W.Frag) : Sp := fun vs H Q _ => ∃ (a : Addr) (ns : List Int), vs = [.ref a] ∧ SqL K H a (ns.map V.int) ∧ ∀ H', Q (.bl true) H'
abbrev lFor : Stmt := stAt (defBody sLaw) 0
abbrev lB (i : Nat) : Stmt := stAt (forBd lFor) i
section
variable {f : Addr} {cdv : Value} {A : Around} {outer : List Env} {s : Shared} {H0 : Hp} {E : XK} {j : Nat}
abbrev lX (P : Program) (w : World) (K : PySem.W.Frag) (mg : Str → Option Value) (base : Heap) (f : Addr) (cdv : Value) (A : Around) (outer : List Env) (s : Shared) (H0 : Hp) (E : XK) : Cx := (cxOf CX0 P w K mg base lawN (defName sLaw) (defScope sLaw) f cdv A outer s H0 E).nox
/-- the pool -/
theorem l_0 (F : LFac P w K mg base C fI fE p g) (hr : Room j (lX P w K mg base f cdv A outer s H0 E).A) (hj : 10 ≤ j) : ∃ tm, PS (lX P w K mg base f cdv A outer s H0 E) (lB 0) tm ∧ ∀ (D : Ends) (o2 o3 o4 o5 o6 o7 o8 : Option V) (H : Hp) (sc : Addr) (ns : List Int) (k : Nat), SqL K H sc (ns.map V.int) → k < 8 →
    (∀ (H' : Hp) (t : Addr) (q0 q1 : Int), Same H H' → H t = none → H' t = some (.lst [.int q0, .int q1]) → D.nx [some (.ref sc), some (.int k), some (.ref t), o3, o4, o5, o6, o7, o8] H') → tm D [some (.ref sc), some (.int k), o2, o3, o4, o5, o6, o7, o8] H := by
  refine ⟨_, ps_set (i := 2) sc_law.nd rfl (Or.inl rfl) (pe_cl F.cPool hr (by omega) (by rfl) (pa_cons (L2.pv 0) (pa_cons (L2.pv 1) pa_nil))), fun D o2 o3 o4 o5 o6 o7 o8 H sc ns k hs hk hQ => ?_⟩
  exact ⟨_, rfl, _, rfl, sc, ns, k, rfl, hs, hk, fun H1 t p0 p1 e1 e2 e3 _ _ => hQ H1 t p0 p1 e1 e3 e2⟩
/-- the numbers -/
theorem l_1 (F : LFac P w K mg base C fI fE p g) (hr : Room j (lX P w K mg base f cdv A outer s H0 E).A) (hj : 10 ≤ j) : ∃ tm, PS (lX P w K mg base f cdv A outer s H0 E) (lB 1) tm ∧ ∀ (D : Ends) (o0 o1 o3 o4 o5 o6 o7 o8 : Option V) (H : Hp) (t : Addr) (p0 p1 : Int), H t = some (.lst [.int p0, .int p1]) →
    (∀ (H' : Hp) (l : Addr) (xs : List Int) (q0 q1 : Int), (∀ b o, b ≠ t → H b = some o → H' b = some o) → H' t = some (.lst [.int q0, .int q1]) → H' l = some (.lst (xs.map V.int)) → l ≠ t → xs.length ≤ 31 → D.nx [o0, o1, some (.ref t), some (.ref l), o4, o5, o6, o7, o8] H') → tm D [o0, o1, some (.ref t), o3, o4, o5, o6, o7, o8] H := by
  refine ⟨_, ps_set (i := 3) sc_law.nd rfl (Or.inl rfl) (pe_cl F.cRand hr (by omega) (by rfl) (pa_cons (L2.pv 2) (pa_cons (pe_cl F.cDraw hr (by omega) (by rfl) (pa_cons (L2.pv 2) (pa_cons pe_int pa_nil))) (pa_cons pe_int pa_nil)))), fun D o0 o1 o3 o4 o5 o6 o7 o8 H t p0 p1 ht hQ => ?_⟩
  refine ⟨_, rfl, _, rfl, t, 31, p0, p1, rfl, by decide, by decide, ht, fun q0 q1 r hr0 hr1 => ?_⟩
  have er : r = ((r.toNat : Nat) : Int) := (Int.toNat_of_nonneg hr0).symm
  refine ⟨t, r.toNat, q0, q1, (by rw [← er]; rfl), by omega, upd_same, fun H2 l xs z0 z1 g1 g2 g3 g4 g5 => ?_⟩
  have hlt : l ≠ t := fun z => by rw [z, upd_same] at g4; cases g4
  exact hQ H2 l xs z0 z1 (fun v u z e => g1 v u z (by rw [upd_ne z]; exact e)) g2 g3 hlt (by omega)
/-- the insertions of a list of numbers -/
abbrev teIns : TE := tTup (tCons (tC (.str "insert")) (tCons (tVar 8) (tCons (tC (.int 1)) tNil)))
theorem rd_comp {i : Nat} {l : Addr} {xs : List Int} {H : Hp} {Q : VK} (o0 o1 o2 o3 o4 o5 o6 o7 o8 : Option V) (hl : SqL K H l (xs.map V.int)) (hn : xs.length ≤ 100) (hi : [o0, o1, o2, o3, o4, o5, o6, o7, o8][i]? = some (some (.ref l)))
    (hQ : ∀ (H' : Hp) (d : Addr) (as : List Addr), Same H H' → H d = none → H' d = some (.lst (as.map V.ref)) → Paired (fun (b : Addr) (st : Sx) => SqT K H' b st.vs) as (xs.map Sx.ins) → Q (.ref d) H') :
    tLc (iList K (tVar i)) (gName 8) tYes teIns [8] [o0, o1, o2, o3, o4, o5, o6, o7, o8] H Q := by
  refine ⟨_, hi, l, rfl, ⟨_, hl⟩, fun d hd => ?_⟩
  refine lc_it (walk_list (xs := xs.map V.int)) (fun i H2 => Same H H2 ∧ ∃ as, H2 d = some (.lst (as.map V.ref)) ∧ Paired (fun (b : Addr) (st : Sx) => SqT K H2 b st.vs) as ((xs.take i).map Sx.ins) ∧ as.length = i) ⟨same_upd hd, [], upd_same, .nil, rfl⟩ (fun i H2 _ h => sql_same h.1 hl) (fun i x H1 H2 hi h y => ?_) (fun H2 h => ?_)
  · obtain ⟨g1, as, g2, g3, g4⟩ := h
    obtain ⟨rfl, hx⟩ := y
    rw [List.getElem?_map, Option.map_eq_some_iff] at hx
    obtain ⟨k, hk, rfl⟩ := hx
    have hi' : i < xs.length := (List.getElem?_eq_some_iff.mp hk).1
    refine ⟨rfl, ?_⟩
    refine ⟨_, rfl, by show 3 ≤ sizeLine; decide, fun q hq => ?_⟩
    have nq : d ≠ q := ne_of_none g2 hq
    have sq : ∀ (u : HO) (b : Addr) (o : HO), H2 b = some o → b ≠ d → (upd (upd H2 q (.tup [.str "insert", .int k, .int 1])) d u) b = some o := fun u b o e z => by
      rw [upd_ne z, upd_ne (ne_of_none e hq)]
      exact e
    refine ⟨_, by rw [upd_ne nq]; exact g2, small1000 (by rw [List.length_map]; omega), (fun v o e => sq _ _ _ (g1 v o e) (fun z => by rw [z, hd] at e; cases e)), as ++ [q], by rw [upd_same, List.map_append]; rfl, ?_, by simp [g4]⟩
    rw [take_snoc hk, List.map_append]
    refine paired_snoc (F := fun (b : Addr) (st : Sx) => SqT K _ b st.vs) (Paired.imp (fun a p hs => ?_) g3) (SqT.of ?_)
    · rcases hs with (hs | ⟨o, hs⟩) | hs
      · exact .inl (.inl (sq _ _ _ hs fun z => by rw [z, g2] at hs; cases hs))
      · exact .inl (.inr ⟨o, sq _ _ _ hs fun z => by rw [z, g2] at hs; cases hs⟩)
      · exact .inr hs
    · rw [upd_ne nq.symm, upd_same]
      rfl
  · obtain ⟨g1, as, g2, g3, g4⟩ := h
    rw [List.length_map, List.take_length] at g3
    exact hQ H2 d as g1 hd g2 g3
/-- the program -/
theorem l_2 (F : LFac P w K mg base C fI fE p g) (hr : Room j (lX P w K mg base f cdv A outer s H0 E).A) (hj : 10 ≤ j) : ∃ tm, PS (lX P w K mg base f cdv A outer s H0 E) (lB 2) tm ∧ ∀ (D : Ends) (o0 o1 o2 o4 o5 o6 o7 o8 : Option V) (H : Hp) (l : Addr) (xs : List Int), H l = some (.lst (xs.map V.int)) → xs.length ≤ 31 →
    (∀ (H' : Hp) (pr : Addr), Same H H' → IsProg K H' pr (insP xs) → D.nx [o0, o1, o2, some (.ref l), some (.ref pr), o5, o6, o7, o8] H') → tm D [o0, o1, o2, some (.ref l), o4, o5, o6, o7, o8] H := by
  refine ⟨_, ps_set (i := 4) sc_law.nd rfl (Or.inl rfl) (pe_callTy call_tupF (by rfl) (F.O.fr _ (by decide)) (by decide +kernel) (pa_cons (pe_op op_cat (pe_lc (own := [("_law_number", 8)]) (g := gName 8) (tt := tYes) (te := teIns) rfl sc_law.nd (pi_list (L2.pv 3)) (blkOk_by (N := lawN) (sc := defScope sLaw) (by decide +kernel))
      (fun _ _ _ _ _ => pg_name (i := 8) sc_law.nd rfl (Or.inl rfl)) (fun _ _ _ _ _ => pts_nil) (fun _ _ _ _ _ => pe_tup (pa_cons pe_str (pa_cons (L2.pv 8) (pa_cons pe_int pa_nil)))))
      (pe_lst (pa_cons (pe_tup (pa_cons pe_str (pa_cons (pe_callB call_len_seq (by rfl) (F.O.fr _ (by decide)) (by decide +kernel) (pa_cons (L2.pv 3) pa_nil)) pa_nil))) pa_nil))) pa_nil)), fun D o0 o1 o2 o4 o5 o6 o7 o8 H l xs hl hn hQ => ?_⟩
  simp only [tAsg, tCB, tCons, tOp]
  refine rd_comp (i := 3) o0 o1 o2 (some (.ref l)) o4 o5 o6 o7 o8 (SqL.of hl) (by omega) rfl fun H1 d as s1 _ g1 g2 => ?_
  have hl1 := s1 _ _ hl
  refine ⟨_, rfl, l, _, rfl, .inl (SqL.of hl1), by show 2 ≤ sizeLine; decide, fun q hq => ⟨by show 1 ≤ sizeLine; decide, fun z hz => ?_⟩⟩
  have eL : (xs.map V.int).length = xs.length := List.length_map ..
  rw [eL] at hz ⊢
  have s2 : Same H1 (upd H1 q (.tup [.str "remove", .int xs.length])) := same_upd hq
  have s3 := same_upd (o := .lst [.ref q]) hz
  have hl2 := Paired.length g2
  rw [List.length_map] at hl2
  have hz1 : as.length + 1 ≤ sizeLine := by
    have : (1000 : Nat) < sizeLine := by decide
    omega
  refine ⟨d, z, _, _, rfl, rfl, s3 _ _ (s2 _ _ g1), upd_same, by rw [List.length_map]; exact hz1, fun y hy => ?_⟩
  have s4 := same_upd (o := .lst (as.map V.ref ++ [.ref q])) hy
  refine ⟨y, _, rfl, SqL.of upd_same, fun u o hu ho => ?_⟩
  have s5 := same_upd (o := .frz o (.tup (as.map V.ref ++ [.ref q]))) hu
  have tot : Same H1 _ := ((s2.trans s3).trans s4).trans s5
  refine hQ _ u (s1.trans tot) ⟨as ++ [q], .inl (.inr ⟨o, by rw [upd_same, List.map_append]; rfl⟩), ?_⟩
  unfold insP
  refine paired_snoc (F := fun (b : Addr) (st : Sx) => SqT K _ b st.vs) (Paired.imp (fun a p hs => sqt_same tot hs) g2) (SqT.of ?_)
  exact s5 _ _ (s4 _ _ (s3 _ _ upd_same))
end
end
end Gk

/-! Lw3 -/
set_option Elab.async false
set_option linter.all false
set_option maxRecDepth 100000
set_option maxHeartbeats 4000000
namespace Gk
open PySem PySem.Spec PyProof.Rows L2
theorem IsProg.same' {K : PySem.W.Frag} {H H' : Hp} {a : Addr} {ps : List Sx} (e : Same H H') (h : IsProg K H a ps) : IsProg K H' a ps := h.same e
theorem runOk {K : PySem.W.Frag} {H : Hp} {b p : Addr} {o : Obj} {xs : List Int} (hb : H b = some (.frz o (.tup []))) (ho : o.dict = none) (hp : IsProg K H p (insP xs)) (hn : xs.length ≤ 31) : RunOk K H b p [] (insP xs) (srt xs) :=
  ⟨bag_nil hb ho, hp, sim_insP (srt_sorted xs) (srt_perm xs), by rw [remN_insP, flat_nil]; simp; omega, cnt_insP (by omega)⟩
section
variable {P : Program} {w : World} {K : PySem.W.Frag} {mg : Str → Option Value} {base : Heap} {C fI fE p g : Addr} {f : Addr} {cdv : Value} {A : Around} {outer : List Env} {s : Shared} {H0 : Hp} {E : XK} {j : Nat}
/-- sorting by a heap -/
theorem l_3 (F : LFac P w K mg base C fI fE p g) (hr : Room j (lX P w K mg base f cdv A outer s H0 E).A) (hj : 10 ≤ j) : ∃ tm, PS (lX P w K mg base f cdv A outer s H0 E) (lB 3) tm ∧ ∀ (D : Ends) (o0 o1 o2 o5 o6 o7 o8 : Option V) (H : Hp) (l pr : Addr) (xs : List Int), H l = some (.lst (xs.map V.int)) → xs.length ≤ 31 → IsProg K H pr (insP xs) →
    (∀ (H' : Hp), Same H H' → D.nx [o0, o1, o2, some (.ref l), some (.ref pr), o5, o6, o7, o8] H') → tm D [o0, o1, o2, some (.ref l), some (.ref pr), o5, o6, o7, o8] H := by
  refine ⟨_, ps_if (PW.pt (pw_or (pt_cmpR (op_neInts hr.units) (pe_listR F.O F.gR hr hj (by rfl) (by rfl) (by rfl) (by rfl) (pa_cons (pe_tupF pa_nil) (pa_cons (L2.pv 4) pa_nil))) (pe_callB cr_sortedI (by rfl) (F.O.fr _ (by decide)) (by decide +kernel) (pa_cons (L2.pv 3) pa_nil)) (nomark _))
      (pw_or1 (pt_cmpR (op_neD hr.units) (pe_ix ix_list (pe_listH F.O F.gH hr hj rfl (by rfl) (by rfl) (by rfl) (by rfl) (pa_cons (pe_tupF pa_nil) (pa_cons (L2.pv 4) pa_nil))) (pe_un un_neg pe_int) (fun _ _ => rfl)) (pe_tup pa_nil) (nomark _))))) pss_never pss_nil, fun D o0 o1 o2 o5 o6 o7 o8 H l pr xs hl hn hp hQ => ?_⟩
  refine ⟨Nat.zero_le _, fun b o hb ho => ⟨_, rfl, b, pr, [], insP xs, srt xs, rfl, runOk upd_same ho (hp.same (same_upd hb)) hn, fun H2 r1 s2 _ hr1 => ?_⟩⟩
  have t2 : Same H H2 := (same_upd hb).trans s2
  refine ⟨_, rfl, l, xs, rfl, SqL.of (t2 _ _ hl), fun ns' q pm sd hq => ?_⟩
  have s3 := same_upd (o := .lst (ns'.map V.int)) hq
  have t3 := t2.trans s3
  refine ⟨r1, q, srt xs, ns', rfl, rfl, SqL.of (s3 _ _ hr1), SqL.of upd_same, false, bl_nf (sorted_eq (srt_sorted xs) sd ((srt_perm xs).trans pm.symm)), ?_⟩
  refine ⟨Nat.zero_le _, fun b2 o2 hb2 ho2 => ⟨_, rfl, b2, pr, [], insP xs, srt xs, rfl, runOk upd_same ho2 (hp.same (t3.trans (same_upd hb2))) hn, fun H5 r2 ys t s5 _ hr2 ht => ?_⟩⟩
  have t5 := (t3.trans (same_upd hb2)).trans s5
  refine ⟨1, rfl, r2, _, -1, .ref t, rfl, rfl, SqL.of hr2, atI_last _ _, Nat.zero_le _, fun z hz => ?_⟩
  have s6 := same_upd (o := .tup []) hz
  exact ⟨.tuple [], .tuple [], .tup (sqt_same s6 ht) .nil, .tup (SqT.of upd_same) .nil, by decide +kernel, by decide +kernel, false, rfl, hQ _ (t5.trans s6)⟩
/-- the effect of the program -/
theorem l_4 (F : LFac P w K mg base C fI fE p g) (hr : Room j (lX P w K mg base f cdv A outer s H0 E).A) (hj : 10 ≤ j) : ∃ tm, PS (lX P w K mg base f cdv A outer s H0 E) (lB 4) tm ∧ ∀ (D : Ends) (o0 o1 o2 o5 o6 o7 o8 : Option V) (H : Hp) (l pr : Addr) (xs : List Int), H l = some (.lst (xs.map V.int)) → xs.length ≤ 31 → IsProg K H pr (insP xs) →
    (∀ (H' : Hp), Same H H' → D.nx [o0, o1, o2, some (.ref l), some (.ref pr), o5, o6, o7, o8] H') → tm D [o0, o1, o2, some (.ref l), some (.ref pr), o5, o6, o7, o8] H := by
  obtain ⟨fdE, psE, fE1, bE⟩ := F.mE.ex
  obtain ⟨fdO, psO, fO1, bO⟩ := F.mO.ex
  refine ⟨_, ps_if (pt_not (pt_cmpR (op_eqG (rcG_ins fE1 F.E.eqf F.E.eqi bE (pass0 (E := E0))) (hr.mono (by omega))) (ClX.pe_cmeth (pe_glob (v := .ref C) (by rfl) F.E.mgE rfl) F.E.rd F.E.cm (fO1.raw bO .nil) (hr.mono (by omega)) (pass0 (E := E0)) (pa_cons (L2.pv 4) pa_nil))
      (pe_mk F.E.mkE F.mI hr (by omega) (by rfl) F.E.mgE (pa_cons (pe_cl F.cBag hr (by omega) (by rfl) (pa_cons (L2.pv 3) pa_nil)) (pa_cons (pe_callB call_len_seq (by rfl) (F.O.fr _ (by decide)) (by decide +kernel) (pa_cons (L2.pv 3) pa_nil)) (pa_cons (pe_tupF pa_nil) pa_nil)))) (nomark _))) pss_never pss_nil, fun D o0 o1 o2 o5 o6 o7 o8 H l pr xs hl hn hp hQ => ?_⟩
  refine ⟨rfl, _, rfl, pr, xs, rfl, hp, by omega, fun H2 x1 dx1 t1 a1 b1 I1 s2 hx1 ht1 hI1 hb1 pI1 => ?_⟩
  refine ⟨_, rfl, l, xs, rfl, SqL.of (s2 _ _ hl), by omega, fun H3 tb J s3 hJ pJ => ?_⟩
  have t3 := s2.trans s3
  refine ⟨_, rfl, l, _, rfl, .inl (SqL.of (t3 _ _ hl)), Nat.zero_le _, fun b2 o2 hb2 ho2 => ?_⟩
  have s4 := same_upd (o := .frz o2 (.tup [])) hb2
  intro x2 dx2 hx2 hdx2 hne
  have s5 : Same (upd H3 b2 (.frz o2 (.tup []))) (upd (upd (upd H3 b2 (.frz o2 (.tup []))) dx2 (.own x2)) x2 (.ins C dx2 [])) := fun v u z => by
    rw [upd_ne (ne_of_none z hx2), upd_ne (ne_of_none z hdx2)]
    exact z
  have t5 := (s3.trans s4).trans s5
  have eL : (xs.map V.int).length = xs.length := List.length_map ..
  rw [eL]
  refine ⟨x2, tb, b2, dx2, xs.length, J, rfl, upd_same, hJ.same (s4.trans s5), bag_nil (s5 _ _ upd_same) ho2, Nat.le_of_eq pJ.length_eq, fun H6 t2 h6 hx6 ht6 hJ6 hb6 => ⟨rfl, ?_⟩⟩
  have eIJ : I1 = J := flat_inj hI1.isB hJ.isB (pI1.trans pJ.symm)
  subst eIJ
  have t6 : Same H2 H6 := fun v u z => h6 v u (fun y => by
    have := (s3.trans s4) _ _ z
    rw [y, hx2] at this
    cases this) (t5 _ _ z)
  refine ⟨⟨x1, x2, dx1, dx2, _, _, rfl, rfl, t6 _ _ hx1, hx6, dx1, dx2, t1, t2, partsD I1 xs.length, t6 _ _ hx1, hx6, dp_parts (sqt_same t6 ht1) (hI1.same t6) (hb1.same t6), dp_parts ht6 hJ6 hb6, partsD_shaped _ _⟩, fun H7 e7 => ?_⟩
  exact ⟨true, rfl, hQ _ fun v u z => e7 _ _ (t6 _ _ (s2 _ _ z))⟩
/-- where to cut -/
theorem l_5 (F : LFac P w K mg base C fI fE p g) (hr : Room j (lX P w K mg base f cdv A outer s H0 E).A) (hj : 10 ≤ j) : ∃ tm, PS (lX P w K mg base f cdv A outer s H0 E) (lB 5) tm ∧ ∀ (D : Ends) (o0 o1 o4 o5 o6 o7 o8 : Option V) (H : Hp) (t l : Addr) (xs : List Int) (p0 p1 : Int), H t = some (.lst [.int p0, .int p1]) → H l = some (.lst (xs.map V.int)) → xs.length ≤ 31 →
    (∀ (H' : Hp) (r : Int), (∀ b o, b ≠ t → H b = some o → H' b = some o) → D.nx [o0, o1, some (.ref t), some (.ref l), o4, some (.int r), o6, o7, o8] H') → tm D [o0, o1, some (.ref t), some (.ref l), o4, o5, o6, o7, o8] H := by
  refine ⟨_, ps_set (i := 5) sc_law.nd rfl (Or.inl rfl) (pe_cl F.cDraw hr (by omega) (by rfl) (pa_cons (L2.pv 2) (pa_cons (pe_op op_add (pe_callB call_len_seq (by rfl) (F.O.fr _ (by decide)) (by decide +kernel) (pa_cons (L2.pv 3) pa_nil)) pe_int) pa_nil))), fun D o0 o1 o4 o5 o6 o7 o8 H t l xs p0 p1 ht hl hn hQ => ?_⟩
  have eL : (xs.map V.int).length = xs.length := List.length_map ..
  refine ⟨_, rfl, _, rfl, l, _, rfl, .inl (SqL.of hl), _, _, rfl, rfl, t, _, p0, p1, rfl, ?_, ?_, ht, fun q0 q1 r _ _ => hQ _ r fun b o z e => by rw [upd_ne z]; exact e⟩
  · rw [eL]; omega
  · rw [eL]; omega
/-- nothing yet -/
theorem l_6 (F : LFac P w K mg base C fI fE p g) (hr : Room j (lX P w K mg base f cdv A outer s H0 E).A) (hj : 10 ≤ j) : ∃ tm, PS (lX P w K mg base f cdv A outer s H0 E) (lB 6) tm ∧ ∀ (D : Ends) (o0 o1 o2 o3 o4 o5 o6 o7 o8 : Option V) (H : Hp), (∀ (H' : Hp) (pr e : Addr), Same H H' → SqT K H' pr [] → H' e = some (.lst []) → D.nx [o0, o1, o2, o3, some (.ref pr), o5, some (.ref e), o7, o8] H') → tm D [o0, o1, o2, o3, o4, o5, o6, o7, o8] H := by
  refine ⟨_, ps_par (i := 4) (j := 6) (by rfl) sc_law.nd rfl rfl (by decide) rfl rfl (pa_cons (pe_tup pa_nil) (pa_cons (pe_lst pa_nil) pa_nil)) (by rfl), fun D o0 o1 o2 o3 o4 o5 o6 o7 o8 H hQ => ?_⟩
  refine ⟨Nat.zero_le _, fun a ha => ⟨Nat.zero_le _, fun b hb => ⟨_, _, rfl, ?_⟩⟩⟩
  have s1 := same_upd (o := .tup []) ha
  have s2 := same_upd (o := .lst []) hb
  exact hQ _ a b (s1.trans s2) (SqT.of (s2 _ _ upd_same)) upd_same
/-- the whole of it -/
theorem l_8 (F : LFac P w K mg base C fI fE p g) (hr : Room j (lX P w K mg base f cdv A outer s H0 E).A) (hj : 10 ≤ j) : ∃ tm, PS (lX P w K mg base f cdv A outer s H0 E) (lB 8) tm ∧ ∀ (D : Ends) (o0 o1 o2 o3 o5 o7 o8 : Option V) (H : Hp) (pr e : Addr) (ps : List Sx) (R : List Int), IsProg K H pr ps → H e = some (.lst (R.map V.int)) → Sim [] (itms ps) R → remN ps ≤ 500 → (∀ st ∈ ps, st.cnt < 2 ^ 62) →
    (∀ (H' : Hp), Same H H' → D.nx [o0, o1, o2, o3, some (.ref pr), o5, some (.ref e), o7, o8] H') → tm D [o0, o1, o2, o3, some (.ref pr), o5, some (.ref e), o7, o8] H := by
  refine ⟨_, ps_if (pt_cmpR (op_neInts hr.units) (pe_listR F.O F.gR hr hj (by rfl) (by rfl) (by rfl) (by rfl) (pa_cons (pe_tupF pa_nil) (pa_cons (L2.pv 4) pa_nil))) (L2.pv 6) (nomark _)) pss_never pss_nil, fun D o0 o1 o2 o3 o5 o7 o8 H pr e ps R hp he hsim hlen hcnt hQ => ?_⟩
  refine ⟨Nat.zero_le _, fun b o hb ho => ⟨_, rfl, b, pr, [], ps, R, rfl, ⟨bag_nil upd_same ho, hp.same (same_upd hb), hsim, by rw [flat_nil]; simpa using hlen, hcnt⟩, fun H2 r1 s2 _ hr1 => ?_⟩⟩
  have t2 : Same H H2 := (same_upd hb).trans s2
  exact ⟨_, rfl, r1, e, R, R, rfl, rfl, SqL.of hr1, SqL.of (t2 _ _ he), false, bl_nf rfl, hQ _ t2⟩
end
end Gk

/-! Lw4 -/
set_option Elab.async false
set_option linter.all false
set_option maxRecDepth 100000
set_option maxHeartbeats 4000000
namespace Gk
open PySem PySem.Spec PyProof.Rows L2
theorem cutI_len (ns : List Int) (lo hi : Option Int) : (cutI ns lo hi).length ≤ ns.length := by
  unfold cutI
  rw [List.length_take, List.length_drop]
  omega
theorem paired_app {α β : Type} {F : α → β → Prop} : ∀ {l l' : List α} {m m' : List β}, Paired F l m → Paired F l' m' → Paired F (l ++ l') (m ++ m')
  | _, _, _, _, .nil, h => h
  | _, _, _, _, .cons r t, h => .cons r (paired_app t h)
section
variable {P : Program} {w : World} {K : PySem.W.Frag} {mg : Str → Option Value} {base : Heap} {C fI fE p g : Addr} {f : Addr} {cdv : Value} {A : Around} {outer : List Env} {s : Shared} {H0 : Hp} {E : XK} {j : Nat}
abbrev lFor2 : Stmt := lB 7
abbrev lC (i : Nat) : Stmt := stAt (forBd lFor2) i
/-- one more part: the program -/
theorem l_70 (F : LFac P w K mg base C fI fE p g) (hr : Room j (lX P w K mg base f cdv A outer s H0 E).A) (hj : 10 ≤ j) : ∃ tm, PS (lX P w K mg base f cdv A outer s H0 E) (lC 0) tm ∧ ∀ (D : Ends) (o0 o1 o2 o3 o5 o6 o8 : Option V) (H : Hp) (l pr : Addr) (xs : List Int) (ps : List Sx), SqL K H l (xs.map V.int) → xs.length ≤ 31 → IsProg K H pr ps → ps.length ≤ 100 →
    (∀ (H' : Hp) (pr' : Addr), Same H H' → IsProg K H' pr' (ps ++ insP xs) → D.nx [o0, o1, o2, o3, some (.ref pr'), o5, o6, some (.ref l), o8] H') → tm D [o0, o1, o2, o3, some (.ref pr), o5, o6, some (.ref l), o8] H := by
  refine ⟨_, ps_set (i := 4) sc_law.nd rfl (Or.inl rfl) (pe_op op_catU (pe_op op_catU (L2.pv 4) (pe_callTy call_tupF (by rfl) (F.O.fr _ (by decide)) (by decide +kernel) (pa_cons (pe_lc (own := [("_law_number", 8)]) (g := gName 8) (tt := tYes) (te := teIns) rfl sc_law.nd (pi_list (L2.pv 7)) (blkOk_by (N := lawN) (sc := defScope sLaw) (by decide +kernel))
      (fun _ _ _ _ _ => pg_name (i := 8) sc_law.nd rfl (Or.inl rfl)) (fun _ _ _ _ _ => pts_nil) (fun _ _ _ _ _ => pe_tup (pa_cons pe_str (pa_cons (L2.pv 8) (pa_cons pe_int pa_nil))))) pa_nil)))
      (pe_tup (pa_cons (pe_tup (pa_cons pe_str (pa_cons (pe_callB call_len_seq (by rfl) (F.O.fr _ (by decide)) (by decide +kernel) (pa_cons (L2.pv 7) pa_nil)) pa_nil))) pa_nil))), fun D o0 o1 o2 o3 o5 o6 o8 H l pr xs ps hl hn hp hps hQ => ?_⟩
  simp only [tAsg, tCB, tCons, tOp]
  obtain ⟨as, p1, p2⟩ := hp
  have hal := Paired.length p2
  have hbig : (1000 : Nat) < sizeLine := by decide
  refine ⟨_, rfl, ?_⟩
  refine rd_comp (i := 7) o0 o1 o2 o3 (some (.ref pr)) o5 o6 (some (.ref l)) o8 hl (by omega) rfl fun H1 d bs s1 _ g1 g2 => ?_
  have hbl := Paired.length g2
  rw [List.length_map] at hbl
  refine ⟨d, _, rfl, SqL.of g1, fun u o hu ho => ?_⟩
  have s2 := same_upd (o := .frz o (.tup (bs.map V.ref))) hu
  refine ⟨pr, u, as.map V.ref, bs.map V.ref, rfl, rfl, sqt_same (s1.trans s2) p1, .inl (.inr ⟨o, upd_same⟩), by rw [List.length_map, List.length_map]; omega, fun H2 r s3 hr2 => ?_⟩
  have t3 := (s1.trans s2).trans s3
  refine ⟨_, rfl, l, _, rfl, .inl (sql_same t3 hl), by show 2 ≤ sizeLine; decide, fun q hq => ⟨by show 1 ≤ sizeLine; decide, fun z hz => ?_⟩⟩
  have eL : (xs.map V.int).length = xs.length := List.length_map ..
  rw [eL] at hz ⊢
  have s4 : Same H2 (upd H2 q (.tup [.str "remove", .int xs.length])) := same_upd hq
  have s5 := same_upd (o := .tup [.ref q]) hz
  refine ⟨r, z, _, [.ref q], rfl, rfl, sqt_same (s4.trans s5) hr2, SqT.of upd_same, by rw [List.length_append, List.length_map, List.length_map]; simp only [List.length_singleton]; omega, fun H3 v s6 hv => ?_⟩
  have t6 := (s4.trans s5).trans s6
  refine hQ H3 v (t3.trans t6) ⟨as ++ (bs ++ [q]), by rw [List.map_append, List.map_append, ← List.append_assoc]; exact hv, ?_⟩
  refine paired_app (Paired.imp (fun _ _ y => sqt_same (t3.trans t6) y) p2) ?_
  unfold insP
  refine paired_snoc (F := fun (b : Addr) (st : Sx) => SqT K _ b st.vs) (Paired.imp (fun a p hs => sqt_same ((s2.trans s3).trans t6) hs) g2) (SqT.of ?_)
  exact s6 _ _ (s5 _ _ upd_same)
/-- .. what is expected -/
theorem l_71 (F : LFac P w K mg base C fI fE p g) (hr : Room j (lX P w K mg base f cdv A outer s H0 E).A) (hj : 10 ≤ j) : ∃ tm, PS (lX P w K mg base f cdv A outer s H0 E) (lC 1) tm ∧ ∀ (D : Ends) (o0 o1 o2 o3 o4 o5 o8 : Option V) (H : Hp) (l e : Addr) (xs R : List Int), SqL K H l (xs.map V.int) → H e = some (.lst (R.map V.int)) → R.length + xs.length ≤ 100 →
    (∀ (H' : Hp) (e' : Addr), Same H H' → H' e' = some (.lst ((R ++ srt xs).map V.int)) → D.nx [o0, o1, o2, o3, o4, o5, some (.ref e'), some (.ref l), o8] H') → tm D [o0, o1, o2, o3, o4, o5, some (.ref e), some (.ref l), o8] H := by
  refine ⟨_, ps_set (i := 6) sc_law.nd rfl (Or.inl rfl) (pe_op op_cat (L2.pv 6) (pe_callB cr_sortedI (by rfl) (F.O.fr _ (by decide)) (by decide +kernel) (pa_cons (L2.pv 7) pa_nil))), fun D o0 o1 o2 o3 o4 o5 o8 H l e xs R hl he hn hQ => ?_⟩
  refine ⟨_, rfl, _, rfl, l, xs, rfl, hl, fun ns' q pm sd hq => ?_⟩
  have s3 := same_upd (o := .lst (ns'.map V.int)) hq
  have e1 : ns' = srt xs := sorted_eq sd (srt_sorted xs) (pm.trans (srt_perm xs).symm)
  subst e1
  have hbig : (1000 : Nat) < sizeLine := by decide
  have hsl := (srt_perm xs).length_eq
  refine ⟨e, q, _, _, rfl, rfl, s3 _ _ he, upd_same, by rw [List.length_map, List.length_map]; omega, fun z hz => ?_⟩
  have s4 := same_upd (o := .lst (R.map V.int ++ (srt xs).map V.int)) hz
  exact hQ _ z (s3.trans s4) (by rw [upd_same, List.map_append])
/-- both parts -/
theorem l_7 (F : LFac P w K mg base C fI fE p g) (hr : Room j (lX P w K mg base f cdv A outer s H0 E).A) (hj : 10 ≤ j) : ∃ tm, PS (lX P w K mg base f cdv A outer s H0 E) (lB 7) tm ∧ ∀ (D : Ends) (o0 o1 o2 o7 o8 : Option V) (H : Hp) (l pr e : Addr) (xs : List Int) (r : Int), SqL K H l (xs.map V.int) → xs.length ≤ 31 → SqT K H pr [] → H e = some (.lst []) →
    (∀ (H' : Hp) (pr' e' : Addr) (o7' : Option V) (ys zs : List Int), Same H H' → ys.length ≤ 31 → zs.length ≤ 31 → IsProg K H' pr' (insP ys ++ insP zs) → H' e' = some (.lst ((srt ys ++ srt zs).map V.int)) → D.nx [o0, o1, o2, some (.ref l), some (.ref pr'), some (.int r), some (.ref e'), o7', o8] H') → tm D [o0, o1, o2, some (.ref l), some (.ref pr), some (.int r), some (.ref e), o7, o8] H := by
  obtain ⟨t0, q0, r0⟩ := l_70 (P := P) (w := w) (K := K) (mg := mg) (base := base) (f := f) (cdv := cdv) (A := A) (outer := outer) (s := s) (H0 := H0) (E := E) F hr hj
  obtain ⟨t1, q1, r1⟩ := l_71 (P := P) (w := w) (K := K) (mg := mg) (base := base) (f := f) (cdv := cdv) (A := A) (outer := outer) (s := s) (H0 := H0) (E := E) F hr hj
  refine ⟨_, ps_for (body := [lC 0, lC 1]) PassesOwn.never rfl (pi_list (pe_lst (pa_cons (pe_slice sl_list (L2.pv 3) po_none (po_some (L2.pv 5))) (pa_cons (pe_slice sl_list (L2.pv 3) (po_some (L2.pv 5)) po_none) pa_nil)))) (pg_name (i := 7) sc_law.nd rfl (Or.inl rfl)) (pss_cons q0 (pss_one q1)), fun D o0 o1 o2 o7 o8 H l pr e xs r hl hn hp he hQ => ?_⟩
  refine ⟨_, rfl, _, rfl, r, rfl, l, _, rfl, hl, fun l1 hl1 => ?_⟩
  rw [cutV_ints]
  have s1 := same_upd (o := .lst ((cutI xs none (some r)).map V.int)) hl1
  refine ⟨_, rfl, _, rfl, r, rfl, l, _, rfl, sql_same s1 hl, fun l2 hl2 => ?_⟩
  rw [cutV_ints]
  have s2 := same_upd (o := .lst ((cutI xs (some r) none).map V.int)) hl2
  refine ⟨by show 2 ≤ sizeLine; decide, fun l3 hl3 => ?_⟩
  have s3 := same_upd (o := .lst [.ref l1, .ref l2]) hl3
  obtain ⟨ys, hys⟩ : ∃ ys, cutI xs none (some r) = ys := ⟨_, rfl⟩
  obtain ⟨zs, hzs⟩ : ∃ zs, cutI xs (some r) none = zs := ⟨_, rfl⟩
  have ly : ys.length ≤ 31 := by rw [← hys]; exact Nat.le_trans (cutI_len _ _ _) hn
  have lz : zs.length ≤ 31 := by rw [← hzs]; exact Nat.le_trans (cutI_len _ _ _) hn
  refine ⟨l3, rfl, ⟨_, SqL.of upd_same⟩, ?_⟩
  have t3 := (s1.trans s2).trans s3
  obtain ⟨H3, hH3⟩ : ∃ H3 : Hp, H3 = upd (upd (upd H l1 (.lst ((cutI xs none (some r)).map V.int))) l2 (.lst ((cutI xs (some r) none).map V.int))) l3 (.lst [.ref l1, .ref l2]) := ⟨_, rfl⟩
  have h31 : H3 l1 = some (.lst (ys.map V.int)) := by rw [hH3, ← hys]; exact s3 _ _ (s2 _ _ upd_same)
  have h32 : H3 l2 = some (.lst (zs.map V.int)) := by rw [hH3, ← hzs]; exact s3 _ _ upd_same
  have h33 : H3 l3 = some (.lst [.ref l1, .ref l2]) := by rw [hH3]; exact upd_same
  rw [← hH3] at t3 ⊢
  refine for_list (xs := [V.ref l1, V.ref l2]) (fun i σ' H' => ∃ (pr' e' : Addr) (o7' : Option V), σ' = [o0, o1, o2, some (.ref l), some (.ref pr'), some (.int r), some (.ref e'), o7', o8] ∧ Same H3 H' ∧ IsProg K H' pr' (([ys, zs].take i).flatMap insP) ∧ H' e' = some (.lst ((([ys, zs].take i).flatMap srt).map V.int)))
    ⟨pr, e, o7, rfl, Same.refl _, ⟨[], sqt_same t3 hp, .nil⟩, t3 _ _ he⟩ (fun i σ' H' _ h => ?_) (fun i x σ' H' hx h => ?_) (fun σ' H' h => ?_)
  · obtain ⟨_, _, _, _, hs, _⟩ := h
    exact SqL.of (hs _ _ h33)
  · obtain ⟨pr', e', o7', rfl, hs, g1, g2⟩ := h
    match i, hx with
    | 0, hx =>
      cases hx
      refine r0 _ o0 o1 o2 (some (.ref l)) (some (.int r)) (some (.ref e')) o8 H' l1 pr' ys [] (SqL.of (hs _ _ h31)) ly g1 (Nat.zero_le _) fun H4 pr4 s4 g4 => ?_
      refine r1 _ o0 o1 o2 (some (.ref l)) (some (.ref pr4)) (some (.int r)) o8 H4 l1 e' ys [] (SqL.of (s4 _ _ (hs _ _ h31))) (s4 _ _ g2) (by simp; omega) fun H5 e5 s5 g5 => ?_
      exact ⟨pr4, e5, some (.ref l1), rfl, (hs.trans s4).trans s5, by simpa using g4.same s5, by simpa using g5⟩
    | 1, hx =>
      cases hx
      refine r0 _ o0 o1 o2 (some (.ref l)) (some (.int r)) (some (.ref e')) o8 H' l2 pr' zs (insP ys) (SqL.of (hs _ _ h32)) lz (by simpa using g1) (by rw [insP_len]; omega) fun H4 pr4 s4 g4 => ?_
      have hy := (srt_perm ys).length_eq
      refine r1 _ o0 o1 o2 (some (.ref l)) (some (.ref pr4)) (some (.int r)) o8 H4 l2 e' zs (srt ys) (SqL.of (s4 _ _ (hs _ _ h32))) (by simpa using s4 _ _ g2) (by omega) fun H5 e5 s5 g5 => ?_
      exact ⟨pr4, e5, some (.ref l2), rfl, (hs.trans s4).trans s5, by simpa using g4.same s5, by simpa using g5⟩
    | i + 2, hx => simp at hx
  · obtain ⟨pr', e', o7', rfl, hs, g1, g2⟩ := h
    exact hQ H' pr' e' o7' ys zs (t3.trans hs) ly lz (by simpa using g1) (by simpa using g2)
end
end Gk

/-! Lw5 -/
set_option Elab.async false
set_option linter.all false
set_option maxRecDepth 100000
set_option maxHeartbeats 4000000
namespace Gk
open PySem PySem.Spec PyProof.Rows L2
section
variable {P : Program} {w : World} {K : PySem.W.Frag} {mg : Str → Option Value} {base : Heap} {C fI fE p g : Addr} {f : Addr} {fd : FuncData}
/-- THE LAW -/
theorem ok_law (F : LFac P w K mg base C fI fE p g) (D : FunD K "law" "law" (defArgs sLaw) (defBody sLaw) (defScope sLaw) [] [] f fd) : FnOk P w K mg base CX0 11 f fd ["_law_script"] (spLaw K) := by
  refine D.ok sc_law (fun vs H Q E h => by obtain ⟨a, ns, rfl, _⟩ := h; rfl) fun cdv A outer s H vs Q E hr h => ?_
  obtain ⟨a, ns, rfl, hs, hQ⟩ := h
  have hr' : Room 10 (lX P w K mg base f cdv A outer s H E).A := hr
  obtain ⟨t0, q0, r0⟩ := l_0 F hr' (Nat.le_refl _)
  obtain ⟨t1, q1, r1⟩ := l_1 F hr' (Nat.le_refl _)
  obtain ⟨t2, q2, r2⟩ := l_2 F hr' (Nat.le_refl _)
  obtain ⟨t3, q3, r3⟩ := l_3 F hr' (Nat.le_refl _)
  obtain ⟨t4, q4, r4⟩ := l_4 F hr' (Nat.le_refl _)
  obtain ⟨t5, q5, r5⟩ := l_5 F hr' (Nat.le_refl _)
  obtain ⟨t6, q6, r6⟩ := l_6 F hr' (Nat.le_refl _)
  obtain ⟨t7, q7, r7⟩ := l_7 F hr' (Nat.le_refl _)
  obtain ⟨t8, q8, r8⟩ := l_8 F hr' (Nat.le_refl _)
  refine ⟨_, PSs.nox (pss_cons (ps_for (body := [lB 0, lB 1, lB 2, lB 3, lB 4, lB 5, lB 6, lB 7, lB 8]) PassesOwn.never rfl (pi_range1 (by rfl) (F.O.fr _ (by decide)) (pa_cons (pe_callB (call_max2 rfl) (by rfl) (F.O.fr _ (by decide)) (by decide +kernel) (pa_cons pe_int (pa_cons (pe_callB (call_min2 rfl) (by rfl) (F.O.fr _ (by decide)) (by decide +kernel)
      (pa_cons (pe_callB call_len_seq (by rfl) (F.O.fr _ (by decide)) (by decide +kernel) (pa_cons (L2.pv 0) pa_nil)) (pa_cons pe_int pa_nil))) pa_nil))) pa_nil)) (pg_name (i := 1) sc_law.nd rfl (Or.inl rfl))
      (pss_cons q0 (pss_cons q1 (pss_cons q2 (pss_cons q3 (pss_cons q4 (pss_cons q5 (pss_cons q6 (pss_cons q7 (pss_one q8)))))))))) (pss_one (ps_ret pe_bl))), ?_⟩
  refine ⟨_, rfl, a, _, rfl, .inl hs, _, _, rfl, _, _, rfl, _, rfl, ?_, ?_, ?_⟩
  · split
    · split <;> omega
    · omega
  · split
    · split <;> omega
    · omega
  have hn : ∀ L : Nat, (if (if (8 : Int) < (L : Int) then (8 : Int) else (L : Int)) > 1 then (if (8 : Int) < (L : Int) then (8 : Int) else (L : Int)) else 1).toNat ≤ 8 := fun L => by
    split
    · split <;> omega
    · omega
  refine for_range (lo := 0) (fun i σ' H' => ∃ o1 o2 o3 o4 o5 o6 o7 o8, σ' = [some (.ref a), o1, o2, o3, o4, o5, o6, o7, o8] ∧ Same H H') ⟨none, none, none, none, none, none, none, none, rfl, Same.refl _⟩ (fun i σ' H1 hi h => ?_) (fun σ' H' h => ?_)
  · obtain ⟨o1, o2, o3, o4, o5, o6, o7, o8, rfl, s1⟩ := h
    have hi8 : i < 8 := Nat.lt_of_lt_of_le hi (hn _)
    have e0 : ((0 : Int) + (i : Nat)) = ((i : Nat) : Int) := Int.zero_add _
    show tSeq t0 _ _ [some (.ref a), some (.int (0 + (i : Nat))), o2, o3, o4, o5, o6, o7, o8] H1
    rw [e0]
    refine r0 _ o2 o3 o4 o5 o6 o7 o8 H1 a ns i (sql_same s1 hs) hi8 fun H2 t z0 z1 s2 ht0 ht => ?_
    refine r1 _ (some (.ref a)) (some (.int i)) o3 o4 o5 o6 o7 o8 H2 t z0 z1 ht fun H3 l xs y0 y1 k3 ht3 hl3 hlt hxs => ?_
    have s3 : Same H1 H3 := fun v u e => k3 v u (fun z => by rw [z, ht0] at e; cases e) (s2 _ _ e)
    refine r2 _ (some (.ref a)) (some (.int i)) (some (.ref t)) o4 o5 o6 o7 o8 H3 l xs hl3 hxs fun H4 pr s4 hp4 => ?_
    refine r3 _ (some (.ref a)) (some (.int i)) (some (.ref t)) o5 o6 o7 o8 H4 l pr xs (s4 _ _ hl3) hxs hp4 fun H5 s5 => ?_
    refine r4 _ (some (.ref a)) (some (.int i)) (some (.ref t)) o5 o6 o7 o8 H5 l pr xs (s5 _ _ (s4 _ _ hl3)) hxs (hp4.same s5) fun H6 s6 => ?_
    have s36 := (s4.trans s5).trans s6
    refine r5 _ (some (.ref a)) (some (.int i)) (some (.ref pr)) o5 o6 o7 o8 H6 t l xs y0 y1 (s36 _ _ ht3) (s36 _ _ hl3) hxs fun H7 r k7 => ?_
    have s17 : Same H1 H7 := fun v u e => k7 v u (fun z => by rw [z, ht0] at e; cases e) (s36 _ _ (s3 _ _ e))
    have hl7 : H7 l = some (.lst (xs.map V.int)) := k7 l _ hlt (s36 _ _ hl3)
    refine r6 _ (some (.ref a)) (some (.int i)) (some (.ref t)) (some (.ref l)) (some (.ref pr)) (some (.int r)) o6 o7 o8 H7 fun H8 pr8 e8 s8 hp8 he8 => ?_
    refine r7 _ (some (.ref a)) (some (.int i)) (some (.ref t)) o7 o8 H8 l pr8 e8 xs r (SqL.of (s8 _ _ hl7)) hxs hp8 he8 fun H9 pr9 e9 o7' ys zs s9 ly lz hp9 he9 => ?_
    refine r8 _ (some (.ref a)) (some (.int i)) (some (.ref t)) (some (.ref l)) (some (.int r)) o7' o8 H9 pr9 e9 (insP ys ++ insP zs) (srt ys ++ srt zs) hp9 he9 ?_ ?_ ?_ fun H10 s10 => ?_
    · rw [itms_app]
      exact (sim_insP (srt_sorted ys) (srt_perm ys)).app (sim_insP (srt_sorted zs) (srt_perm zs))
    · have e1 := remN_insP ys
      have e2 := remN_insP zs
      have e3 : remN (insP ys ++ insP zs) = remN (insP ys) + remN (insP zs) := by unfold remN; rw [List.map_append, List.sum_append]
      omega
    · intro st hst
      rcases List.mem_append.mp hst with q | q
      · exact cnt_insP (by omega) st q
      · exact cnt_insP (by omega) st q
    · exact ⟨_, _, _, _, _, _, _, _, rfl, ((((s1.trans s17).trans s8).trans s9).trans s10)⟩
  · exact hQ _
end
end Gk

/-! Hd1 -/
set_option Elab.async false
set_option linter.all false
set_option maxRecDepth 100000
set_option maxHeartbeats 0
namespace Gk
open PySem PySem.Spec PyProof.Rows L2
/-! ### the head's facts -/
def gC (K : PySem.W.Frag) : Addr := He.ga K "Effect"
def gOf (K : PySem.W.Frag) : Addr := He5.wf K (gC K) "classmethod" "of"
def defA (s : Stmt) (kwd : List (Str × He.Dv)) : He5.DefA := ⟨fun K => He.fAd K (defName s, none), defName s, defName s, defArgs s, defBody s, defScope s, [], kwd⟩
def metA (m : Str) (q : Str) (s : Stmt) : He5.DefA := ⟨fun K => He.fAd K ("Effect", some m), m, q, defArgs s, defBody s, defScope s, [], []⟩
def fnL : List He5.DefA := [defA sIsInt [], defA sIsCount [], defA sIsBag [], defA sChkCount [], defA sChkBag [], defA sFrom [], defA sAdd [], defA sSub [], defA sTotal [], defA sScale [], defA sDrop [],
  defA sIsStep [], defA sFind [], defA sChkProg [], defA sCount [], defA sElem [], defA sJoin [], defA sStepP [], defA sProgP [], defA sFault [],
  defA sHeaps [("limit", .int 1000)], defA sRemoved [("limit", .int 1000)], defA sPool [], defA sDraw [], defA sRandom [], defA sBag [], defA sLaw [],
  metA "__init__" "Effect.__init__" sEffInit, metA "__eq__" "Effect.__eq__" sEffEq, ⟨gOf, "of", "Effect.of", defArgs sEffOf, defBody sEffOf, defScope sEffOf, [], []⟩]
def topN : List Str := ["is_integer", "is_count", "is_bag", "check_count", "check_bag", "from_counts", "add", "subtract", "total", "scale", "drop", "is_step", "find_invalid", "check_program", "count_steps", "elementary", "join_parts", "step_parts", "program_parts", "find_fault",
  "heaps_along", "removed_along", "_law_pool", "_law_draw", "_law_random_numbers", "_law_bag", "law", "Effect", "IDENTITY"]
def builtN : List Str := ["isinstance", "int", "bool", "tuple", "len", "sorted", "dict", "sum", "any", "min", "max", "abs", "set", "list", "range", "enumerate"]
def faL : List He.Fa := topN.map .glo ++ builtN.map .free ++ [.cls "Effect", .noat "Effect" "own_parts", .mkr "Effect", .meth "Effect" "__eq__"]
def emptyT (K : PySem.W.Frag) (a : Addr) : Bool := match K.lookup a with
  | some ⟨.type c, none, .seq its _, _⟩ => decide (c = "tuple") && decide (its = #[])
  | _ => false
def idB (K : PySem.W.Frag) : Bool := match K.lookup (He.ga K "IDENTITY") with
  | some ⟨.type c, _, .seq its _, _⟩ => decide (c = "tuple") && (match its.toList with
    | [.ref a, .int i _, .ref b] => decide (i = 0) && (emptyT K a && emptyT K b)
    | _ => false)
  | _ => false
def insB (K : PySem.W.Frag) : Bool := He.eqO (PySem.W.findIn K (.ref (gC K)) "__class__") (some (some (.builtin "object.__class__"))) && (He.eqO (PySem.W.specialIn K (.builtin "object.__class__") "__get__") (some (some (.builtin "getset_descriptor.__get__"))) &&
  (decide (PySem.W.takesIn K (.builtin "object.__class__") = some true) && (decide (PySem.W.mroIn K (gC K) (.type "object") = some true) && decide (PySem.W.kitOne K (.ref (gC K)) (.ref (gC K)) = some true))))
def ofB_ (K : PySem.W.Frag) : Bool := PySem.W.readsIn K (gC K) (.type "type") && (He.eqO (PySem.W.specialIn K (.ref (gC K)) "__getattribute__") (some (some (.builtin "type.__getattribute__"))) &&
  (He5.wrapB K (gC K) "classmethod" "classmethod.__get__" "of" && PySem.W.fnIn K (gOf K)))
def exB (K : PySem.W.Frag) : Bool := idB K && (insB K && ofB_ K)
def obsK (K : PySem.W.Frag) : He.AlD := ((faL.all fun f => f.ok K) && (exB K && fnL.all fun d => d.ok K), fnL.map fun d => He5.fnA K (d.at_ K))
def valK : He.AlD := (true, fnL.map He5.DefA.val)
def SaysK (K : PySem.W.Frag) : Prop := obsK K = valK
def obsKG (n : Nat) (g : Addr → Option Obj) : He.AlD := obsK (He.frG g (He5.asA g n))
def hookK (n : Nat) : PySem.W.Hook where
  α := He.AlD
  obs := fun s => obsKG n s.heap.get?
  val := fun _ => valK
  says := fun _ h => ∃ K : PySem.W.Frag, K.In h ∧ SaysK K
  of := fun _ _ e => ⟨_, He.frG_in, e⟩
  keeps := fun _ _ _ ⟨K, hK, c⟩ k => ⟨K, PySem.W.Frag.In.keeps hK k, c⟩
theorem obsKG_eq {n : Nat} {g : Addr → Option Obj} {s : Shared} (h : ∀ a, g a = s.heap.get? a) : obsKG n g = (hookK n).obs s := by
  have e : g = s.heap.get? := funext h
  rw [e] <;> rfl
abbrev R : PySem.W.OpenRow := PySem.W.OpenLaw.row PySem.Challenge.rw_heapeffects_k39_whole_sorting_by_a_heap
abbrev hk : PySem.W.Hook := hookK 5
def ob (s : PySem.W.SharedT) : He.AlD := obsKG 5 (HandSHeadRun.getT s)
theorem ob_eq (s : PySem.W.SharedT) : ob s = hk.obs s.abs := obsKG_eq (HandSHeadRun.getT_eq s)
def looseN : List Str := (["_wall", "HeapError", "InvalidCount", "InvalidBag", "InvalidProgram", "InvalidEffect", "EmptyHeap", "LimitExceeded", "is_integer", "is_count", "is_bag", "check_count", "check_bag", "from_counts", "add", "subtract", "total", "scale", "take", "drop", "MAX_DEPTH"] : List Str) ++
  (["is_step", "find_invalid", "check_program", "count_steps", "elementary", "IDENTITY", "join_parts", "repeat_parts", "step_parts", "program_parts", "find_fault", "Effect", "heaps_along", "removed_along", "_law_pool", "_law_draw", "_law_random_numbers", "_law_bag"] : List Str)
theorem run (w : World) : HandSHeadRun.RunEq R (PySem.W.view R.prog [45]) hk ob 4300 looseN w := by
  intro os
  kernel_rfl
end Gk

/-! Hd2 -/
set_option Elab.async false
set_option linter.all false
set_option maxRecDepth 100000
set_option maxHeartbeats 4000000
namespace Gk
open PySem PySem.Spec PyProof.Rows L2
theorem ba_ {a b : Bool} (h : (a && b) = true) : a = true ∧ b = true := by simpa using h
section
variable {K : PySem.W.Frag}
theorem says_fa (c : SaysK K) : ∀ f ∈ faL, f.ok K = true := by
  have h := (ba_ (show ((faL.all fun f => f.ok K) && (exB K && fnL.all fun d => d.ok K)) = true from congrArg (fun z : He.AlD => z.1) c)).1
  exact List.all_eq_true.mp h
theorem says_ex (c : SaysK K) : exB K = true := (ba_ (ba_ (show ((faL.all fun f => f.ok K) && (exB K && fnL.all fun d => d.ok K)) = true from congrArg (fun z : He.AlD => z.1) c)).2).1
theorem says_def (c : SaysK K) (i : Nat) {d : He5.DefA} (h : fnL[i]? = some d) : ∃ fd, FunD K d.name d.qual d.params d.body d.scope (d.dvs K) (d.kws K) (d.at_ K) fd := by
  have c2 := (ba_ (ba_ (show ((faL.all fun f => f.ok K) && (exB K && fnL.all fun d => d.ok K)) = true from congrArg (fun z : He.AlD => z.1) c)).2).2
  have e : fnL.map (fun d => He5.fnA K (d.at_ K)) = fnL.map He5.DefA.val := congrArg (fun z : He.AlD => z.2) c
  have e2 : (fnL.map fun d => He5.fnA K (d.at_ K))[i]? = (fnL.map He5.DefA.val)[i]? := by rw [e]
  rw [List.getElem?_map, List.getElem?_map, h] at e2
  exact He5.DefA.funD (Option.some.inj e2) (List.all_eq_true.mp c2 d (List.mem_of_getElem? h))
variable {h : Heap} {mg : Str → Option Value}
theorem says_glo (X : K.In h) (G : h.Ns mainGlobals mg) (c : SaysK K) {x : Str} (hx : x ∈ topN) : mg x = some (.ref (He.ga K x)) :=
  He.glo_ok X G (says_fa c (.glo x) (List.mem_append_left _ (List.mem_append_left _ (List.mem_map.mpr ⟨x, hx, rfl⟩))))
theorem says_free (X : K.In h) (G : h.Ns mainGlobals mg) (c : SaysK K) : Free mg := fun x hx =>
  He.free_ok X G (says_fa c (.free x) (List.mem_append_left _ (List.mem_append_right _ (List.mem_map.mpr ⟨x, (show x ∈ builtN from hx), rfl⟩))))
theorem says_dfp (X : K.In h) (G : h.Ns mainGlobals mg) (c : SaysK K) (i : Nat) {st : Stmt} (hd : fnL[i]? = some (defA st [])) (hx : defName st ∈ topN) : DfP K mg st := by
  obtain ⟨fd, F⟩ := says_def c i hd
  exact ⟨_, fd, F, says_glo X G c hx⟩
theorem says_gnp (X : K.In h) (G : h.Ns mainGlobals mg) (c : SaysK K) (i : Nat) {st : Stmt} (hd : fnL[i]? = some (defA st [("limit", .int 1000)])) (hx : defName st ∈ topN) : GnP K mg st := by
  obtain ⟨fd, F⟩ := says_def c i hd
  exact ⟨_, fd, F, says_glo X G c hx⟩
theorem says_id (X : K.In h) (G : h.Ns mainGlobals mg) (c : SaysK K) : ∃ ia z1 z2, IdOk K mg ia z1 z2 := by
  have hi : idB K = true := (ba_ (says_ex c)).1
  have em : ∀ z, emptyT K z = true → ∀ H : Hp, FqT K H z [] := fun z hz H => by
    unfold emptyT at hz
    cases q : K.lookup z with
    | none => rw [q] at hz; cases hz
    | some o =>
      obtain ⟨oc, od, dt, osl⟩ := o
      rw [q] at hz
      cases oc with
      | type ct =>
        cases od with
        | none =>
          cases dt with
          | seq its n =>
            obtain ⟨h1, h2⟩ := ba_ (show (decide (ct = "tuple") && decide (its = #[])) = true from hz)
            have e1 : ct = "tuple" := of_decide_eq_true h1
            have e2 : its = #[] := of_decide_eq_true h2
            subst e1 e2
            exact .inr ⟨_, #[], n, q, rfl, rfl, rfl, Nat.zero_le _, .nil⟩
          | _ => cases hz
        | some a => cases dt <;> cases hz
      | _ => cases od <;> cases dt <;> cases hz
  unfold idB at hi
  cases q : K.lookup (He.ga K "IDENTITY") with
  | none => rw [q] at hi; cases hi
  | some o =>
    obtain ⟨oc, od, dt, osl⟩ := o
    rw [q] at hi
    cases oc with
    | type ct =>
      cases dt with
      | seq its n =>
        obtain ⟨h1, h2⟩ := ba_ (show (decide (ct = "tuple") && (match its.toList with
          | [.ref a, .int i _, .ref b] => decide (i = 0) && (emptyT K a && emptyT K b)
          | _ => false)) = true from hi)
        have e1 : ct = "tuple" := of_decide_eq_true h1
        subst e1
        split at h2
        · rename_i a i tk b e
          obtain ⟨h3, h4⟩ := ba_ h2
          obtain ⟨h5, h6⟩ := ba_ h4
          have e3 : i = 0 := of_decide_eq_true h3
          subst e3
          refine ⟨He.ga K "IDENTITY", a, b, says_glo X G c (by decide), fun H => .inr ⟨_, its, n, q, rfl, rfl, ?_, ?_⟩, em a h5, em b h6⟩
          · have : its.toList.length = 3 := by rw [e]; rfl
            rw [Array.length_toList] at this
            rw [this]
            decide
          · rw [e]
            exact .cons rfl (.cons ⟨_, rfl⟩ (.cons rfl .nil))
        · cases h2
      | _ => cases hi
    | _ => cases dt <;> cases hi
theorem says_eff (X : K.In h) (G : h.Ns mainGlobals mg) (c : SaysK K) : EffK K mg (gC K) (He.ma K (gC K) "__init__") (He.ma K (gC K) "__eq__") (He.ma K (gC K) "of") (gOf K) := by
  obtain ⟨_, h1⟩ := ba_ (says_ex c)
  obtain ⟨h2, h3⟩ := ba_ h1
  obtain ⟨i1, h4⟩ := ba_ (show (He.eqO (PySem.W.findIn K (.ref (gC K)) "__class__") (some (some (.builtin "object.__class__"))) && (He.eqO (PySem.W.specialIn K (.builtin "object.__class__") "__get__") (some (some (.builtin "getset_descriptor.__get__"))) &&
    (decide (PySem.W.takesIn K (.builtin "object.__class__") = some true) && (decide (PySem.W.mroIn K (gC K) (.type "object") = some true) && decide (PySem.W.kitOne K (.ref (gC K)) (.ref (gC K)) = some true))))) = true from h2)
  obtain ⟨i2, h5⟩ := ba_ h4
  obtain ⟨i3, h6⟩ := ba_ h5
  obtain ⟨i4, i5⟩ := ba_ h6
  obtain ⟨j1, h7⟩ := ba_ (show (PySem.W.readsIn K (gC K) (.type "type") && (He.eqO (PySem.W.specialIn K (.ref (gC K)) "__getattribute__") (some (some (.builtin "type.__getattribute__"))) &&
    (He5.wrapB K (gC K) "classmethod" "classmethod.__get__" "of" && PySem.W.fnIn K (gOf K)))) = true from h3)
  obtain ⟨j2, h8⟩ := ba_ h7
  obtain ⟨j3, j4⟩ := ba_ h8
  have m := He.meth_ok (says_fa c (.meth "Effect" "__eq__") (by simp [faL]))
  exact ⟨says_glo X G c (by decide), ⟨He.cls_ok (says_fa c (.cls "Effect") (by simp [faL])), He.eqO_ok i1, He.eqO_ok i2, of_decide_eq_true i3, of_decide_eq_true i4, of_decide_eq_true i5⟩, He.noat_ok (says_fa c (.noat "Effect" "own_parts") (by simp [faL])),
    He.mkr_ok (says_fa c (.mkr "Effect") (by simp [faL])), m.at_, m.fn, ⟨j1, He.eqO_ok j2⟩, He5.cmet_of j3 j4⟩
theorem says_law {P : Program} {w : World} {base : Heap} (X : K.In h) (G : h.Ns mainGlobals mg) (c : SaysK K) : LFac P w K mg base (gC K) (He.ma K (gC K) "__init__") (He.ma K (gC K) "__eq__") (He.ma K (gC K) "of") (gOf K) := by
  have fr := says_free X G c
  obtain ⟨ia, z1, z2, id⟩ := says_id X G c
  have E := says_eff X G c
  have D : ∀ (i : Nat) (st : Stmt), fnL[i]? = some (defA st []) → defName st ∈ topN → DfP K mg st := fun i st h1 h2 => says_dfp X G c i h1 h2
  have cI := ok_isInt (P := P) (w := w) (base := base) fr (D 0 sIsInt rfl (by decide))
  have cIC := ok_isCount cI (D 1 sIsCount rfl (by decide))
  have cIB := ok_isBag fr cI (D 2 sIsBag rfl (by decide))
  have cCC := ok_chkCount cIC (D 3 sChkCount rfl (by decide))
  have cCB := ok_chkBag cIB (D 4 sChkBag rfl (by decide))
  have cFr := ok_from (P := P) (w := w) (base := base) fr (D 5 sFrom rfl (by decide))
  have cAd := ok_add fr cFr (D 6 sAdd rfl (by decide))
  have cSu := ok_sub fr cFr (D 7 sSub rfl (by decide))
  have cTo := ok_total (P := P) (w := w) (base := base) fr (D 8 sTotal rfl (by decide))
  have cSc := ok_scale (P := P) (w := w) (base := base) fr (D 9 sScale rfl (by decide))
  have cDr := ok_drop (P := P) (w := w) (base := base) fr (D 10 sDrop rfl (by decide))
  have cIS := ok_isStep fr cI cIC (D 11 sIsStep rfl (by decide))
  have cFi := ok_find fr cIS (D 12 sFind rfl (by decide))
  have cCP := ok_chkProg fr cFi (D 13 sChkProg rfl (by decide))
  have cCt := ok_count (P := P) (w := w) (base := base) (D 14 sCount rfl (by decide))
  have cJo := ok_join cAd cSu cDr (D 16 sJoin rfl (by decide))
  have cSP := ok_stepP cSc (D 17 sStepP rfl (by decide))
  have cPP := ok_progP id cJo cSP (D 18 sProgP rfl (by decide))
  have cFa := ok_fault cSu cTo (D 19 sFault rfl (by decide))
  have cPo := ok_pool (P := P) (w := w) (base := base) fr (D 22 sPool rfl (by decide))
  have cDw := ok_draw (P := P) (w := w) (base := base) (D 23 sDraw rfl (by decide))
  have cRa := ok_random fr cDw (D 24 sRandom rfl (by decide))
  have cBa := ok_bag (P := P) (w := w) (base := base) fr (D 25 sBag rfl (by decide))
  have mdI : MdP K "__init__" "Effect.__init__" sEffInit (He.ma K (gC K) "__init__") := ⟨says_def c 27 rfl⟩
  have mdE : MdP K "__eq__" "Effect.__eq__" sEffEq (He.ma K (gC K) "__eq__") := ⟨says_def c 28 rfl⟩
  have mdO : MdP K "of" "Effect.of" sEffOf (gOf K) := ⟨says_def c 29 rfl⟩
  have mI := ok_init E cCB cCC cFa mdI
  exact ⟨⟨fr, cCB, cCP, cCC, cCt, cAd, cDr, D 15 sElem rfl (by decide)⟩, says_gnp X G c 21 rfl (by decide), says_gnp X G c 20 rfl (by decide), cPo, cDw, cRa, cBa, E, mI, ok_of E cCP cPP mI mdO, ok_eq E fr mdE⟩
theorem facts {P : Program} {w : World} {f : Addr} (X : K.In h) (G : h.Ns mainGlobals mg) (hfa : mg ("law" : Str) = some (.ref f)) (c : SaysK K) :
    ∃ fd : FuncData, (∀ (s : Shared) (v : Value), BindsTo s fd ⟨[v], []⟩ [("_law_script", v)]) ∧ ∀ base : Heap, K.In base → base.Ns mainGlobals mg → FnOk P w K mg base CX0 11 f fd ["_law_script"] (spLaw K) := by
  obtain ⟨fd, F⟩ := says_def c 26 (d := defA sLaw []) rfl
  have e := hfa.symm.trans (says_glo X G c (x := "law") (by decide))
  cases e
  have b := FunD.bindsA (ps := ["_law_script"]) F fun _ _ _ _ _ _ us hl => match us, hl with | [_], _ => rfl
  exact ⟨fd, fun s v => b s [v] rfl, fun base _ _ => ok_law (says_law X G c) F⟩
end
end Gk
open PySem PySem.W PySem.Calls PyProof.Rows
theorem PySem.Challenge.cw_heapeffects_k39_whole_sorting_by_a_heap_holds : PySem.Challenge.rw_heapeffects_k39_whole_sorting_by_a_heap.Holds := by
  w_on; o_law
  refine HandSHeadRun.head_any (r := OpenLaw.row PySem.Challenge.rw_heapeffects_k39_whole_sorting_by_a_heap) (q := view (OpenLaw.row PySem.Challenge.rw_heapeffects_k39_whole_sorting_by_a_heap).prog [45]) (H := Gk.hk) (ob := Gk.ob) (M := 4300) (loose := Gk.looseN) (d := HandSHeadRun.topDef (OpenLaw.row PySem.Challenge.rw_heapeffects_k39_whole_sorting_by_a_heap).prog 45) (kwd := []) Gk.ob_eq
    (by kernel_rfl) (fun s => by kernel_rfl) Gk.run (by kernel_rfl) (by kernel_rfl) (by kernel_rfl) (by rfl) (by first | assumption | decide +kernel) (by decide +kernel) ⟨rfl, rfl, rfl, rfl, rfl, by decide +kernel⟩ ?hw ?hc
  case hw => w_witness2
  case hc =>
    refine L2.walk_ofE (l := PySem.Challenge.rw_heapeffects_k39_whole_sorting_by_a_heap) (n := 63) (k := 11) (x := "_law_script") (CX := L2.CX0) rfl (by decide) (by kernel_rfl) ⟨rfl, by decide, by decide⟩ ?F (fun _ _ _ _ z => z)
    intro w mg fa h Y G hmg0
    obtain ⟨K, KX, c⟩ := Y
    have hmg : mg ("law" : PySem.Str) = some (.ref fa) := by
      have e : (HandSHeadRun.topDef (OpenLaw.row PySem.Challenge.rw_heapeffects_k39_whole_sorting_by_a_heap).prog 45).name = ("law" : PySem.Str) := by kernel_rfl
      rw [← e]
      exact hmg0
    obtain ⟨fd, hb, hF⟩ := Gk.facts (P := (PySem.Challenge.rw_heapeffects_k39_whole_sorting_by_a_heap).prog) (w := w) KX G hmg c
    exact ⟨K, fd, Gk.spLaw K, KX, hb, fun H a ns hl _ hS => ⟨a, ns, rfl, hS, fun _ => rfl⟩, hF⟩
