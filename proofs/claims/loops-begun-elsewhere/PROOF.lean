import PyProof.Rows.All
import Wide.All
import OpenK.AllK
import Wide.FinOn
import HandS.GenList
import HandS.Evl
import HandS.Codes
import HandS.ForMost
import HandS.NoneIn
import HandS.Star
import HandS.Zip
import HandS.Strs
import HandS.SetFor
import HandS.Wide
import HandS.IsInst
import KE.KUnpackStar
import PyProof.Draws
import KE.GoesEnum
import PySem.Challenge.RW_coincounters_k23_whole_loops_begun_elsew
set_option Elab.async false
set_option linter.all false
set_option maxRecDepth 100000
/-! KLock: a run that never wakes a sleeping generator leaves it asleep. The sleepers of the table are put out by ghosts that cannot be woken; the run over the ghosts and the run over the sleepers go in step. -/
namespace KG
open PySem
open Sem (wp)

/-- nothing runs out of an unsupported tree -/
theorem no_run0 {M : Model} {Γ : Ctx} {p : Pos} {y : String} {z z' : Shared} {e : End} (h : Runs M Γ p (.unsupported y) [] z e z') : False := by
  cases h
theorem no_run {M : Model} {Γ : Ctx} {p : Pos} {y : String} {fs : List Frame} {z z' : Shared} {e : End} (h : Runs M Γ p (.unsupported y) fs z e z') : False := by
  cases h with
  | segRet a _ => exact no_run0 a
  | segGen a _ => exact no_run0 a
  | segSuspOut _ a => exact no_run0 a
  | segSuspGen _ a _ _ => exact no_run0 a

/-- a sleeper's ghost: it shows the same, it can't be woken -/
def ghost : GenState → GenState
  | .suspended _ l c p fs cl => .suspended (fun _ => .unsupported "ghost") l c p fs cl
  | g => g
/-- the table with the sleepers put back -/
def mix (old : Nat → Option GenState) (G : Array GenState) : Array GenState := G.mapIdx fun i x => (old i).getD x
def real (old : Nat → Option GenState) (z : Shared) : Shared := { z with gens := mix old z.gens }
/-- the ghosts stand at their places; no other sleeper holds a frame of a generator's waker -/
structure Good (old : Nat → Option GenState) (G : Array GenState) : Prop where
  at_ : ∀ i st, old i = some st → ∃ l c p fs cl, G[i]? = some (.suspended (fun _ => .unsupported "ghost") l c p fs cl) ∧ st.seen = (GenState.suspended (fun _ => .unsupported "ghost") l c p fs cl).seen
  clean : ∀ i k l c p fs cl, old i = none → G[i]? = some (.suspended k l c p fs cl) → splitAtGen fs = none

section
variable {old : Nat → Option GenState} {G : Array GenState}
theorem mix_get (i : Nat) : (mix old G)[i]? = (G[i]?).map fun x => (old i).getD x := by
  unfold mix
  rw [Array.getElem?_mapIdx]
theorem mix_size : (mix old G).size = G.size := by
  unfold mix
  rw [Array.size_mapIdx]
theorem mix_free {i : Nat} (h : old i = none) : (mix old G)[i]? = G[i]? := by
  rw [mix_get, h]
  cases G[i]? <;> rfl
theorem Good.top (g : Good old G) : old G.size = none := by
  cases e : old G.size with
  | none => rfl
  | some st =>
    obtain ⟨l, c, p, fs, cl, h, _⟩ := g.at_ _ _ e
    rw [Array.getElem?_eq_none (Nat.le_refl _)] at h
    cases h
theorem Good.free {i : Nat} {x : GenState} (g : Good old G) (h : G[i]? = some x) (hx : ∀ l c p fs cl, x ≠ .suspended (fun _ => .unsupported "ghost") l c p fs cl) : old i = none := by
  cases e : old i with
  | none => rfl
  | some st =>
    obtain ⟨l, c, p, fs, cl, h2, _⟩ := g.at_ _ _ e
    rw [h] at h2
    exact absurd (Option.some.inj h2) (hx l c p fs cl)
theorem mix_push {x : GenState} (g : Good old G) : mix old (G.push x) = (mix old G).push x := by
  apply Array.ext_getElem?
  intro i
  rw [mix_get, Array.getElem?_push, Array.getElem?_push, mix_size, mix_get]
  by_cases e : i = G.size
  · rw [if_pos e, if_pos e, e, g.top]
    rfl
  · rw [if_neg e, if_neg e]
theorem Good.push {x : GenState} (g : Good old G) (hx : ∀ k l c p fs cl, x = .suspended k l c p fs cl → splitAtGen fs = none) : Good old (G.push x) where
  at_ := fun i st e => by
    obtain ⟨l, c, p, fs, cl, h, q⟩ := g.at_ i st e
    refine ⟨l, c, p, fs, cl, ?_, q⟩
    have hi : i < G.size := (Array.getElem?_eq_some_iff.mp h).1
    rw [Array.getElem?_push, if_neg (Nat.ne_of_lt hi)]
    exact h
  clean := fun i k l c p fs cl e h => by
    rw [Array.getElem?_push] at h
    by_cases q : i = G.size
    · rw [if_pos q] at h
      exact hx k l c p fs cl (Option.some.inj h)
    · rw [if_neg q] at h
      exact g.clean i k l c p fs cl e h
theorem mix_set {x : GenState} {i : Nat} (h : old i = none) : mix old (G.setIfInBounds i x) = (mix old G).setIfInBounds i x := by
  apply Array.ext_getElem?
  intro j
  rw [mix_get, Array.getElem?_setIfInBounds, Array.getElem?_setIfInBounds, mix_size, mix_get]
  by_cases e : i = j
  · subst e
    rw [if_pos rfl, if_pos rfl, h]
    by_cases hl : i < G.size
    · rw [if_pos hl]
      rfl
    · rw [if_neg hl]
      rfl
  · rw [if_neg e, if_neg e]
theorem Good.set {x : GenState} {i : Nat} (g : Good old G) (hi : old i = none) (hx : ∀ k l c p fs cl, x = .suspended k l c p fs cl → splitAtGen fs = none) : Good old (G.setIfInBounds i x) where
  at_ := fun j st e => by
    obtain ⟨l, c, p, fs, cl, h, q⟩ := g.at_ j st e
    refine ⟨l, c, p, fs, cl, ?_, q⟩
    have ne : i ≠ j := fun z => by
      rw [z, e] at hi
      cases hi
    rw [Array.getElem?_setIfInBounds, if_neg ne]
    exact h
  clean := fun j k l c p fs cl e h => by
    rw [Array.getElem?_setIfInBounds] at h
    by_cases q : i = j
    · rw [if_pos q] at h
      by_cases hl : i < G.size
      · rw [if_pos hl] at h
        exact hx k l c p fs cl (Option.some.inj h)
      · rw [if_neg hl] at h
        cases h
    · rw [if_neg q] at h
      exact g.clean j k l c p fs cl e h
end
theorem real_set {old : Nat → Option GenState} {z : Shared} {i : Nat} {x : GenState} (h : old i = none) : real old (z.setGen i x) = (real old z).setGen i x := by
  unfold real Shared.setGen
  show ({ z with gens := mix old (z.gens.setIfInBounds i x) } : Shared) = { z with gens := (mix old z.gens).setIfInBounds i x }
  rw [mix_set h]

theorem real_size {old : Nat → Option GenState} {z : Shared} : (real old z).gens.size = z.gens.size := mix_size
theorem real_push {old : Nat → Option GenState} {z : Shared} {c : Code} (g : Good old z.gens) : real old { z with gens := z.gens.push (.fresh c) } = { real old z with gens := (real old z).gens.push (.fresh c) } := by
  show ({ z with gens := mix old (z.gens.push (.fresh c)) } : Shared) = { z with gens := (mix old z.gens).push (.fresh c) }
  rw [mix_push g]
theorem Good.seen {old : Nat → Option GenState} {z : Shared} {i : Nat} {st : GenState} (gd : Good old z.gens) (q : z.gens[i]? = some st) : ∃ st2, (real old z).gens[i]? = some st2 ∧ st2.seen = st.seen := by
  cases eo : old i with
  | none => exact ⟨st, (mix_free eo).trans q, rfl⟩
  | some st2 =>
    obtain ⟨l, c, p2, fs, cl, h2, h3⟩ := gd.at_ i st2 eo
    rw [q] at h2
    have e1 := Option.some.inj h2
    refine ⟨st2, ?_, ?_⟩
    · show (mix old z.gens)[i]? = some st2
      rw [mix_get, q, eo]
      rfl
    · rw [h3, e1]
theorem Good.awake {M : Model} {old : Nat → Option GenState} {z z2 z3 : Shared} {i : Nat} {k : Resume → Sem PySem.Fin} {l : List Value} {c : Code} {p p2 : Pos} {fs : List Frame} {cl : Bool} {Γ : Ctx} {r : Resume} {e : End} (gd : Good old z.gens)
    (q : z.gens[i]? = some (.suspended k l c p fs cl)) (h : Runs M Γ p2 (k r) fs z2 e z3) : old i = none := by
  cases eo : old i with
  | none => rfl
  | some st2 =>
    obtain ⟨l3, c3, p3, fs3, cl3, h2, _⟩ := gd.at_ i st2 eo
    rw [q] at h2
    have e1 := Option.some.inj h2
    injection e1 with e2 _ _ _ _ _
    rw [e2] at h
    exact (no_run h).elim

/-- no waker's frame among those that a generator falls asleep with -/
def Clean : End → Prop
  | .ret _ => True
  | .susp _ _ _ _ _ _ fs => splitAtGen fs = none
theorem Clean.gen {e : End} (h : Clean e) : ∀ k l c p fs cl, e.genState = .suspended k l c p fs cl → splitAtGen fs = none := by
  intro k l c p fs cl q
  cases e with
  | ret _ => cases q
  | susp v g l2 k2 c2 p2 fs2 =>
    have q2 : GenState.suspended k2 l2 c2 p2 fs2 (g || fs2.any Frame.guarded) = .suspended k l c p fs cl := q
    injection q2 with _ _ _ _ e5 _
    rw [← e5]
    exact h
theorem split_app {a b : List Frame} (ha : splitAtGen a = none) (hb : splitAtGen b = none) : splitAtGen (a ++ b) = none := by
  rw [splitAtGen_append_none b ha, hb]
  rfl
theorem split_tail {f : Result → Sem PySem.Fin} {h : Option Value} {g : Bool} {l : List Value} {c : Code} {p : Pos} {kp : List Value} {fs : List Frame} (q : splitAtGen (.ret f h g l c p kp :: fs) = none) : splitAtGen fs = none := by
  rw [splitAtGen_ret] at q
  cases e : splitAtGen fs with
  | none => rfl
  | some x =>
    rw [e] at q
    cases q

/-- the run over the ghosts is a run over the sleepers -/
theorem lock {M : Model} {old : Nat → Option GenState} {Γ : Ctx} {p : Pos} {t : Sem PySem.Fin} {fs : List Frame} {z z' : Shared} {e : End} (h : Runs M Γ p t fs z e z') :
    Good old z.gens → splitAtGen fs = none → Runs M Γ p t fs (real old z) e (real old z') ∧ Good old z'.gens ∧ Clean e := by
  induction h with
  | done => exact fun g _ => ⟨.done, g, trivial⟩
  | raise => exact fun g _ => ⟨.raise, g, trivial⟩
  | again q _ ih => exact fun g n => let ⟨a, b⟩ := ih g n; ⟨.again q a, b⟩
  | rule _ ih => exact fun g n => let ⟨a, b⟩ := ih g n; ⟨.rule a, b⟩
  | «at» _ ih => exact fun g n => let ⟨a, b⟩ := ih g n; ⟨.at a, b⟩
  | load q _ ih => exact fun g n => let ⟨a, b⟩ := ih g n; ⟨.load q a, b⟩
  | update q _ ih => exact fun g n => let ⟨a, b⟩ := ih g n; ⟨.update q a, b⟩
  | loadIfAlive _ ih => exact fun g n => let ⟨a, b⟩ := ih g n; ⟨.loadIfAlive a, b⟩
  | point _ ih => exact fun g n => let ⟨a, b⟩ := ih g n; ⟨.point a, b⟩
  | alloc _ ih => exact fun g n => let ⟨a, b⟩ := ih g n; ⟨.alloc a, b⟩
  | fresh _ ih => exact fun g n => let ⟨a, b⟩ := ih g n; ⟨.fresh a, b⟩
  | ask _ ih => exact fun g n => let ⟨a, b⟩ := ih g n; ⟨.ask a, b⟩
  | choose q _ ih => exact fun g n => let ⟨a, b⟩ := ih g n; ⟨.choose q a, b⟩
  | os _ ih => exact fun g n => let ⟨a, b⟩ := ih g n; ⟨.os a, b⟩
  | handled _ ih => exact fun g n => let ⟨a, b⟩ := ih g n; ⟨.handled a, b⟩
  | genState q _ ih =>
    intro gd n
    obtain ⟨a, b⟩ := ih gd n
    obtain ⟨st2, e1, e2⟩ := gd.seen q
    refine ⟨.genState e1 ?_, b⟩
    rw [e2]
    exact a
  | stack _ ih => exact fun g n => let ⟨a, b⟩ := ih g n; ⟨.stack a, b⟩
  | thread _ ih => exact fun g n => let ⟨a, b⟩ := ih g n; ⟨.thread a, b⟩
  | newGen _ ih =>
    intro gd n
    obtain ⟨a, b⟩ := ih (gd.push fun _ _ _ _ _ _ z => nomatch z) n
    refine ⟨.newGen ?_, b⟩
    rw [real_size, ← real_push gd]
    exact a
  | call _ _ ih1 ih2 =>
    intro gd n
    obtain ⟨a, b, _⟩ := ih1 gd rfl
    obtain ⟨a2, b2⟩ := ih2 b n
    exact ⟨.call a a2, b2⟩
  | callSusp _ ih =>
    intro gd n
    obtain ⟨a, b, c⟩ := ih gd rfl
    exact ⟨.callSusp a, b, split_app c rfl⟩
  | yield => exact fun g _ => ⟨.yield, g, rfl⟩
  | resumeFresh q _ qq _ ih1 ih2 =>
    intro gd n
    have eo := gd.free q fun _ _ _ _ _ z => nomatch z
    obtain ⟨a, b, cl⟩ := ih1 (gd.set eo fun _ _ _ _ _ _ z => nomatch z) rfl
    obtain ⟨a2, b2⟩ := ih2 (b.set eo cl.gen) n
    rw [real_set eo] at a a2
    exact ⟨.resumeFresh ((mix_free eo).trans q) a qq a2, b2⟩
  | resumeSuspended q h1 qq _ ih1 ih2 =>
    intro gd n
    have eo := gd.awake q h1
    obtain ⟨a, b, cl2⟩ := ih1 (gd.set eo fun _ _ _ _ _ _ z => nomatch z) (gd.clean _ _ _ _ _ _ _ eo q)
    obtain ⟨a2, b2⟩ := ih2 (b.set eo cl2.gen) n
    rw [real_set eo] at a a2
    exact ⟨.resumeSuspended ((mix_free eo).trans q) a qq a2, b2⟩
  | resumeJustStarted q v _ ih =>
    intro gd n
    have eo := gd.free q fun _ _ _ _ _ z => nomatch z
    obtain ⟨a, b⟩ := ih gd n
    exact ⟨.resumeJustStarted ((mix_free eo).trans q) v a, b⟩
  | resumeThrowFresh q _ ih =>
    intro gd n
    have eo := gd.free q fun _ _ _ _ _ z => nomatch z
    obtain ⟨a, b⟩ := ih (gd.set eo fun _ _ _ _ _ _ z => nomatch z) n
    rw [real_set eo] at a
    exact ⟨.resumeThrowFresh ((mix_free eo).trans q) a, b⟩
  | resumeRunning q _ ih =>
    intro gd n
    have eo := gd.free q fun _ _ _ _ _ z => nomatch z
    obtain ⟨a, b⟩ := ih gd n
    exact ⟨.resumeRunning ((mix_free eo).trans q) a, b⟩
  | resumeFinished q _ ih =>
    intro gd n
    have eo := gd.free q fun _ _ _ _ _ z => nomatch z
    obtain ⟨a, b⟩ := ih gd n
    exact ⟨.resumeFinished ((mix_free eo).trans q) a, b⟩
  | segRet _ _ ih1 ih2 =>
    intro gd n
    obtain ⟨a, b, _⟩ := ih1 gd rfl
    obtain ⟨a2, b2⟩ := ih2 b (split_tail n)
    exact ⟨.segRet a a2, b2⟩
  | segGen _ _ _ _ =>
    intro gd n
    cases n
  | segSuspOut q _ ih =>
    intro gd n
    obtain ⟨a, b, c⟩ := ih gd rfl
    exact ⟨.segSuspOut q a, b, split_app c q⟩
  | segSuspGen q _ _ _ _ _ =>
    intro gd n
    rw [n] at q
    cases q

theorem lock_wakes {M : Model} {old : Nat → Option GenState} {Γ : Ctx} {p : Pos} {g : Nat} {r : Resume} {z z' : Shared} {res : GenResult} (gd : Good old z.gens) (h : Wakes M Γ p g r z res z') :
    Wakes M Γ p g r (real old z) res (real old z') ∧ Good old z'.gens := by
  unfold Wakes at h
  have go : old g = none → (real old z).gens[g]? = z.gens[g]? := fun eo => mix_free eo
  split at h
  · exact h.elim
  · rename_i c q
    have eo : old g = none := gd.free q fun _ _ _ _ _ w => nomatch w
    unfold Wakes
    rw [go eo, q]
    split at h
    · obtain ⟨e₁, s₁, hr, hq, e1, e2⟩ := h
      obtain ⟨a, b, c⟩ := lock hr (gd.set eo fun _ _ _ _ _ _ w => nomatch w) rfl
      rw [real_set eo] at a
      subst e2
      exact ⟨⟨e₁, _, a, hq, e1, real_set eo⟩, b.set eo c.gen⟩
    · obtain ⟨e1, e2⟩ := h
      subst e1 e2
      exact ⟨⟨rfl, rfl⟩, gd⟩
    · obtain ⟨e1, e2⟩ := h
      subst e1 e2
      exact ⟨⟨rfl, real_set eo⟩, gd.set eo fun _ _ _ _ _ _ w => nomatch w⟩
  · rename_i k₀ l₀ c₀ p₀ fs₀ cl₀ q
    obtain ⟨e₁, s₁, hr, hq, e1, e2⟩ := h
    have eo : old g = none := gd.awake q hr
    unfold Wakes
    rw [go eo, q]
    obtain ⟨a, b, c⟩ := lock hr (gd.set eo fun _ _ _ _ _ _ w => nomatch w) (gd.clean _ _ _ _ _ _ _ eo q)
    rw [real_set eo] at a
    subst e2
    exact ⟨⟨e₁, _, a, hq, e1, real_set eo⟩, b.set eo c.gen⟩
  · rename_i q
    have eo : old g = none := gd.free q fun _ _ _ _ _ w => nomatch w
    unfold Wakes
    rw [go eo, q]
    obtain ⟨e1, e2⟩ := h
    subst e1 e2
    exact ⟨⟨rfl, rfl⟩, gd⟩
  · rename_i q
    have eo : old g = none := gd.free q fun _ _ _ _ _ w => nomatch w
    unfold Wakes
    rw [go eo, q]
    obtain ⟨e1, e2⟩ := h
    subst e1 e2
    exact ⟨⟨rfl, rfl⟩, gd⟩

theorem lock_wp {α : Type} (M : Model) (Γ : Ctx) (old : Nat → Option GenState) (t : Sem α) : ∀ (Q : α → Pos → Shared → Prop) (E : Value → Pos → Shared → Prop) (p : Pos) (z : Shared), Good old z.gens → wp M Γ t Q E p z →
    wp M Γ t (fun a p' z' => ∃ y, z' = real old y ∧ Good old y.gens ∧ Q a p' y) (fun e p' z' => ∃ y, z' = real old y ∧ Good old y.gens ∧ E e p' y) p (real old z) := by
  induction t with
  | pure a => exact fun Q E p z g h => ⟨z, rfl, g, h⟩
  | raise e => exact fun Q E p z g h => ⟨z, rfl, g, h⟩
  | unsupported _ => exact fun Q E p z g h => h
  | finish _ => exact fun Q E p z g h => h
  | rule _ k ih => exact fun Q E p z g h => ih () Q E p z g h
  | «at» p' k ih => exact fun Q E p z g h => ih () Q E p' z g h
  | load a _ k ih => exact fun Q E p z g h => let ⟨o, ho, h2⟩ := h; ⟨o, ho, ih o Q E p z g h2⟩
  | update a _ f k ih => exact fun Q E p z g h => ⟨h.1, ih () Q E p { z with heap := z.heap.update a f } g h.2⟩
  | loadIfAlive a k ih => exact fun Q E p z g h => ih _ Q E p z g h
  | point _ k ih => exact fun Q E p z g h => ih () Q E p z g h
  | register _ _ => exact fun Q E p z g h => h
  | alloc o k ih => exact fun Q E p z g h => ih z.heap.objs.size Q E p { z with heap := z.heap.push o } g h
  | fresh k ih => exact fun Q E p z g h => ih z.toks Q E p { z with toks := z.toks + 1 } g h
  | ask k ih => exact fun Q E p z g h => ih _ Q E p z g h
  | choose src m k ih => exact fun Q E p z g h => ⟨h.1, ih _ Q E p { z with drawn := z.drawn.bump src } g h.2⟩
  | os q _ k ih => exact fun Q E p z g h => ih _ Q E p { z with os := (Os.step z.os q).1 } g h
  | call c hd _ _ k ih =>
    intro Q E p z g h
    obtain ⟨r, z', hr, h2⟩ := h
    obtain ⟨a, b, _⟩ := lock (old := old) hr g rfl
    exact ⟨r, _, a, ih r Q E p z' b h2⟩
  | handled own k ih => exact fun Q E p z g h => ih _ Q E p z g h
  | genState i k ih =>
    intro Q E p z g h
    obtain ⟨st, hs, h2⟩ := h
    obtain ⟨st2, e1, e2⟩ := g.seen hs
    refine ⟨st2, e1, ?_⟩
    rw [e2]
    exact ih st.seen Q E p z g h2
  | newGen c k ih =>
    intro Q E p z g h
    have q := ih z.gens.size Q E p { z with gens := z.gens.push (.fresh c) } (g.push fun _ _ _ _ _ _ w => nomatch w) h
    rw [real_push g] at q
    show wp M Γ (k (real old z).gens.size) _ _ p _
    rw [real_size]
    exact q
  | resume i r _ k ih =>
    intro Q E p z g h
    obtain ⟨res, z', hw, h2⟩ := h
    obtain ⟨a, b⟩ := lock_wakes g hw
    exact ⟨res, _, a, ih res Q E p z' b h2⟩
  | yield _ _ _ _ => exact fun Q E p z g h => h
  | stack k ih => exact fun Q E p z g h => ih _ Q E p z g h
  | fork _ _ => exact fun Q E p z g h => h
  | thread k ih => exact fun Q E p z g h => ih _ Q E p z g h
  | await _ _ _ _ _ => exact fun Q E p z g h => h

/-- the sleepers of a table -/
def sleepers (G : Array GenState) : Nat → Option GenState := fun i => match G[i]? with
  | some (.suspended k l c p fs cl) => some (.suspended k l c p fs cl)
  | _ => none
theorem good_sleep (G : Array GenState) : Good (sleepers G) (G.map ghost) where
  at_ := fun i st e => by
    unfold sleepers at e
    split at e
    · rename_i k l c p fs cl q
      cases e
      refine ⟨l, c, p, fs, cl, ?_, rfl⟩
      rw [Array.getElem?_map, q]
      rfl
    · cases e
  clean := fun i k l c p fs cl e h => by
    rw [Array.getElem?_map] at h
    cases q : G[i]? with
    | none =>
      rw [q] at h
      cases h
    | some x =>
      rw [q] at h
      have h2 : ghost x = .suspended k l c p fs cl := Option.some.inj h
      cases x with
      | suspended k2 l2 c2 p2 fs2 cl2 =>
        unfold sleepers at e
        rw [q] at e
        cases e
      | fresh _ => cases h2
      | running => cases h2
      | finished => cases h2
theorem mix_sleep (G : Array GenState) : mix (sleepers G) (G.map ghost) = G := by
  apply Array.ext_getElem?
  intro i
  rw [mix_get, Array.getElem?_map]
  unfold sleepers
  cases q : G[i]? with
  | none => rfl
  | some x => cases x <;> rfl
theorem bare_ghost {G : Array GenState} (h : PyProof.Rows.AllBare G) : PyProof.Rows.AllBare (G.map ghost) := fun y hy => by
  obtain ⟨x, hx, e⟩ := Array.mem_map.mp hy
  have hb := h x hx
  subst e
  cases x <;> exact hb
theorem bare_mix {G G2 : Array GenState} (h : PyProof.Rows.AllBare G) (h2 : PyProof.Rows.AllBare G2) : PyProof.Rows.AllBare (mix (sleepers G) G2) := fun y hy => by
  obtain ⟨i, hi, e⟩ := Array.mem_iff_getElem.mp hy
  have q : (mix (sleepers G) G2)[i]? = some y := by
    rw [Array.getElem?_eq_getElem hi, e]
  rw [mix_get] at q
  cases q2 : G2[i]? with
  | none =>
    rw [q2] at q
    cases q
  | some x =>
    rw [q2] at q
    have q3 : (sleepers G i).getD x = y := Option.some.inj q
    unfold sleepers at q3
    split at q3
    · rename_i k l c p fs cl q4
      rw [← q3]
      exact h _ (Array.mem_of_getElem? q4)
    · rw [← q3]
      exact h2 _ (Array.mem_of_getElem? q2)
/-- A RUN LEAVES THE SLEEPERS ASLEEP: what holds of it whatever the table's sleepers would do -/
theorem asleep {α : Type} {M : Model} {A : Around} {t : Sem α} {Q : α → Shared → Prop} {E : Value → Shared → Prop} {s : Shared} (h : wpAny M A t Q E { s with gens := s.gens.map ghost }) :
    wpAny M A t (fun a s' => ∃ y, s' = real (sleepers s.gens) y ∧ Good (sleepers s.gens) y.gens ∧ Q a y) (fun e s' => ∃ y, s' = real (sleepers s.gens) y ∧ Good (sleepers s.gens) y.gens ∧ E e y) s := by
  intro Γ p hΓ
  have q := lock_wp M Γ (sleepers s.gens) t _ _ p { s with gens := s.gens.map ghost } (good_sleep s.gens) (h Γ p hΓ)
  have e : real (sleepers s.gens) { s with gens := s.gens.map ghost } = s := by
    show ({ s with gens := mix (sleepers s.gens) (s.gens.map ghost) } : Shared) = s
    rw [mix_sleep]
  rw [e] at q
  exact q
/-- .. each sleeper still stands at its place -/
theorem still {G : Array GenState} {y : Shared} {i : Nat} {k : Resume → Sem PySem.Fin} {l : List Value} {c : Code} {p : Pos} {fs : List Frame} {cl : Bool} (g : Good (sleepers G) y.gens) (h : G[i]? = some (.suspended k l c p fs cl)) :
    (real (sleepers G) y).gens[i]? = some (.suspended k l c p fs cl) := by
  have e : sleepers G i = some (.suspended k l c p fs cl) := by
    unfold sleepers
    rw [h]
  obtain ⟨l2, c2, p2, fs2, cl2, h2, _⟩ := g.at_ i _ e
  show (mix (sleepers G) y.gens)[i]? = _
  rw [mix_get, h2, e]
  rfl
end KG

set_option Elab.async false
set_option linter.all false
set_option maxRecDepth 100000
/-! KGen: the body of a generator def (if, for, yield), over any protocol whose state is a family of contexts. -/
namespace KG
open PySem PySem.Spec PyProof.Rows L2 GenW

/-! ### if and for as segments -/
section
variable {M : Model} {A : Around} {R : GenEnd} {Y : Protocol} {n : Nat} {s₀ : Shared} {c : Code} {fs : List Frame} {s : Shared} {env : Env}
  {K : Flow → Sem PySem.Fin} {J : Value → Sem PySem.Fin} {gd : Bool → Bool} {lv : List Value → List Value}
/-- no exception leaves -/
abbrev Nv : Value → Shared → Prop := fun _ _ => False
theorem nv {α : Type} {A2 : Around} {t : Sem α} {Q : α → Shared → Prop} {E : Value → Shared → Prop} {z : Shared} (h : wpAny M A2 t Q Nv z) : wpAny M A2 t Q E z := wpAny_mono h (fun _ _ x => x) fun _ _ x => x.elim
theorem seg_If {test : Expr} {a b : List Stmt} {pos : Pos}
    (h : wpAny M (A.over c fs) (isTrue test env (eval test env)) (fun v z => Seg M A R Y n s₀ c ((execs (if v = true then a else b) env).wrap K J gd lv) fs z) Nv s) :
    Seg M A R Y n s₀ c ((exec (.If test a b pos) env).wrap K J gd lv) fs s := by
  rw [exec_If]
  refine seg_bind_wrap (wpAny_standAt ?_)
  refine seg_bind_wrap (nv (wpAny_mono h (fun v z hz => ?_) fun _ _ x => x))
  cases v with
  | true => exact hz
  | false => exact hz
theorem seg_For {tg iter : Expr} {body : List Stmt} {pos : Pos} (hs : ∀ x, foldedSetIterable iter env x = pure x)
    (h : wpAny M (A.over c fs) (eval iter env) (fun x z => wpAny M (A.over c fs) (pyIter x) (fun it z2 => ∀ p, Seg M A R Y n s₀ (.forLoop tg it body [] env) (M.den (.forLoop tg it body [] env))
      (.ret (fun r => ((match r with | .ok f => (.pure f : Sem Flow) | .error e => .raise e).onRaise (cameBack env)).wrap K J gd lv) none (gd false) (lv []) c p [] :: fs) z2) Nv z) Nv s) :
    Seg M A R Y n s₀ c ((exec (.For tg iter body [] pos) env).wrap K J gd lv) fs s := by
  rw [exec_For]
  refine seg_bind_wrap (wpAny_standAt ?_)
  refine seg_bind_wrap (nv (wpAny_mono h (fun x z hz => ?_) fun _ _ x => x))
  refine seg_bind_wrap (wpAny_of_eq (hs x) ?_)
  refine seg_bind_wrap (wpAny_standAt ?_)
  refine seg_bind_wrap (wpAny_holding (nv (wpAny_mono hz (fun it z2 hz2 => ?_) fun _ _ x => x)))
  exact seg_call hz2
end
section
variable {prog : Program} {w : World} {A : Around} {R : GenEnd} {Y : Protocol} {n : Nat} {s₀ : Shared} {fs : List Frame} {s : Shared} {env : Env}
/-- what a turn's block hands back to its loop -/
def turnK (tg : Expr) (it : Value) (body : List Stmt) (env : Env) : Flow → Sem PySem.Fin
  | .next => .pure (.again (.forLoop tg it body [] env))
  | .cont => .pure (.again (.forLoop tg it body [] env))
  | .brk => .pure (.done .next)
  | .ret v => .pure (.done (.ret v))
def turnJ (env : Env) (e : Value) : Sem PySem.Fin := (do noteFrame e env; theTreesLotGoes e : Sem Unit).wrap (fun _ => .raise e) .raise id id
theorem seg_forLoop {tg : Expr} {it : Value} {body : List Stmt}
    (h : wpAny (model prog w) (A.over (.forLoop tg it body [] env) fs) (pyNext it) (fun r z => match r with
      | none => Seg (model prog w) A R Y n s₀ (.block [] env) (.pure (.done .next)) fs z
      | some v => wpAny (model prog w) (A.over (.forLoop tg it body [] env) fs) (letOwnedTupleGo tg it v) (fun _ z1 => wpAny (model prog w) (A.over (.forLoop tg it body [] env) fs) (assign tg env v) (fun _ z2 =>
          Seg (model prog w) A R Y n s₀ (.forLoop tg it body [] env) ((execs body env).wrap (turnK tg it body env) (turnJ env) id id) fs z2) Nv z1) Nv z) Nv s) :
    Seg (model prog w) A R Y n s₀ (.forLoop tg it body [] env) ((model prog w).den (.forLoop tg it body [] env)) fs s := by
  show Seg _ A R Y n s₀ _ ((forTurn tg it body [] env).onRaise (fun x => do noteFrame x env; theTreesLotGoes x)) fs s
  unfold forTurn
  rw [Sem.onRaise_eq_wrap]
  refine seg_bind_wrap (wpAny_standAt ?_)
  refine seg_bind_wrap (wpAny_onRaise (wpAny_mono h (fun r z hz => ?_) fun _ _ x => x.elim))
  cases r with
  | none =>
    refine seg_again (c' := .block [] env) rfl ?_
    exact hz
  | some v =>
    refine seg_bind_wrap (nv (wpAny_mono hz (fun _ z1 h1 => ?_) fun _ _ x => x))
    refine seg_bind_wrap (nv (wpAny_mono h1 (fun _ z2 h2 => ?_) fun _ _ x => x))
    rw [Sem.bind_eq_wrap', Sem.wrap_wrap]
    rw [Sem.wrap_congr (execs body env) _ _ (K' := turnK tg it body env) (H' := turnJ env) (fun f => by cases f <;> rfl) (fun e => by
      first
        | exact Sem.bind_eq_wrap _ _
        | (show ((do noteFrame e env; theTreesLotGoes e : Sem Unit).bind fun _ => .raise e) = turnJ env e
           rw [Sem.bind_eq_wrap]
           rfl))]
    exact h2
end
end KG

namespace KG
open PySem PySem.Spec PyProof.Rows L2 GenW

/-! ### a generator's body over a family of contexts -/
/-- lists, tuples, the script -/
def Sq : HO → Prop
  | .lst _ => True
  | .tup _ => True
  | .frz _ (.lst _) => True
  | _ => False
/-- only such are tracked -/
def Simp (H : Hp) : Prop := ∀ b o, H b = some o → Sq o
/-- the heap has grown: all that stood stands; of simple things alone, if there were no others -/
structure Gr (H H' : Hp) : Prop where
  ex : ∀ b o, H b = some o → H' b = some o
  sm : Simp H → Simp H'
theorem Gr.refl (H : Hp) : Gr H H := ⟨fun _ _ h => h, fun h => h⟩
theorem Gr.trans {H H1 H2 : Hp} (a : Gr H H1) (b : Gr H1 H2) : Gr H H2 := ⟨fun x o h => b.ex x o (a.ex x o h), fun h => b.sm (a.sm h)⟩
theorem Gr.new {H : Hp} {p : Addr} {o : HO} (h : H p = none) (so : Sq o) : Gr H (upd H p o) where
  ex := fun b u e => by
    rw [upd_ne (ne_of_none e h)]
    exact e
  sm := fun hs b u e => by
    by_cases q : b = p
    · rw [q, upd_same] at e
      rw [← Option.some.inj e]
      exact so
    · rw [upd_ne q] at e
      exact hs b u e
theorem Gr.tup {H : Hp} {p : Addr} {xs : List V} (h : H p = none) : Gr H (upd H p (.tup xs)) := .new h trivial
theorem Gr.lst {H : Hp} {p : Addr} {xs : List V} (h : H p = none) : Gr H (upd H p (.lst xs)) := .new h trivial
/-- an object that H does not know is written -/
theorem Gr.mut {H H' : Hp} {p : Addr} {o : HO} (e : Gr H H') (h : H p = none) (so : Sq o) : Gr H (upd H' p o) where
  ex := fun b u eb => by
    rw [upd_ne (ne_of_none eb h)]
    exact e.ex b u eb
  sm := fun hs b u eb => by
    by_cases q : b = p
    · rw [q, upd_same] at eb
      rw [← Option.some.inj eb]
      exact so
    · rw [upd_ne q] at eb
      exact e.sm hs b u eb
/-- free behind is free before -/
theorem Gr.back {H H' : Hp} {p : Addr} (e : Gr H H') (h : H' p = none) : H p = none := by
  cases q : H p with
  | none => rfl
  | some o =>
    rw [e.ex p o q] at h
    cases h

/-- the context, another entry; nothing raises -/
abbrev cxAt (X : Cx) (s0 : Shared) (H0 : Hp) : Cx := { X with s_0 := s0, H_0 := H0, xe := fun _ _ => False }
/-- a protocol with its family: F: what is out, the state of the last waking, the entry, the pins -/
structure Wd where
  Y : Protocol
  N : Nat
  Pfx : List V → Prop
  G0 : Hp
  F : List V → Shared → Shared → Hp → List (Addr × Obj) → Prop
/-- the generator runs: ys is out; ip: its own iterators as they stand -/
def HI (X : Cx) (W : Wd) (s₀ : Shared) (ip : List (Addr × Obj)) (ys : List V) (σ : L2.St) (H : Hp) (s : Shared) : Prop :=
  ∃ s0 H0 pn, W.F ys s₀ s0 H0 pn ∧ (∀ p ∈ ip, s0.heap.objs.size ≤ p.1 ∧ ∀ q ∈ pn, p.1 ≠ q.1) ∧ Inv (cxAt X s0 H0) (pn ++ ip) σ H s
theorem HI.less {X : Cx} {W : Wd} {s₀ s : Shared} {ip ip2 : List (Addr × Obj)} {ys : List V} {σ : L2.St} {H : Hp} (h : HI X W s₀ (ip ++ ip2) ys σ H s) : HI X W s₀ ip ys σ H s := by
  obtain ⟨s0, H0, pn, f, c, I⟩ := h
  refine ⟨s0, H0, pn, f, fun p hp => c p (List.mem_append_left _ hp), I.pins_of fun p hp => I.pin p (List.mem_append_right _ ?_)⟩
  rcases List.mem_append.mp hp with z | z
  · exact List.mem_append_left _ z
  · exact List.mem_append_right _ (List.mem_append_left _ z)
def HSP (X : Cx) (W : Wd) (s₀ : Shared) (ip : List (Addr × Obj)) (D : GEnds) (ys : List V) : Flow → Shared → Prop
  | .next, s => ∃ σ H, HI X W s₀ ip ys σ H s ∧ D.nx ys σ H
  | .brk, s => ∃ σ H, HI X W s₀ ip ys σ H s ∧ D.bk ys σ H
  | .cont, s => ∃ σ H, HI X W s₀ ip ys σ H s ∧ D.ct ys σ H
  | .ret u, s => ∃ v σ H, HI X W s₀ ip ys σ H s ∧ RelV v u ∧ D.rt ys v H
/-- where the code stands -/
structure HC (X : Cx) (A : Around) (c : Code) (fs : List Frame) (gd : Bool → Bool) : Prop where
  over : A.over c fs = X.A
  split : splitAtGen fs = none
  guard : fs.any Frame.guarded = false
  gd : gd false = false
/-- what follows -/
def HK (X : Cx) (W : Wd) (ip : List (Addr × Obj)) (A : Around) (R : GenEnd) (c : Code) (fs : List Frame) (K : Flow → Sem PySem.Fin) (D : GEnds) : Prop :=
  ∀ (n : Nat) (ys : List V) (s₀ s : Shared) (f : Flow), n + ys.length = W.N → HSP X W s₀ ip D ys f s → Seg (model X.prog X.w) A R W.Y n s₀ c (K f) fs s
structure HS (X : Cx) (W : Wd) (st : Stmt) (t : TGn) : Prop where
  run : ∀ (A : Around) (ip : List (Addr × Obj)) (R : GenEnd) (n : Nat) (ys : List V) (s₀ : Shared) (c : Code) (fs : List Frame) (K : Flow → Sem PySem.Fin) (J : Value → Sem PySem.Fin) (gd : Bool → Bool) (lv : List Value → List Value) (s : Shared) (σ : L2.St) (H : Hp) (D : GEnds),
    HC X A c fs gd → n + ys.length = W.N → HK X W ip A R c fs K D → HI X W s₀ ip ys σ H s → t D ys σ H → Seg (model X.prog X.w) A R W.Y n s₀ c ((exec st X.env).wrap K J gd lv) fs s
structure HSs (X : Cx) (W : Wd) (st : List Stmt) (t : TGn) : Prop where
  run : ∀ (A : Around) (ip : List (Addr × Obj)) (R : GenEnd) (n : Nat) (ys : List V) (s₀ : Shared) (c : Code) (fs : List Frame) (K : Flow → Sem PySem.Fin) (J : Value → Sem PySem.Fin) (gd : Bool → Bool) (lv : List Value → List Value) (s : Shared) (σ : L2.St) (H : Hp) (D : GEnds),
    HC X A c fs gd → n + ys.length = W.N → HK X W ip A R c fs K D → HI X W s₀ ip ys σ H s → t D ys σ H → Seg (model X.prog X.w) A R W.Y n s₀ c ((execs st X.env).wrap K J gd lv) fs s

section
variable {X : Cx} {W : Wd} {st : Stmt} {rest : List Stmt}
theorem hsp_of {s0 : Shared} {H0 : Hp} {pn ip : List (Addr × Obj)} {s₀ s : Shared} {D : GEnds} {ys : List V} {f : Flow} (hf : W.F ys s₀ s0 H0 pn) (hc : ∀ p ∈ ip, s0.heap.objs.size ≤ p.1 ∧ ∀ q ∈ pn, p.1 ≠ q.1)
    (h : SP (cxAt X s0 H0) (pn ++ ip) (D.at ys) f s) : HSP X W s₀ ip D ys f s := by
  cases f with
  | next => obtain ⟨σ, H, I, q⟩ := h; exact ⟨σ, H, ⟨s0, H0, pn, hf, hc, I⟩, q⟩
  | brk => obtain ⟨σ, H, I, q⟩ := h; exact ⟨σ, H, ⟨s0, H0, pn, hf, hc, I⟩, q⟩
  | cont => obtain ⟨σ, H, I, q⟩ := h; exact ⟨σ, H, ⟨s0, H0, pn, hf, hc, I⟩, q⟩
  | ret u => obtain ⟨v, σ, H, I, r, q⟩ := h; exact ⟨v, σ, H, ⟨s0, H0, pn, hf, hc, I⟩, r, q⟩
/-- a statement that hands out nothing -/
theorem hs_ps {t : TS} (h : ∀ s0 H0, PS (cxAt X s0 H0) st t) : HS X W st (tPlain t) := by
  refine ⟨fun A ip R n ys s₀ c fs K J gd lv s σ H D g hn k hI ht => ?_⟩
  obtain ⟨s0, H0, pn, hf, hc, I⟩ := hI
  refine seg_wrap ?_
  rw [g.over]
  exact wpAny_mono ((h s0 H0).run _ s σ H (D.at ys) I ht) (fun f s' hs => k n ys s₀ s' f hn (hsp_of hf hc hs)) fun _ _ x => x.elim
theorem hss_pss {t : TS} (h : ∀ s0 H0, PSs (cxAt X s0 H0) rest t) : HSs X W rest (tPlain t) := by
  refine ⟨fun A ip R n ys s₀ c fs K J gd lv s σ H D g hn k hI ht => ?_⟩
  obtain ⟨s0, H0, pn, hf, hc, I⟩ := hI
  refine seg_wrap ?_
  rw [g.over]
  exact wpAny_mono ((h s0 H0).run _ s σ H (D.at ys) I ht) (fun f s' hs => k n ys s₀ s' f hn (hsp_of hf hc hs)) fun _ _ x => x.elim
theorem hss_nil : HSs X W [] tG0 :=
  ⟨fun A ip R n ys s₀ c fs K J gd lv s σ H D g hn k hI ht => seg_execs_nil (k n ys s₀ s .next hn ⟨σ, H, hI, ht⟩)⟩
theorem hss_cons {t u : TGn} (a : HS X W st t) (b : HSs X W rest u) : HSs X W (st :: rest) (tGThen t u) := by
  refine ⟨fun A ip R n ys s₀ c fs K J gd lv s σ H D g hn k hI ht => ?_⟩
  refine seg_execs_cons ?_
  refine a.run A ip R n ys s₀ c fs _ J gd lv s σ H { D with nx := fun ys' σ' H' => u D ys' σ' H' } g hn (fun n' ys' s₀' s' f hn' hs => ?_) hI ht
  cases f with
  | next =>
    obtain ⟨σ', H', I', q⟩ := hs
    exact b.run A ip R n' ys' s₀' c fs K J gd lv s' σ' H' D g hn' k I' q
  | brk => exact k n' ys' s₀' s' .brk hn' hs
  | cont => exact k n' ys' s₀' s' .cont hn' hs
  | ret u => exact k n' ys' s₀' s' (.ret u) hn' hs
/-- if -/
def tHIf (c : TT) (t u : TGn) : TGn := fun D ys σ H => c σ H fun b H1 => if b = true then t D ys σ H1 else u D ys σ H1
theorem hs_if {c : Expr} {a b : List Stmt} {pos : Pos} {tc : TT} {t u : TGn} (hc : ∀ s0 H0, PT (cxAt X s0 H0) c tc) (ha : HSs X W a t) (hb : HSs X W b u) : HS X W (.If c a b pos) (tHIf tc t u) := by
  refine ⟨fun A ip R n ys s₀ cd fs K J gd lv s σ H D g hn k hI ht => ?_⟩
  obtain ⟨s0, H0, pn, hf, hcc, I⟩ := hI
  refine seg_If ?_
  rw [g.over]
  refine wpAny_mono ((hc s0 H0).run _ s σ H _ I ht) (fun v s' hv => ?_) fun _ _ x => x
  obtain ⟨H1, I1, q⟩ := hv
  cases v with
  | true => exact ha.run A ip R n ys s₀ cd fs K J gd lv s' σ H1 D g hn k ⟨s0, H0, pn, hf, hcc, I1⟩ q
  | false => exact hb.run A ip R n ys s₀ cd fs K J gd lv s' σ H1 D g hn k ⟨s0, H0, pn, hf, hcc, I1⟩ q

/-! ### for -/
theorem hc_loop {A : Around} {c c' : Code} {fs : List Frame} {gd : Bool → Bool} {k : Result → Sem PySem.Fin} {l kp : List Value} {p : Pos} (g : HC X A c fs gd) (hw : c'.weight = 0) (hu : c'.cUnits = 0) :
    HC X A c' (.ret k none (gd false) l c p kp :: fs) id where
  over := (over_loop hw hu).trans g.over
  split := by
    rw [splitAtGen_ret, g.split]
    rfl
  guard := by
    show (gd false || fs.any Frame.guarded) = false
    rw [g.gd, g.guard]
    rfl
  gd := rfl
def tHFor (wi : TI) (g : TG) (tb : TGn) : TGn := fun D ys σ H => wi σ H fun J H1 => ∃ Wv : Nat → Nat → List V → L2.St → Hp → Prop, (∃ m, Wv 0 m ys σ H1) ∧ ∀ i m ys σ H, Wv i m ys σ H →
  (J.stop i H ∧ D.nx ys σ H) ∨ (J.go i H ∧ ∃ N : List V → L2.St → Hp → Prop, (∀ ys' σ' H', N ys' σ' H' → ∃ m', m' < m ∧ Wv (i + 1) m' ys' σ' H') ∧ ∀ x H', J.yld i H x H' → g x σ H' fun σ2 H2 => tb { D with nx := N, ct := N, bk := D.nx } ys σ2 H2)
theorem hs_for {tg iter : Expr} {body : List Stmt} {wi : TI} {g : TG} {tb : TGn} {pos : Pos} (hcm : X.calm = true) (hex : X.ex = []) (hi : ∀ s0 H0, PI (cxAt X s0 H0) tg iter wi) (hg : ∀ s0 H0, PG (cxAt X s0 H0) tg g) (hb : HSs X W body tb)
    (hs : ∀ x, foldedSetIterable iter X.env x = pure x := by intro _; rfl) : HS X W (.For tg iter body [] pos) (tHFor wi g tb) := by
  refine ⟨fun A ip R n ys s₀ c fs K J gd lv s σ H D gc hn k hI ht => ?_⟩
  obtain ⟨s0, H0, pn, hf, hc, I⟩ := hI
  refine seg_For hs ?_
  rw [gc.over]
  refine wpAny_mono ((hi s0 H0).run _ s σ H _ I ht) (fun v s1 h1 => wpAny_mono h1 (fun itv s2 h2 => ?_) fun _ _ x => x) fun _ _ x => x
  obtain ⟨it, fp, tn, Jt, H2, e, I2, T, st2, f2, Wv, ⟨m0, w0⟩, turn⟩ := h2
  subst e
  intro p
  have gl := fun (kk : Result → Sem PySem.Fin) => hc_loop (k := kk) (c' := .forLoop tg (.ref it) body [] X.env) (l := lv []) (kp := []) (p := p) gc rfl rfl
  have gb := fun (kk : Result → Sem PySem.Fin) => hc_loop (k := kk) (c' := .block [] X.env) (l := lv []) (kp := []) (p := p) gc rfl rfl
  -- what never changes of the iterator's records
  have stat : ∀ b ∈ fp, b ≠ X.env.locals ∧ b ∉ X.fs ∧ (∀ x c, X.env.cells.lookup x = some c → c ≠ b) ∧ (∀ q ∈ X.pn, q.1 ≠ b) ∧ ∀ q ∈ ip, q.1 ≠ b := fun b hb => by
    obtain ⟨_, y1, y2, _, y4, y5⟩ := f2 b hb
    exact ⟨y1, y2, y4, fun q hq => y5 q (List.mem_append_left _ hq), fun q hq => y5 q (List.mem_append_right _ (List.mem_append_right _ hq))⟩
  have loop : ∀ (m n i : Nat) (ys : List V) (s₀ s0 : Shared) (H0 : Hp) (pn : List (Addr × Obj)) (s : Shared) (σ : L2.St) (H : Hp), n + ys.length = W.N → Wv i m ys σ H → W.F ys s₀ s0 H0 pn → (∀ p ∈ ip, s0.heap.objs.size ≤ p.1 ∧ ∀ q ∈ pn, p.1 ≠ q.1) →
      Inv (cxAt X s0 H0) (pn ++ ip) σ H s → tn i s.heap → (∀ b ∈ fp, H b = none ∧ s0.heap.objs.size ≤ b ∧ ∀ q ∈ pn, q.1 ≠ b) →
      Seg (model X.prog X.w) A R W.Y n s₀ (.forLoop tg (.ref it) body [] X.env) ((model X.prog X.w).den (.forLoop tg (.ref it) body [] X.env))
        (.ret (fun r => ((match r with | .ok f => (.pure f : Sem Flow) | .error e => .raise e).onRaise (cameBack X.env)).wrap K J gd lv) none (gd false) (lv []) c p [] :: fs) s := by
    intro m
    induction m using Nat.strongRecOn with
    | ind m ih =>
      intro n i ys s₀ s0 H0 pn s σ H hn wv hf hc I st dyn
      have fpok : ∀ {H' : Hp}, (∀ b ∈ fp, H' b = none) → ∀ b ∈ fp, FpOk (cxAt X s0 H0) (pn ++ ip) H' b := fun {H'} hH b hb => by
        obtain ⟨y1, y2, y4, y5, y6⟩ := stat b hb
        obtain ⟨_, z2, z3⟩ := dyn b hb
        refine ⟨hH b hb, y1, y2, .inr z2, y4, fun q hq => ?_⟩
        rcases List.mem_append.mp hq with w | w
        · exact y5 q w
        · rcases List.mem_append.mp w with w | w
          · exact z3 q w
          · exact y6 q w
      refine seg_forLoop ?_
      rw [(gl _).over]
      rcases turn i m ys σ H wv with ⟨stop, qn⟩ | ⟨go, N, hN, step⟩
      · refine wpAny_mono (T.done (cxAt X s0 H0) rfl rfl rfl hcm i _ s σ H Nv I (fpok fun b hb => (dyn b hb).1) st stop) (fun r s4 hr => ?_) fun _ _ x => x
        obtain ⟨hr, I4⟩ := hr
        subst hr
        exact seg_leaf (.ok .next) (k n ys s₀ s4 .next hn ⟨σ, H, ⟨s0, H0, pn, hf, hc, I4⟩, qn⟩)
      · refine wpAny_mono (T.item (cxAt X s0 H0) rfl rfl rfl hcm i _ s σ H Nv I (fpok fun b hb => (dyn b hb).1) st go) (fun r s4 hr => ?_) fun _ _ x => x
        obtain ⟨u, hr, h4⟩ := hr
        subst hr
        refine wpAny_mono h4 (fun _ s5 h5 => ?_) fun _ _ x => x
        obtain ⟨x, H5, I5, r5, y5, st5, fr5⟩ := h5
        have ob5 := T.obj _ _ st5
        have I5' := I5.pinned (fpok fr5) ob5
        rw [List.append_assoc] at I5'
        refine wpAny_mono ((hg s0 H0).run _ s5 σ H5 x u _ I5' r5 (step x H5 y5)) (fun _ s6 h6 => ?_) fun _ _ x => x
        obtain ⟨σ6, H6, I6, q6⟩ := h6
        have hc6 : ∀ q ∈ ip ++ pinsAt fp s5.heap, s0.heap.objs.size ≤ q.1 ∧ ∀ r ∈ pn, q.1 ≠ r.1 := fun q hq => by
          rcases List.mem_append.mp hq with w | w
          · exact hc q w
          · obtain ⟨hb, _⟩ := of_pinsAt w
            obtain ⟨_, z2, z3⟩ := dyn q.1 hb
            exact ⟨z2, fun r hr => Ne.symm (z3 r hr)⟩
        have again : ∀ {n7 : Nat} {ys7 : List V} {s₀7 s7 : Shared} {σ7 : L2.St} {H7 : Hp}, n7 + ys7.length = W.N → HI X W s₀7 (ip ++ pinsAt fp s5.heap) ys7 σ7 H7 s7 → N ys7 σ7 H7 →
            Seg (model X.prog X.w) A R W.Y n7 s₀7 (.forLoop tg (.ref it) body [] X.env) ((model X.prog X.w).den (.forLoop tg (.ref it) body [] X.env))
              (.ret (fun r => ((match r with | .ok f => (.pure f : Sem Flow) | .error e => .raise e).onRaise (cameBack X.env)).wrap K J gd lv) none (gd false) (lv []) c p [] :: fs) s7 := fun {n7 ys7 s₀7 s7 σ7 H7} hn7 hI7 n7' => by
          obtain ⟨m', hm, w7⟩ := hN ys7 σ7 H7 n7'
          obtain ⟨s07, H07, pn7, hf7, hc7, I7⟩ := hI7
          have mem : ∀ b ∈ fp, ∃ o, (b, o) ∈ pinsAt fp s5.heap := fun b hb => by
            obtain ⟨o, e, _⟩ := ob5 b hb
            exact ⟨o, mem_pinsAt hb e⟩
          have pin7 : ∀ b o, (b, o) ∈ pinsAt fp s5.heap → s7.heap.get? b = some o ∧ H7 b = none := fun b o hq => by
            obtain ⟨a1, a2, _⟩ := I7.pin (b, o) (List.mem_append_right _ (List.mem_append_right _ (List.mem_append_right _ hq)))
            exact ⟨a1, a2⟩
          refine ih m' hm n7 (i + 1) ys7 s₀7 s07 H07 pn7 s7 σ7 H7 hn7 w7 hf7 (fun q hq => hc7 q (List.mem_append_left _ hq)) (I7.pins_of fun q hq => I7.pin q (List.mem_append_right _ ?_)) (T.keep _ _ _ st5 fun b hb o e => (pin7 b o (mem_pinsAt hb e)).1) fun b hb => ?_
          · rcases List.mem_append.mp hq with w | w
            · exact List.mem_append_left _ w
            · exact List.mem_append_right _ (List.mem_append_left _ w)
          · obtain ⟨o, hq⟩ := mem b hb
            obtain ⟨a1, a2⟩ := hc7 (b, o) (List.mem_append_right _ hq)
            exact ⟨(pin7 b o hq).2, a1, fun r hr => Ne.symm (a2 r hr)⟩
        refine hb.run A (ip ++ pinsAt fp s5.heap) R n ys s₀ _ _ (turnK tg (.ref it) body X.env) (turnJ X.env) id id s6 σ6 H6 { D with nx := N, ct := N, bk := D.nx } (gl _) hn (fun n7 ys7 s₀7 s7 f hn7 hs7 => ?_) ⟨s0, H0, pn, hf, hc6, I6⟩ q6
        cases f with
        | next =>
          obtain ⟨σ7, H7, I7, n7'⟩ := hs7
          exact seg_again rfl (again hn7 I7 n7')
        | cont =>
          obtain ⟨σ7, H7, I7, n7'⟩ := hs7
          exact seg_again rfl (again hn7 I7 n7')
        | brk =>
          obtain ⟨σ7, H7, I7, q7⟩ := hs7
          exact seg_leaf (.ok .next) (k n7 ys7 s₀7 s7 .next hn7 ⟨σ7, H7, I7.less, q7⟩)
        | ret v =>
          obtain ⟨x7, σ7, H7, I7, r7, q7⟩ := hs7
          exact seg_leaf (.ok (.ret v)) (k n7 ys7 s₀7 s7 (.ret v) hn7 ⟨x7, σ7, H7, I7.less, r7, q7⟩)
  refine loop m0 n 0 ys s₀ s0 H0 pn s2 σ H2 hn w0 hf hc I2 st2 fun b hb => ?_
  obtain ⟨y0, _, _, y3, _, y5⟩ := f2 b hb
  refine ⟨y0, y3.resolve_left fun z => ?_, fun q hq => y5 q (List.mem_append_right _ (List.mem_append_left _ hq))⟩
  have z2 : b ∈ X.ex := z
  rw [hex] at z2
  cases z2

/-! ### yield -/
/-- behind an item the generator sleeps, and is woken in a heap that still holds G0 -/
def tHYield (N : Nat) (Pfx : List V → Prop) (G0 : Hp) (te : TE) : TGn := fun D ys σ H => ys.length < N ∧ te σ H fun x H1 => Pfx (ys ++ [x]) ∧ Gr G0 H1 ∧ ∀ H2, Gr G0 H2 → D.nx (ys ++ [x]) σ H2
/-- what the protocol asks of a yield follows from the state, if any waking is one of the family -/
def YOk (X : Cx) (W : Wd) : Prop := ∀ (n : Nat) (ys : List V) (x : V) (v : Value) (s₀ s : Shared) (ip : List (Addr × Obj)) (σ : L2.St) (H : Hp) (kap : Resume → Shared → Prop), n + 1 + ys.length = W.N → RelV x v → W.Pfx (ys ++ [x]) → Gr W.G0 H →
  HI X W s₀ ip ys σ H s → (∀ r s' H', (r = Value.none ∨ r = Value.bool true) → HI X W s' ip (ys ++ [x]) σ H' s' → Gr W.G0 H' → kap (.send r) s') → W.Y n s₀ v s kap
theorem hs_yield {e : Expr} {te : TE} {yp pos : Pos} (hy : YOk X W) (he : ∀ s0 H0, PE (cxAt X s0 H0) e te) (hco : X.env.scope.isCoroutine = false := by rfl) (hin : interactive X.env = false := by rfl) : HS X W (.Expr (.Yield (some e) yp) pos) (tHYield W.N W.Pfx W.G0 te) := by
  refine ⟨fun A ip R n ys s₀ c fs K J gd lv s σ H D g hn k hI ht => ?_⟩
  obtain ⟨hlt, ht⟩ := ht
  obtain ⟨n, rfl⟩ : ∃ m, n = m + 1 := ⟨n - 1, by omega⟩
  obtain ⟨s0, H0, pn, hf, hc, I⟩ := hI
  refine seg_Expr_Yield g.split g.gd g.guard ?_ hco hin
  rw [g.over]
  refine wpAny_mono ((he s0 H0).run _ s σ H _ I ht) (fun v s' hv => ?_) fun _ _ x => x.elim
  obtain ⟨x, H1, I1, rv, q1, q2, q3⟩ := hv
  intro kap hk
  refine hy n ys x v s₀ s' ip σ H1 kap (by omega) rv q1 q2 ⟨s0, H0, pn, hf, hc, I1⟩ fun r s'' H'' hr h'' e'' => hk r s'' ?_
  have go : Seg (model X.prog X.w) A R W.Y n s'' c (K .next) fs s'' := ?_
  · rcases hr with z | z
    · rw [z]
      exact go
    · rw [z]
      exact go
  refine k n (ys ++ [x]) s'' s'' .next ?_ ⟨σ, H'', h'', q3 H'' e''⟩
  rw [List.length_append, List.length_singleton]
  omega
end
end KG

set_option Elab.async false
set_option linter.all false
set_option maxRecDepth 100000
/-! KGenL: the family where the consumer is a list (the library's own protocol). -/
namespace KG
open PySem PySem.Spec PyProof.Rows L2 GenW

/-- ip0: iterators that stand already -/
def wdL (X : Cx) (S : Addr) (ip0 : List (Addr × Obj)) (G0 : Hp) (Pf : List V → Prop) : Wd where
  Y := GY X S
  N := sizeLine
  Pfx := Pf
  G0 := G0
  F := fun ys _ s0 H0 pn => s0 = X.s_0 ∧ H0 = X.H_0 ∧ ∃ acc c, pn = (S, lstObj acc c) :: ip0 ∧ Vals ys acc.toList
section
variable {X : Cx} {S : Addr} {ip0 : List (Addr × Obj)} {G0 : Hp} {Pf : List V → Prop} {st : List Stmt}
theorem hi_of {ip : List (Addr × Obj)} {ys : List V} {σ : L2.St} {H : Hp} {s₀ s : Shared} (hc : ∀ p ∈ ip, X.s_0.heap.objs.size ≤ p.1 ∧ p.1 ≠ S ∧ ∀ q ∈ ip0, p.1 ≠ q.1) (h : GI X S (ip0 ++ ip) ys σ H s) : HI X (wdL X S ip0 G0 Pf) s₀ ip ys σ H s := by
  obtain ⟨acc, c, r, I⟩ := h
  refine ⟨X.s_0, X.H_0, (S, lstObj acc c) :: ip0, ⟨rfl, rfl, acc, c, rfl, r⟩, fun p hp => ⟨(hc p hp).1, fun q hq => ?_⟩, I.wish _⟩
  rcases List.mem_cons.mp hq with z | z
  · rw [z]
    exact (hc p hp).2.1
  · exact (hc p hp).2.2 q z
theorem of_hi {ip : List (Addr × Obj)} {ys : List V} {σ : L2.St} {H : Hp} {s₀ s : Shared} (h : HI X (wdL X S ip0 G0 Pf) s₀ ip ys σ H s) : GI X S (ip0 ++ ip) ys σ H s ∧ ∀ p ∈ ip, X.s_0.heap.objs.size ≤ p.1 ∧ p.1 ≠ S ∧ ∀ q ∈ ip0, p.1 ≠ q.1 := by
  obtain ⟨s0, H0, pn, ⟨rfl, rfl, acc, c, rfl, r⟩, hc, I⟩ := h
  exact ⟨⟨acc, c, r, I.unwish⟩, fun p hp => ⟨(hc p hp).1, (hc p hp).2 (S, lstObj acc c) (List.mem_cons_self ..), fun q hq => (hc p hp).2 q (List.mem_cons_of_mem _ hq)⟩⟩
theorem yok_L (hpn : ∀ p ∈ X.pn, p.1 ≠ S) (hi0 : ∀ p ∈ ip0, p.1 ≠ S) (hA : Apart X S) : YOk X (wdL X S ip0 G0 Pf) := by
  intro n ys x v s₀ s ip σ H kap hn rv _ hG hI hk
  obtain ⟨g, hc⟩ := of_hi hI
  refine ⟨ys, x, ip0 ++ ip, σ, H, hn, rv, g, fun s' z => hk .none s' H (.inl rfl) (hi_of hc (g.woken hpn (fun p hp => ?_) hA rv z)) hG⟩
  rcases List.mem_append.mp hp with w | w
  · exact hi0 p w
  · exact (hc p w).2.1
/-- a body of the family is a body of the library's own rules -/
theorem gss_of {t : TGn} (h : ∀ S ip0, YOk X (wdL X S ip0 G0 Pf) → HSs X (wdL X S ip0 G0 Pf) st t) : GSs X st t := by
  refine ⟨fun A S ip R n ys s₀ c fs K J gd lv s σ H D g hn k hI ht => ?_⟩
  refine (h S ip (yok_L g.pn g.ip g.apart)).run A [] R n ys s₀ c fs K J gd lv s σ H D ⟨g.over, g.split, g.guard, g.gd⟩ hn (fun n' ys' s₀' s' f hn' hs => k.ok n' ys' s₀' s' f hn' ?_) (hi_of (fun p hp => by cases hp) (by rw [List.append_nil]; exact hI)) ht
  have go : ∀ {σ' : L2.St} {H' : Hp}, HI X (wdL X S ip G0 Pf) s₀' [] ys' σ' H' s' → GI X S ip ys' σ' H' s' := fun {σ' H'} z => by
    obtain ⟨z, _⟩ := of_hi z
    rw [List.append_nil] at z
    exact z
  cases f with
  | next => obtain ⟨σ', H', I', q⟩ := hs; exact ⟨σ', H', go I', q⟩
  | brk => obtain ⟨σ', H', I', q⟩ := hs; exact ⟨σ', H', go I', q⟩
  | cont => obtain ⟨σ', H', I', q⟩ := hs; exact ⟨σ', H', go I', q⟩
  | ret u => obtain ⟨v, σ', H', I', r, q⟩ := hs; exact ⟨v, σ', H', go I', r, q⟩
end
end KG

set_option Elab.async false
set_option linter.all false
set_option maxRecDepth 100000
/-! KGenF: for x in gen(..): body. The consumer's body runs defs of its own; the generator sees of the heap what is older than its call. -/
namespace KG
open PySem PySem.Spec PyProof.Rows L2 GenW

/-! ### the heap up to an address -/
def cutH (h : Heap) (n : Nat) : Heap := ⟨h.objs.extract 0 n, h.life⟩
theorem cutH_size {h : Heap} {n : Nat} : (cutH h n).objs.size = min n h.objs.size := by
  unfold cutH
  rw [Array.size_extract]
  omega
theorem cutH_get {h : Heap} {n b : Nat} : (cutH h n).get? b = if b < n then h.get? b else none := by
  unfold Heap.get? cutH
  show (match (h.objs.extract 0 n)[b]? with | some ⟨_, _, .freed, _⟩ => none | o => o) = _
  rw [Array.getElem?_extract]
  by_cases q : b < n
  · rw [if_pos q]
    by_cases r : b < h.objs.size
    · rw [if_pos (by omega), Nat.zero_add]
      rfl
    · rw [if_neg (by omega), Array.getElem?_eq_none (by omega)]
  · rw [if_neg q, if_neg (by omega)]
theorem cut_old {h : Heap} {n b : Nat} {o : Obj} (e : (cutH h n).get? b = some o) : b < n ∧ h.get? b = some o := by
  rw [cutH_get] at e
  by_cases q : b < n
  · rw [if_pos q] at e
    exact ⟨q, e⟩
  · rw [if_neg q] at e
    cases e
theorem cut_of {h : Heap} {n b : Nat} {o : Obj} (q : b < n) (e : h.get? b = some o) : (cutH h n).get? b = some o := by
  rw [cutH_get, if_pos q]
  exact e
def cutS (z : Shared) (n : Nat) : Shared := { z with heap := cutH z.heap n }
theorem frames_cut {base h1 h : Heap} {n : Nat} : ∀ {l : List Env}, (cutH h1 n).FunFrames base l → h.FunFrames base l → (cutH h n).FunFrames base l
  | [], _, _ => trivial
  | env :: r, a, b => by
    obtain ⟨k, ⟨L, o, hf, hn, ho, hd⟩, ra⟩ := a
    obtain ⟨_, ⟨L2, o2, hf2, hn2, ho2, hd2⟩, rb⟩ := b
    rw [hf] at hf2
    have e : L = L2 := Option.some.inj hf2
    subst e
    exact ⟨k, ⟨L, o2, hf, hn, cut_of (cut_old ho).1 ho2, hd2⟩, frames_cut ra rb⟩

/-! ### the protocol -/
/-- from a waking to the next item: what is older than the call is kept -/
structure Past (P : Program) (w : World) (outer : List Env) (n0 : Nat) (G0 : Hp) (s₀ s : Shared) : Prop where
  os : s.os = s₀.os
  bare : AllBare s.gens
  kept : ∃ H', Un (frs outer) [] G0 H' (cutH s₀.heap n0) s.heap ∧ HOk P w H' s.heap ∧ ∀ b o, G0 b = some o → H' b = some o
/-- what the one that wakes it has to see to -/
structure Wake (P : Program) (w : World) (base : Heap) (outer : List Env) (n0 : Nat) (G0 : Hp) (pl : List (Addr × Obj)) (s : Shared) : Prop where
  bare : AllBare s.gens
  bs : ∀ b o, base.get? b = some o → s.heap.get? b = some o
  fr : s.heap.FunFrames base outer
  big : n0 ≤ s.heap.objs.size
  hok : ∃ H', (∀ b o, G0 b = some o → H' b = some o) ∧ HOk P w H' s.heap
  pl : ∀ p ∈ pl, s.heap.get? p.1 = some p.2
/-- its own records -/
def Priv (n0 : Nat) (pl : List (Addr × Obj)) (s : Shared) : Prop := ∀ p ∈ pl, s.heap.get? p.1 = some p.2 ∧ n0 ≤ p.1 ∧ ∀ u, p.2.data ≠ .cell u
def YF (P : Program) (w : World) (base : Heap) (outer : List Env) (n0 : Nat) (G0 : Hp) (a : Addr) (go : Obj) (xs : List V) : Protocol := fun m s₀ v s kap =>
  ∃ ys x pl, m + 1 + ys.length = xs.length ∧ (ys ++ [x]) <+: xs ∧ RelV x v ∧ Past P w outer n0 G0 s₀ s ∧ Priv n0 ((a, go) :: pl) s ∧ ∀ s', Wake P w base outer n0 G0 ((a, go) :: pl) s' → kap (.send .none) s' ∧ kap (.send (.bool true)) s'
def wdF (P : Program) (w : World) (base : Heap) (outer : List Env) (n0 : Nat) (G0 : Hp) (a : Addr) (go : Obj) (xs : List V) : Wd where
  Y := YF P w base outer n0 G0 a go xs
  N := xs.length
  Pfx := fun zs => zs <+: xs
  G0 := G0
  F := fun _ s₀ s0 H0 pn => s0 = cutS s₀ n0 ∧ H0 = G0 ∧ pn = [(a, go)] ∧ n0 ≤ s₀.heap.objs.size ∧ n0 ≤ a

/-- what the generator's context is known to be -/
structure GX (X : Cx) (n0 : Nat) (G0 : Hp) : Prop where
  loc : X.env.locals = n0
  cell : ∀ x, X.env.cells.lookup x = none
  ex : X.ex = []
  pn : X.pn = []
  tups : ∀ b o, G0 b = some o → ∃ us, o = .tup us
  old : ∀ b, n0 ≤ b → G0 b = none
section
variable {X : Cx} {n0 : Nat} {G0 : Hp} {a : Addr} {go : Obj} {ip : List (Addr × Obj)} {σ : L2.St} {H : Hp} {s₀ s s' : Shared}
theorem past_of (g : GX X n0 G0) (I : Inv (cxAt X (cutS s₀ n0) G0) ((a, go) :: ip) σ H s) (hG : ∀ b o, G0 b = some o → H b = some o) : Past X.prog X.w X.outer n0 G0 s₀ s where
  os := I.os
  bare := I.bare
  kept := ⟨H, I.base.mono (fun _ z => z) (fun b z => by
    have z2 : b ∈ X.ex := z
    rw [g.ex] at z2
    cases z2), I.hok, hG⟩
/-- tuples lean on nothing else -/
theorem hok_tups {P : Program} {w : World} {h : Heap} {H' : Hp} (ht : ∀ b o, G0 b = some o → ∃ us, o = .tup us) (hG : ∀ b o, G0 b = some o → H' b = some o) (ok : HOk P w H' h) : HOk P w G0 h := fun b o e => by
  obtain ⟨us, rfl⟩ := ht b o e
  exact ok b _ (hG b _ e)
theorem sub_none {H0 : Hp} (hs : ∀ b o, G0 b = some o → H0 b = some o) {b : Addr} (h : H0 b = none) : G0 b = none := by
  cases q : G0 b with
  | none => rfl
  | some o =>
    rw [hs b o q] at h
    cases h
theorem ok_again {H0 : Hp} (g : GX X n0 G0) (ok : (cxAt X (cutS s₀ n0) H0).Ok) (hs : ∀ b o, G0 b = some o → H0 b = some o) {pl : List (Addr × Obj)} (wk : Wake X.prog X.w X.base X.outer n0 G0 pl s') : (cxAt X (cutS s' n0) G0).Ok where
  mod := ok.mod
  kind := ok.kind
  glob := ok.glob
  blt := ok.blt
  above := by
    show (cutH s'.heap n0).objs.size ≤ X.env.locals
    rw [cutH_size, g.loc]
    omega
  inj := ok.inj
  has := ok.has
  cab := fun x c _ e => by
    have e2 : X.env.cells.lookup x = some c := e
    rw [g.cell x] at e2
    cases e2
  hd := ok.hd
  frames := ok.frames
  stk := ok.stk
  exf := ok.exf
  bs := fun b o e => by
    obtain ⟨e1, e2⟩ := ok.bs b o e
    exact ⟨cut_of (cut_old e1).1 (wk.bs b o e), sub_none hs e2⟩
  bsz := by
    have h1 : X.base.objs.size ≤ (cutH s₀.heap n0).objs.size := ok.bsz
    rw [cutH_size] at h1
    have h2 := wk.big
    show X.base.objs.size ≤ (cutH s'.heap n0).objs.size
    rw [cutH_size]
    omega
  noex := ok.noex
  exfs := ok.exfs
  funs := frames_cut ok.funs wk.fr
  frf := fun b hb => sub_none hs (ok.frf b hb)
/-- woken: the same slots, over the heap as it is now -/
theorem inv_again {H0 : Hp} {ps qs pl : List (Addr × Obj)} (g : GX X n0 G0) (I : Inv (cxAt X (cutS s₀ n0) H0) ps σ H s) (hs : ∀ b o, G0 b = some o → H0 b = some o) {oL : Obj} (eL : s.heap.get? n0 = some oL) (hL : (n0, oL) ∈ pl)
    (hq : ∀ p ∈ qs, p ∈ pl ∧ n0 ≤ p.1 ∧ p.1 ≠ X.env.locals ∧ p.1 ∉ X.fs ∧ ∀ u, p.2.data ≠ .cell u) (wk : Wake X.prog X.w X.base X.outer n0 G0 pl s') :
    Inv (cxAt X (cutS s' n0) G0) qs σ G0 s' := by
  obtain ⟨H'', hG, hok⟩ := wk.hok
  refine ⟨ok_again g I.ok hs wk, rfl, wk.bare, Un.kept fun b o e => (cut_old e).2, ?_, fun x c e => ?_, ?_, fun x c e => ?_, fun p hp => ?_, hok_tups g.tups hG hok, I.len⟩
  · obtain ⟨m, ⟨o, es, ep, ho, hd, hr⟩, hl⟩ := I.loc
    have ho2 : s.heap.get? n0 = some o := by
      rw [← g.loc]
      exact ho
    rw [eL] at ho2
    have eo := Option.some.inj ho2
    subst eo
    have en : s'.heap.get? X.env.locals = some oL := by
      rw [g.loc]
      exact wk.pl (n0, oL) hL
    refine ⟨m, ⟨oL, es, ep, en, hd, hr⟩, fun i x v e1 e2 e3 => ?_⟩
    obtain ⟨u, r, q⟩ := hl i x v e1 e2 e3
    refine ⟨u, r, ?_⟩
    rcases q with q | ⟨_, c, ec, _⟩
    · exact .inl q
    · have ec2 : X.env.cells.lookup x = some c := ec
      rw [g.cell x] at ec2
      cases ec2
  · have ec2 : X.env.cells.lookup x = some c := e
    rw [g.cell x] at ec2
    cases ec2
  · show G0 X.env.locals = none
    exact g.old _ (by rw [g.loc]; exact Nat.le_refl _)
  · have ec2 : X.env.cells.lookup x = some c := e
    rw [g.cell x] at ec2
    cases ec2
  · have hp2 : p ∈ qs := by
      rcases List.mem_append.mp hp with z | z
      · have z2 : p ∈ X.pn := z
        rw [g.pn] at z2
        cases z2
      · exact z
    obtain ⟨y0, y1, y2, y3, y4⟩ := hq p hp2
    exact ⟨wk.pl p y0, g.old _ y1, y2, y3, y4⟩
theorem yok_F {xs : List V} (g : GX X n0 G0) : YOk X (wdF X.prog X.w X.base X.outer n0 G0 a go xs) := by
  intro n ys x v s₀ s ip σ H kap hn rv hp hG hI hk
  obtain ⟨s0, H0, pn, ⟨rfl, rfl, rfl, hsz, hna⟩, hc, I⟩ := hI
  obtain ⟨m, ⟨oL, es, ep, eL, hd, _⟩, _⟩ := id I.loc
  have eL2 : s.heap.get? n0 = some oL := by
    rw [← g.loc]
    exact eL
  have hipn : ∀ p ∈ ip, n0 ≤ p.1 := fun p hp => by
    have q := (hc p hp).1
    have q2 : (cutH s₀.heap n0).objs.size ≤ p.1 := q
    rw [cutH_size] at q2
    omega
  have hall : ∀ p ∈ (a, go) :: ip, n0 ≤ p.1 := fun p hp => by
    rcases List.mem_cons.mp hp with z | z
    · rw [z]
      exact hna
    · exact hipn p z
  refine ⟨ys, x, (n0, oL) :: ip, hn, hp, rv, past_of g I hG.ex, fun p hp => ?_, fun s' wk => ?_⟩
  · have mem : p = (n0, oL) ∨ p ∈ (a, go) :: ip := by
      rcases List.mem_cons.mp hp with z | z
      · exact .inr (by rw [z]; exact List.mem_cons_self ..)
      · rcases List.mem_cons.mp z with z | z
        · exact .inl z
        · exact .inr (List.mem_cons_of_mem _ z)
    rcases mem with z | z
    · rw [z]
      exact ⟨eL2, Nat.le_refl _, fun u q => by rw [hd] at q; cases q⟩
    · obtain ⟨y1, _, _, _, y4⟩ := I.pin p (List.mem_append_right _ z)
      exact ⟨y1, hall p z, y4⟩
  · have go : HI X (wdF X.prog X.w X.base X.outer n0 H0 a go xs) s' ip (ys ++ [x]) σ H0 s' := ⟨_, _, _, ⟨rfl, rfl, rfl, wk.big, hna⟩, fun p hp => ⟨by
      have q := hipn p hp
      show (cutH s'.heap n0).objs.size ≤ p.1
      rw [cutH_size]
      omega, (hc p hp).2⟩, inv_again g I (fun _ _ z => z) eL2 (List.mem_cons_of_mem _ (List.mem_cons_self ..)) (fun p hp => by
      obtain ⟨_, _, y2, y3, y4⟩ := I.pin p (List.mem_append_right _ hp)
      refine ⟨?_, hall p hp, y2, y3, y4⟩
      rcases List.mem_cons.mp hp with z | z
      · rw [z]
        exact List.mem_cons_self ..
      · exact List.mem_cons_of_mem _ (List.mem_cons_of_mem _ z)) wk⟩
    exact ⟨hk _ s' _ (.inl rfl) go (Gr.refl _), hk _ s' _ (.inr rfl) go (Gr.refl _)⟩
end
end KG

set_option Elab.async false
set_option linter.all false
set_option maxRecDepth 100000
set_option maxHeartbeats 1000000
/-! KGenC: a generator def of the module; for x in gen(..): body, and list(gen(..)). -/
namespace KG
open PySem PySem.Spec PyProof.Rows L2 GenW

/-- from the arguments, in a heap, what it hands out -/
abbrev SpF := List V → Hp → List V → Prop
/-- the tuples alone -/
def tupsOf (H : Hp) : Hp := fun b => match H b with
  | some (.tup us) => some (.tup us)
  | _ => none
theorem tups_at {H : Hp} {b : Addr} {o : HO} (e : tupsOf H b = some o) : H b = some o ∧ ∃ us, o = .tup us := by
  unfold tupsOf at e
  split at e
  · rename_i us q
    rw [← Option.some.inj e]
    exact ⟨q, us, rfl⟩
  · cases e
theorem tups_of {H : Hp} {b : Addr} {us : List V} (e : H b = some (.tup us)) : tupsOf H b = some (.tup us) := by
  unfold tupsOf
  rw [e]
theorem tups_none {H : Hp} {b : Addr} (e : H b = none) : tupsOf H b = none := by
  unfold tupsOf
  rw [e]

/-- the body keeps the promise sp, whatever the protocol -/
structure GBody (P : Program) (w : World) (K : PySem.W.Frag) (mg : Str → Option Value) (base : Heap) (k : Nat) (N ps : List Str) (qual : Str) (scope : Scope) (body : List Stmt) (f : Addr) (cdv : Value) (sp : SpF) : Prop where
  len : ∀ vs G0 xs, sp vs G0 xs → vs.length = ps.length
  run : ∀ (A : Around) (outer : List Env) (s : Shared) (H : Hp) (E : XK) (pn : List (Addr × Obj)) (vs : List V) (G0 : Hp) (xs : List V), Room k (A.deeper (envOfC qual scope s.heap.objs.size f cdv)) → sp vs G0 xs →
    ∃ t : Nat → TGn, (∀ W : Wd, W.Pfx = (fun zs => zs <+: xs) → W.G0 = G0 → YOk (gcxOf P w K mg base N qual scope f cdv A outer s H E pn) W → HSs (gcxOf P w K mg base N qual scope f cdv A outer s H E pn) W body (t W.N)) ∧
      ∀ (n : Nat) (D : GEnds) (H1 : Hp), xs.length ≤ n → Gr G0 H1 → (∀ σ H', Gr G0 H' → D.nx xs σ H') → t n D [] (start N vs) H1
/-- a generator def that may be called by its name -/
structure GDef (P : Program) (w : World) (K : PySem.W.Frag) (mg : Str → Option Value) (base : Heap) (k : Nat) (x : Str) (sp : SpF) : Prop where
  ex : ∃ (f : Addr) (N ps : List Str) (params : Arguments) (scope : Scope) (body : List Stmt) (dV kV doc pm cdv ct oc : Value) (an od : Option Addr) (osl : Array (Option Value)),
    K.lookup f = some ⟨oc, od, .func (PySem.W.fnOf x x params body scope dV kV doc pm an cdv ct), osl⟩ ∧ PySem.W.codeIn K cdv x = true ∧ GScope N ps scope ∧ (∀ n y, (cellsFrom n scope.names []).lookup y = none) ∧
    mg x = some (.ref f) ∧ PySem.W.keepIn K (.ref f) = true ∧ Binds K (PySem.W.fnOf x x params body scope dV kV doc pm an cdv ct) ps [] ∧ GBody P w K mg base k N ps x scope body f cdv sp

/-! ### list(gen(..)) -/
theorem CX_never {P : Program} {w : World} {outer : List Env} {H : Hp} {s s' : Shared} {e : Value} (c : L2.CX P w outer H s (fun _ _ _ => False) e s') : False := by
  obtain ⟨a, B, H', cls, d, _, _, _, _, _, _, _, z⟩ := c
  exact z
section
variable {X : Cx} {k : Nat} {x nm : Str} {sp : SpF} {p p2 pos pos' : Pos} {e : Expr} {es : List Expr} {t : TA}
def spL (sp : SpF) : SpG := fun vs H Q _ => ∃ xs, sp vs H xs ∧ xs.length ≤ sizeLine ∧ ∀ H', Gr H H' → Q xs H'
theorem gfn_list (g : GDef X.prog X.w X.K X.mg X.base k x sp) : ∃ f fd ps, GFn X.prog X.w X.K X.mg X.base (k + 1) f fd ps (spL sp) ∧ X.mg x = some (.ref f) ∧ PySem.W.keepIn X.K (.ref f) = true ∧ Binds X.K fd ps [] := by
  obtain ⟨f, N, ps, params, scope, body, dV, kV, doc, pm, cdv, ct, oc, an, od, osl, lk, hcd, S, hcell, hm, hk, hb, B⟩ := g.ex
  refine ⟨f, _, ps, gfn_of (sp := spL sp) lk hcd S (fun vs H Q E h => ?_) (fun A outer s H vs Q E pn hr h => ?_), hm, hk, hb⟩
  · obtain ⟨xs, h, _⟩ := h
    exact B.len _ _ _ h
  · obtain ⟨xs, h, hl, q⟩ := h
    obtain ⟨tt, h1, h2⟩ := B.run A outer s H E pn vs H xs hr h
    refine ⟨tt sizeLine, gss_of (G0 := H) (Pf := fun zs => zs <+: xs) fun S2 ip0 hy => ?_, h2 sizeLine _ H hl (Gr.refl H) fun σ H' hg => q H' hg⟩
    exact h1 (wdL (gcxOf X.prog X.w X.K X.mg X.base N x scope f cdv A outer s H E pn) S2 ip0 H fun zs => zs <+: xs) rfl rfl hy
/-- reads: the arguments vs, then ∃ xs, sp vs H1 xs, few, and what follows with a new list of xs -/
def tListF (sp : SpF) (t : TA) : TE := tListG (tCallG (spL sp) [] (fun _ _ _ => False) t)
theorem pe_listF (g : GDef X.prog X.w X.K X.mg X.base k x sp) (hr : Room (k + 4) X.A) (hg : Gl X x) (hgl : Gl X nm) (hml : X.mg nm = none) (hv : bootBuiltins nm = some (.type "list")) (ha : PA X (e :: es) t)
    (hnm : nm ≠ "__name__" := by decide) (hdl : (nm == ("__debug__" : Str)) = false := by decide) (hdb : (x == ("__debug__" : Str)) = false := by decide)
    (he : starEach (e :: es) X.env = (false, eval e X.env) :: starEach es X.env := by rfl) (hpl : (backTo pos' (starEach es X.env)).any (·.1) = false := by rfl) :
    PE X (.Call (.Name nm p) [.Call (.Name x p2) (e :: es) [] pos'] [] pos) (tListF sp t) := by
  obtain ⟨f, fd, ps, F, hm, hk, hb⟩ := gfn_list g
  exact pe_listG (p := p) (pos := pos) (pgen_call (p := p2) (E := fun _ _ _ => False) F (hr.mono (by omega)) hg hm hk hb .nil ha hdb he hpl) (fun _ _ _ _ _ _ _ c => (CX_never c).elim) (fun _ _ _ h => h.elim) hr hgl hml hv hnm hdl
end
end KG

set_option Elab.async false
set_option linter.all false
set_option maxRecDepth 100000
set_option maxHeartbeats 1000000
/-! KGenD: for x in gen(..): body. -/
namespace KG
open PySem PySem.Spec PyProof.Rows L2 GenW

theorem inv_gens {X : Cx} {pins : List (Addr × Obj)} {σ : L2.St} {H : Hp} {z : Shared} {G : Array GenState} (I : Inv X pins σ H z) (hg : AllBare G) : Inv X pins σ H { z with gens := G } :=
  I.call (h' := z.heap) (g' := G) (t' := z.toks) (d' := z.drawn) (ch := []) Un.refl I.hok hg fun b q => by cases q

section
variable {X : Cx} {pins : List (Addr × Obj)} {σ : L2.St} {H : Hp} {z : Shared}
/-- what the consumer knows of the place n0 at which its generator was called -/
structure Old (X : Cx) (pins : List (Addr × Obj)) (n0 : Nat) : Prop where
  loc : X.env.locals < n0
  cell : ∀ y c, X.env.cells.lookup y = some c → c < n0
  pin : ∀ p ∈ X.pn ++ pins, p.1 < n0
  s0 : X.s_0.heap.objs.size ≤ n0
  fs : ∀ b, n0 ≤ b → b ∉ X.fs
theorem old_of (I : Inv X pins σ H z) : Old X pins z.heap.objs.size where
  loc := I.lt
  cell := fun y c e => by
    obtain ⟨v, q⟩ := I.cell y c e
    exact q.lt
  pin := fun p hp => Heap.lt_size (I.pin p hp).1
  s0 := I.sz
  fs := fun b hb => I.nofs hb
/-- the consumer's heap: nothing young, simple things, its tuples are G0's -/
structure Told (n0 : Nat) (G0 H : Hp) : Prop where
  old : ∀ b, n0 ≤ b → H b = none
  sm : ∀ b o, H b = some o → Sq o
  sub : ∀ b o, G0 b = some o → H b = some o
  tups : ∀ b us, H b = some (.tup us) → G0 b = some (.tup us)
  g0 : ∀ b o, G0 b = some o → ∃ us, o = .tup us
theorem inv_past {n0 : Nat} {G0 : Hp} {z1 : Shared} (o : Old X pins n0) (t : Told n0 G0 H) (I : Inv X pins σ H z) (p : Past X.prog X.w X.stack n0 G0 z z1) : Inv X pins σ H z1 := by
  obtain ⟨H', U, ok, hsub⟩ := p.kept
  have nn : ∀ b, H b = none → G0 b = none := fun b h => sub_none t.sub h
  have few : ∀ b ob, z.heap.get? b = some ob → b ∉ (List.range z.heap.objs.size).filter (fun b => decide (n0 ≤ b)) → b < n0 := fun b ob e hb => by
    refine Nat.lt_of_not_le fun h => hb (List.mem_filter.mpr ⟨List.mem_range.mpr (Heap.lt_size e), decide_eq_true h⟩)
  have nl : ∀ b : Addr, b ∉ ([] : List Addr) := fun b h => by cases h
  refine I.call' (ch := (List.range z.heap.objs.size).filter fun b => decide (n0 ≤ b)) p.os ⟨fun b ob e n hb hx => U.keep b ob (cut_of (few b ob e hx) e) (nn b n) hb (nl b), fun b ob e n hb hx => U.slot b ob (cut_of (few b ob e hx) e) (nn b n) hb (nl b),
    fun b ob _ n _ => n, fun b ob e hx => U.there b ob (cut_of (few b ob e hx) e) (nl b), fun _ _ q => q, fun _ _ _ q => q, fun b ps q => ⟨#[], by rw [q]; simp⟩⟩ (fun b u e => ?_) p.bare fun b hb => ?_
  · have hlt : b < n0 := Nat.lt_of_not_le fun h => by
      rw [t.old b h] at e
      cases e
    have nf : b ∉ frs X.stack := fun h => by
      rw [I.stkFree b h] at e
      cases e
    have kp : ∀ ob, (∀ us, u ≠ .tup us) → z.heap.get? b = some ob → z1.heap.get? b = some ob := fun ob hu q => by
      refine U.keep b ob (cut_of hlt q) ?_ nf (nl b)
      cases q2 : G0 b with
      | none => rfl
      | some o2 =>
        obtain ⟨us, e2⟩ := t.g0 b o2 q2
        have e3 := t.sub b o2 q2
        rw [e] at e3
        exact absurd ((Option.some.inj e3).trans e2) (hu us)
    have sq := t.sm b u e
    cases u with
    | tup us => exact ok b _ (hsub b _ (t.tups b us e))
    | lst us =>
      obtain ⟨hz, its, n, r, q⟩ := I.hok b _ e
      exact ⟨hz, its, n, r, kp _ (fun us q => nomatch q) q⟩
    | frz ob v =>
      cases v with
      | lst us =>
        obtain ⟨q0, hz, its, n, r, q⟩ := I.hok b _ e
        exact ⟨kp _ (fun us q => nomatch q) q0, hz, its, n, r, kp _ (fun us q => nomatch q) q⟩
      | _ => exact sq.elim
    | _ => exact sq.elim
  · have hb2 : n0 ≤ b := of_decide_eq_true (List.mem_filter.mp hb).2
    refine ⟨.inr (Nat.le_trans o.s0 hb2), Nat.ne_of_gt (Nat.lt_of_lt_of_le o.loc hb2), fun y c e q => ?_, fun r hr q => ?_⟩
    · exact Nat.lt_irrefl _ (Nat.lt_of_lt_of_le (q ▸ o.cell y c e) hb2)
    · exact Nat.lt_irrefl _ (Nat.lt_of_lt_of_le (q ▸ o.pin r hr) hb2)
theorem wake_of {n0 : Nat} {G0 : Hp} {pl : List (Addr × Obj)} (hsub : ∀ b o, G0 b = some o → H b = some o) (I : Inv X pins σ H z) (big : n0 ≤ z.heap.objs.size) (hp : ∀ p ∈ pl, z.heap.get? p.1 = some p.2) :
    Wake X.prog X.w X.base X.stack n0 G0 pl z := ⟨I.bare, I.bk, I.stack, big, ⟨H, hsub, I.hok⟩, hp⟩

/-! ### a turn -/
def RF (P : Program) (w : World) (outer : List Env) (n0 : Nat) (G0 : Hp) : GenEnd := fun n s₀ r s1 => ((r = .ok (.ret .none) ∨ r = .ok .next) ∧ (n = 0 ∧ Past P w outer n0 G0 s₀ s1)) ∨ ∃ e, r = .error e ∧ False
/-- where the generator stands ahead of turn i -/
def GAt (X : Cx) (n0 : Nat) (G0 : Hp) (a : Addr) (g : Nat) (go : Obj) (xs : List V) (i : Nat) (z : Shared) : Prop :=
  ∃ gs, z.heap.get? a = some go ∧ z.gens[g]? = some gs ∧ gs.Goes (model X.prog X.w) X.A.in1 (RF X.prog X.w X.stack n0 G0) (YF X.prog X.w X.base X.stack n0 G0 a go xs) (xs.length - i) (.send .none) (z.setGen g .running)
theorem turn_F {n0 : Nat} {G0 : Hp} {a : Addr} {g : Nat} {go : Obj} {nm qn : Value} {xs : List V} {i : Nat} (hc : X.calm = true) (hd : X.A.depth < recursionLimit) (o : Old X pins n0) (t : Told n0 G0 H) (I : Inv X pins σ H z) (hn : n0 ≤ a) (hi : i ≤ xs.length)
    (hcl : go.cls = .type "generator") (hgd : go.data = .fields #[.int g 0, nm, qn]) (hsl : go.slots = #[]) (hg : GAt X n0 G0 a g go xs i z) :
    wpAny (model X.prog X.w) X.A (pyNext (.ref a)) (fun r z1 => Inv X pins σ H z1 ∧ ((i = xs.length ∧ r = none) ∨ (i < xs.length ∧ ∃ v x pl k l c p fs cl, r = some v ∧ xs[i]? = some x ∧ RelV x v ∧ z1.gens[g]? = some (.suspended k l c p fs cl) ∧ Priv n0 ((a, go) :: pl) z1 ∧
      ∀ z2, Wake X.prog X.w X.base X.stack n0 G0 ((a, go) :: pl) z2 → (GenState.suspended k l c p fs cl).Goes (model X.prog X.w) X.A.in1 (RF X.prog X.w X.stack n0 G0) (YF X.prog X.w X.base X.stack n0 G0 a go xs) (xs.length - (i + 1)) (.send .none) z2))) Nv z := by
  obtain ⟨gs, ha, hgs, hgo⟩ := hg
  have hgl : g < z.gens.size := (Array.getElem?_eq_some_iff.mp hgs).1
  have isg : z.heap.IsGen a g := ⟨go, nm, qn, ha, hcl, hgd, hsl⟩
  have Ir : Inv X pins σ H (z.setGen g .running) := inv_gens I (allBare_setGen I.bare rfl)
  refine wpAny_gsz (n := g + 1) hgl (next_genG (P := X.prog) (w := X.w) (A := X.A) (F := fun n s₀ s1 => n = 0 ∧ Past X.prog X.w X.stack n0 G0 s₀ s1) (Er := fun _ _ => False) (Y := YF X.prog X.w X.base X.stack n0 G0 a go xs) (n := xs.length - i) (I.ok.hd hc) I.nolimit hd isg hgs hgo
    (fun v s₁ gs' hb hv => ?_) (fun s₁ hp h' hk => ?_) fun e s₁ he => he.elim)
  · intro hsz
    obtain ⟨ys, x, pl, hm, hpre, rv, hpast, hpriv, hk⟩ := hv
    have I1 : Inv X pins σ H s₁ := inv_past o t Ir hpast
    have hbig : n0 ≤ s₁.heap.objs.size := by
      have q := Heap.lt_size (hpriv (a, go) (List.mem_cons_self ..)).1
      exact Nat.le_trans hn (Nat.le_of_lt q)
    have W1 := wake_of t.sub I1 hbig fun p hp => (hpriv p hp).1
    obtain ⟨k1, k2⟩ := hk s₁ W1
    obtain ⟨m, em⟩ : ∃ m, xs.length - i = m + 1 := by
      cases q : xs.length - i with
      | zero =>
        rw [q] at k1
        exact k1.elim
      | succ m => exact ⟨m, rfl⟩
    rw [em] at k1 k2 hk hm
    have hsz1 : g < s₁.gens.size := by
      have q : (s₁.setGen g gs').gens.size = s₁.gens.size := setGen_size _ _ _
      have hsz' : g + 1 ≤ (s₁.setGen g gs').gens.size := hsz
      omega
    refine ⟨inv_gens I1 (allBare_setGen I1.bare hb), .inr ⟨by omega, ?_⟩⟩
    have ei : ys.length = i := by omega
    have ex : xs[i]? = some x := by
      obtain ⟨r, er⟩ := hpre
      rw [← er, ← ei, List.append_assoc]
      rw [List.getElem?_append_right (Nat.le_refl _), Nat.sub_self]
      rfl
    cases gs' with
    | fresh c =>
      obtain ⟨q, _⟩ := k2
      cases q
    | running => exact k1.elim
    | finished => exact k1.elim
    | suspended k l c p fs cl =>
      refine ⟨v, x, pl, k, l, c, p, fs, cl, rfl, ex, rv, setGen_at hsz1, fun p hp => hpriv p hp, fun z2 w2 => ?_⟩
      have e2 : xs.length - (i + 1) = m := by omega
      rw [e2]
      exact (hk z2 w2).1
  · intro _
    obtain ⟨h0, hpast⟩ := hp
    have I1 : Inv X pins σ H s₁ := inv_past o t Ir hpast
    have I2 : Inv X pins σ H { s₁ with heap := h', toks := s₁.toks } := I1.kept hk
    exact ⟨inv_gens (z := { s₁ with heap := h' }) I2 (allBare_setGen I1.bare rfl), .inl ⟨by omega, rfl⟩⟩
end
end KG

set_option Elab.async false
set_option linter.all false
set_option maxRecDepth 100000
set_option maxHeartbeats 1000000
/-! KGenE: the statement for x in gen(..): body. -/
namespace KG
open PySem PySem.Spec PyProof.Rows L2 GenW

/-- a generator that has not begun: its object, its place in the table, its frame n0 -/
def Born (X : Cx) (pins : List (Addr × Obj)) (σ : L2.St) (H : Hp) (N : List Str) (x : Str) (scope : Scope) (body : List Stmt) (f : Addr) (cdv : Value) (vs : List V) (z : Shared) (u : Value) (z1 : Shared) : Prop :=
  ∃ (a : Addr) (go : Obj) (g : Nat) (nm qn : Value), u = .ref a ∧ z1.heap.get? a = some go ∧ go.cls = .type "generator" ∧ go.data = .fields #[.int g 0, nm, qn] ∧ go.slots = #[] ∧ z.heap.objs.size < a ∧
    z1.gens[g]? = some (.fresh (.func body (envOfC x scope z.heap.objs.size f cdv))) ∧ Inv X pins σ H z1 ∧ Inv (gcxOf X.prog X.w X.K X.mg X.base N x scope f cdv X.A.in1 X.stack z H (fun _ _ _ => False) []) [] (start N vs) H z1
section
variable {X : Cx} {pins : List (Addr × Obj)} {σ : L2.St} {H : Hp} {z : Shared}
/-- the call of a generator def: a generator that has not begun -/
theorem call_gen {k : Nat} {f : Addr} {N ps : List Str} {x : Str} {params : Arguments} {scope : Scope} {body : List Stmt} {dV kV doc pm cdv ct oc : Value} {an od : Option Addr} {osl : Array (Option Value)} {us : List Value} {vs : List V} {E : Value → Shared → Prop}
    (lk : X.K.lookup f = some ⟨oc, od, .func (PySem.W.fnOf x x params body scope dV kV doc pm an cdv ct), osl⟩) (hcd : PySem.W.codeIn X.K cdv x = true) (S : GScope N ps scope) (hb : Binds X.K (PySem.W.fnOf x x params body scope dV kV doc pm an cdv ct) ps [])
    (hr : Room (k + 1) X.A) (I : Inv X pins σ H z) (r : Vals vs us) (hl : vs.length = ps.length) :
    wpAny (model X.prog X.w) X.A (call (.ref f) us) (Born X pins σ H N x scope body f cdv vs z) E z := by
  have e0 := I.env0
  have lim := I.nolimit
  have hlu : us.length = ps.length := by rw [← r.length]; exact hl
  have hbt := hb z us I.kIn (by rw [List.append_nil]; exact hlu)
  rw [List.append_nil] at hbt
  have kinds : ∀ y ∈ ps.zip us, scope.names.lookup y.1 = some .local ∨ (scope.names.lookup y.1 = some .cell ∧ ((cellsFrom (z.heap.objs.size + 1) scope.names []).lookup y.1).isSome = true) := fun y hy => by
    obtain ⟨n, v⟩ := y
    rcases S.par n (List.of_mem_zip hy).1 with q | q
    · exact .inl q
    · exact .inr ⟨q, PySem.W.cellsFrom_some _ _ _ (.inl q)⟩
  refine wpAny_call (codeAny_call_generator hr.depth (I.kIn _ _ lk) rfl S.co S.gen rfl (PySem.W.codeRec_of I.kIn hcd) (hbt _ _ _ _ ?_))
  refine wpAny_newFunctionEnv_cells S.kind kinds fun env he s1 ic => ?_
  subst he
  have lim1 : s1.heap.NoLimit := lim.keeps ic.toInCall.keep
  refine ⟨lim1, ?_⟩
  have kp : ∀ b o, z.heap.get? b = some o → s1.heap.get? b = some o := ic.toInCall.keep
  have lt1 : z.heap.objs.size < s1.heap.objs.size := ic.toInCall.ns.lt
  obtain ⟨h1, tk, es1, hk1⟩ := ic.done
  have e0w : Env0 X.prog X.w X.K X.mg X.base X.A.in1 X.stack z H := e0.in1
  have I1 : Inv (gcxOf X.prog X.w X.K X.mg X.base N x scope f cdv X.A.in1 X.stack z H (fun _ _ _ => False) []) [] (start N vs) H s1 := inv_startG S hr.hd e0w hl r ic
  have J1 : Inv X pins σ H s1 := by
    rw [es1]
    exact I.kept hk1
  have fin : ∀ (go : Obj) (nm qn : Value) (tk2 : Nat), go.cls = .type "generator" → go.data = .fields #[.int s1.gens.size 0, nm, qn] → go.slots = #[] → (∀ h : Heap, (h.push go).get? h.objs.size = some go) →
      Born X pins σ H N x scope body f cdv vs z (.ref s1.heap.objs.size) { s1 with gens := s1.gens.push (.fresh (.func body (envOfC x scope z.heap.objs.size f cdv))), toks := tk2, heap := s1.heap.push go } := by
    intro go nm qn tk2 hc hd hs hp
    have kp2 : ∀ b o, s1.heap.get? b = some o → (s1.heap.push go).get? b = some o := fun b o e => Heap.get?_push_of_some _ e
    refine ⟨s1.heap.objs.size, go, s1.gens.size, nm, qn, rfl, hp _, hc, hd, hs, lt1, Array.getElem?_push_size .., ?_, ?_⟩
    · exact inv_gens (z := { s1 with toks := tk2, heap := s1.heap.push go }) (J1.kept kp2) (AllBare.push J1.bare rfl)
    · exact inv_gens (z := { s1 with toks := tk2, heap := s1.heap.push go }) (I1.kept kp2) (AllBare.push J1.bare rfl)
  exact fin _ _ _ _ rfl rfl rfl fun h => Heap.get?_push_size _ rfl

/-! ### the loop -/
/-- old lists may have changed, nothing else -/
def Lo (H1 H' : Hp) : Prop := ∀ b o, H1 b = some o → H' b = some o ∨ ∃ us ws, o = .lst us ∧ H' b = some (.lst ws)
/-- of H3 what stood in H1 -/
def only (H1 H3 : Hp) : Hp := fun b => match H1 b with
  | some _ => H3 b
  | none => none
theorem only_none {H1 H3 : Hp} {b : Addr} (h : H1 b = none) : only H1 H3 b = none := by
  unfold only
  rw [h]
theorem only_some {H1 H3 : Hp} {b : Addr} {o : HO} (h : H1 b = some o) : only H1 H3 b = H3 b := by
  unfold only
  rw [h]
theorem only_at {H1 H3 : Hp} {b : Addr} {o : HO} (e : only H1 H3 b = some o) : H3 b = some o ∧ ∃ u, H1 b = some u := by
  cases q : H1 b with
  | none =>
    rw [only_none q] at e
    cases e
  | some u =>
    rw [only_some q] at e
    exact ⟨e, u, rfl⟩
theorem only_self {H1 : Hp} : only H1 H1 = H1 := by
  funext b
  cases q : H1 b with
  | none => exact only_none q
  | some u =>
    rw [only_some q]
    exact q
theorem Lo.refl (H1 : Hp) : Lo H1 H1 := fun _ _ e => .inl e
theorem Lo.only {H1 H3 : Hp} (l : Lo H1 H3) : Lo H1 (only H1 H3) := fun b o e => by
  rw [only_some e]
  exact l b o e
theorem Lo.gr {H1 H2 H3 : Hp} (l : Lo H1 H2) (g : Gr H2 H3) : Lo H1 H3 := fun b o e => by
  rcases l b o e with q | ⟨us, ws, q1, q2⟩
  · exact .inl (g.ex _ _ q)
  · exact .inr ⟨us, ws, q1, g.ex _ _ q2⟩
theorem told_of {n0 : Nat} {H1 H3 : Hp} (hold : ∀ b, n0 ≤ b → H1 b = none) (hs : Simp H1) (l : Lo H1 H3) : Told n0 (tupsOf H1) (only H1 H3) where
  old := fun b hb => only_none (hold b hb)
  sm := fun b o e => by
    obtain ⟨e3, u, e1⟩ := only_at e
    rcases l b u e1 with q | ⟨us, ws, q1, q2⟩
    · rw [e3] at q
      rw [Option.some.inj q]
      exact hs b u e1
    · rw [e3] at q2
      rw [Option.some.inj q2]
      trivial
  sub := fun b o e => by
    obtain ⟨e1, us, eo⟩ := tups_at e
    rw [only_some e1]
    rcases l b o e1 with q | ⟨vs, ws, q1, _⟩
    · exact q
    · rw [eo] at q1
      cases q1
  tups := fun b us e => by
    obtain ⟨e3, u, e1⟩ := only_at e
    rcases l b u e1 with q | ⟨vs, ws, q1, q2⟩
    · rw [e3] at q
      have q2 := Option.some.inj q
      subst q2
      exact tups_of e1
    · rw [e3] at q2
      cases q2
  g0 := fun b o e => (tups_at e).2
theorem only_sub {H1 H3 : Hp} {b : Addr} (h : H3 b = none) : only H1 H3 b = none := by
  cases q : H1 b with
  | none => exact only_none q
  | some u =>
    rw [only_some q]
    exact h
/-- the young ones are forgotten -/
theorem inv_only {pins0 : List (Addr × Obj)} {σ0 : L2.St} {z0 : Shared} {H1 H3 : Hp} (I0 : Inv X pins0 σ0 H1 z0) (hs : Simp H1) (l : Lo H1 H3) (I : Inv X pins σ H3 z) : Inv X pins σ (only H1 H3) z := by
  refine ⟨I.ok, I.os, I.bare, ⟨I.base.keep, I.base.slot, fun b o e n hx => only_sub (I.base.free b o e n hx), I.base.there, fun b us e => ?_, fun b o u e => ?_, fun b ps e => ?_⟩, I.loc, I.cell, only_sub I.free, fun y c e => only_sub (I.freeC y c e), fun p hp => ?_, fun b o e => ?_, I.len⟩
  · rw [only_some (I0.base.tups b us e)]
    exact I.base.tups b us e
  · rw [only_some (I0.base.frzs b o u e)]
    exact I.base.frzs b o u e
  · obtain ⟨m1, e1⟩ := I0.base.tbls b ps e
    exact (hs b _ e1).elim
  · obtain ⟨y0, y1, y2, y3, y4⟩ := I.pin p hp
    exact ⟨y0, only_sub y1, y2, y3, y4⟩
  · obtain ⟨e3, u, e1⟩ := only_at e
    have ok := I.hok b o e3
    have sq : Sq o := by
      rcases l b u e1 with q | ⟨us, ws, q1, q2⟩
      · rw [e3] at q
        rw [Option.some.inj q]
        exact hs b u e1
      · rw [e3] at q2
        rw [Option.some.inj q2]
        trivial
    cases o with
    | lst us => exact ok
    | tup us => exact ok
    | frz ob v =>
      cases v with
      | lst us => exact ok
      | _ => exact sq.elim
    | _ => exact sq.elim
/-- W i: what holds ahead of turn i, over the heap without what is young -/
def tForG (sp : SpF) (t : TA) (g : TG) (tb : TS) : TS := fun D σ H => t σ H fun vs H1 => ∃ xs, sp vs (tupsOf H1) xs ∧ Simp H1 ∧ ∃ W : Nat → L2.St → Hp → Prop, W 0 σ H1 ∧
  (∀ i x σ' H', xs[i]? = some x → W i σ' H' → Lo H1 H' → g x σ' H' fun σ2 H2 => tb { nx := fun σ3 H3 => Lo H1 H3 ∧ W (i + 1) σ3 (only H1 H3), ct := fun σ3 H3 => Lo H1 H3 ∧ W (i + 1) σ3 (only H1 H3), rt := D.rt } σ2 H2) ∧
  ∀ σ' H', W xs.length σ' H' → Lo H1 H' → D.nx σ' H'
end
end KG

set_option Elab.async false
set_option linter.all false
set_option maxRecDepth 100000
set_option maxHeartbeats 1000000
/-! KGenG: the rule of the statement. -/
namespace KG
open PySem PySem.Spec PyProof.Rows L2 GenW

theorem cutS_self (z : Shared) : cutS z z.heap.objs.size = z := by
  unfold cutS cutH
  rw [Array.extract_size]
/-- a block, run while the table's sleepers sleep -/
theorem run_asleep {X : Cx} {pins : List (Addr × Obj)} {σ : L2.St} {H : Hp} {z : Shared} {α : Type} {m : Sem α} {Q : α → Shared → Prop} (I : Inv X pins σ H z)
    (h : ∀ G, AllBare G → Inv X pins σ H { z with gens := G } → wpAny (model X.prog X.w) X.A m Q Nv { z with gens := G }) :
    wpAny (model X.prog X.w) X.A m (fun a z1 => ∃ y, z1 = real (sleepers z.gens) y ∧ Good (sleepers z.gens) y.gens ∧ Q a y) Nv z :=
  wpAny_mono (asleep (h (z.gens.map ghost) (bare_ghost I.bare) (inv_gens I (bare_ghost I.bare)))) (fun _ _ q => q) fun _ _ q => let ⟨_, _, _, f⟩ := q; f
theorem inv_real {X : Cx} {pins : List (Addr × Obj)} {σ : L2.St} {H : Hp} {y : Shared} {G : Array GenState} (hG : AllBare G) (I : Inv X pins σ H y) : Inv X pins σ H (real (sleepers G) y) :=
  inv_gens I (bare_mix hG I.bare)

section
variable {X : Cx} {k : Nat} {x : Str} {sp : SpF} {tg e : Expr} {es : List Expr} {body : List Stmt} {p2 pos' pos : Pos} {t : TA} {g : TG} {tb : TS}
theorem ps_forG (gd : GDef X.prog X.w X.K X.mg X.base k x sp) (hr : Room (k + 3) X.A) (hg : Gl X x) (hc : X.calm = true) (ha : PA X (e :: es) t) (htg : PG X tg g) (hbd : PSs X body tb) (hx : X.xe = Nv := by rfl) (hdb : (x == ("__debug__" : Str)) = false := by decide)
    (he : starEach (e :: es) X.env = (false, eval e X.env) :: starEach es X.env := by rfl) (hpl : (backTo pos' (starEach es X.env)).any (·.1) = false := by rfl)
    (hs : ∀ y, foldedSetIterable (.Call (.Name x p2) (e :: es) [] pos') X.env y = pure y := by intro _; rfl) :
    PS X (.For tg (.Call (.Name x p2) (e :: es) [] pos') body [] pos) (tForG sp t g tb) := by
  refine ⟨fun pins s σ H D I h => ?_⟩
  obtain ⟨f, N, ps, params, scope, gb, dV, kV, doc, pm, cdv, ct, oc, an, od, osl, lk, hcd, S, hcell, hm, hk, hb, B⟩ := gd.ex
  refine wpAny_For ?_ hs
  refine wpAny_Call_Name_kw (ld_glob I hg hm ?_ hdb)
  refine PySem.W.callWith_K (h₀ := X.base) I.ok.mod.kin hk (thn (ha.run pos' pins s σ H _ I h) fun us s1 hus => ?_) he hpl
  obtain ⟨vs, H1, I1, r, xs, hsp, hsim, W, w0, turn, fin⟩ := hus
  refine ⟨I1.kIn, ?_⟩
  refine thn (call_gen (k := k) lk hcd S hb (hr.mono (by omega)) I1 r (B.len _ _ _ hsp)) fun u z1 born => ?_
  obtain ⟨a, go, gn, nm, qn, eu, hgo, hgc, hgd, hgs, hlt, hgen, J1, G1⟩ := born
  subst eu
  have isg : ∀ z : Shared, z.heap.get? a = some go → z.heap.IsGen a gn := fun z e => ⟨go, nm, qn, e, hgc, hgd, hgs⟩
  have ncell : ∀ v, go.data ≠ .cell v := fun v q => by
    rw [hgd] at q
    cases q
  refine wpAny_pyIter_gen (isg z1 hgo) ?_
  -- the place, and what is old
  have o : Old X pins s1.heap.objs.size := old_of I1
  have hold : ∀ b, s1.heap.objs.size ≤ b → H1 b = none := fun b hb => I1.hok.fresh hb
  have told1 : ∀ {H3 : Hp}, Lo H1 H3 → Told s1.heap.objs.size (tupsOf H1) (only H1 H3) := fun l => told_of hold hsim l
  have stk : ∀ b ∈ frs X.stack, b < s1.heap.objs.size := fun b hb => by
    rcases List.mem_cons.mp (I1.stkSub b hb) with q | q
    · rw [q]
      exact I1.lt
    · exact Nat.lt_of_not_le fun h => o.fs b h q
  have sub1 : ∀ b ob, tupsOf H1 b = some ob → H1 b = some ob := fun b ob e => (tups_at e).1
  have hna : s1.heap.objs.size ≤ a := Nat.le_of_lt hlt
  -- the generator's first waking
  have gx : GX (gcxOf X.prog X.w X.K X.mg X.base N x scope f cdv X.A.in1 X.stack s1 H1 (fun _ _ _ => False) []) s1.heap.objs.size (tupsOf H1) :=
    ⟨rfl, fun y => hcell _ y, rfl, rfl, fun b ob e => (tups_at e).2, fun b hb => tups_none (hold b hb)⟩
  have start0 : GAt X s1.heap.objs.size (tupsOf H1) a gn go xs 0 z1 := by
    refine ⟨_, hgo, hgen, rfl, ?_⟩
    obtain ⟨tt, h1, h2⟩ := B.run X.A.in1 X.stack s1 H1 (fun _ _ _ => False) [] vs (tupsOf H1) xs ((Room.deeper (k := k + 1) (Room.in1 (k := k + 2) hr) _).mono (Nat.le_succ k)) hsp
    have hh := h1 (wdF X.prog X.w X.base X.stack s1.heap.objs.size (tupsOf H1) a go xs) rfl rfl (yok_F gx)
    have red := h2 xs.length { nx := fun ys _ H' => ys = xs ∧ Gr (tupsOf H1) H', rt := fun _ _ _ => False } (tupsOf H1) (Nat.le_refl _) (Gr.refl _) fun _ _ hg => ⟨rfl, hg⟩
    refine seg_func ?_
    refine hh.run X.A.in1 [] _ xs.length [] _ _ [] _ _ id id _ (start N vs) (tupsOf H1) { nx := fun ys _ H' => ys = xs ∧ Gr (tupsOf H1) H', rt := fun _ _ _ => False } ⟨over_func, rfl, rfl, rfl⟩ (Nat.add_zero _) (fun n ys s₀ s' fl hn hsp' => ?_) ?_ red
    · cases fl with
      | next =>
        obtain ⟨σ', H', hI, eys, hgr⟩ := hsp'
        subst eys
        obtain ⟨s0, H0, pn, ⟨e1, e2, e3, _, _⟩, _, J⟩ := hI
        subst e1 e2 e3
        have hn2 : n + ys.length = ys.length := hn
        exact seg_end (.ok (.ret .none)) (.inl ⟨.inl rfl, by omega, past_of gx J hgr.ex⟩)
      | brk => obtain ⟨_, _, _, q⟩ := hsp'; exact q.elim
      | cont => obtain ⟨_, _, _, q⟩ := hsp'; exact q.elim
      | ret u => obtain ⟨_, _, _, _, _, q⟩ := hsp'; exact q.elim
    · have big : s1.heap.objs.size ≤ z1.heap.objs.size := Nat.le_of_lt (Nat.lt_trans hlt (Heap.lt_size hgo))
      obtain ⟨m, ⟨oL, es', ep, eL, hd, _⟩, _⟩ := id G1.loc
      have G2 : Inv (cxAt (gcxOf X.prog X.w X.K X.mg X.base N x scope f cdv X.A.in1 X.stack s1 H1 (fun _ _ _ => False) []) (cutS s1 s1.heap.objs.size) H1) [] (start N vs) H1 z1 := by
        rw [cutS_self]
        exact G1.wish _
      have Jr : Inv X pins σ H1 (z1.setGen gn .running) := inv_gens J1 (allBare_setGen J1.bare rfl)
      have wk : Wake X.prog X.w X.base X.stack s1.heap.objs.size (tupsOf H1) [(a, go), (s1.heap.objs.size, oL)] (z1.setGen gn .running) := wake_of sub1 Jr big fun p hp => by
        rcases List.mem_cons.mp hp with q | q
        · rw [q]
          exact hgo
        · rw [List.mem_singleton.mp q]
          exact eL
      refine ⟨_, _, _, ⟨rfl, rfl, rfl, big, hna⟩, (fun p hp => by cases hp), inv_again gx G2 sub1 eL (List.mem_cons_of_mem _ (List.mem_singleton.mpr rfl)) (fun p hp => ?_) wk⟩
      have hp2 : p = (a, go) := List.mem_singleton.mp hp
      rw [hp2]
      exact ⟨List.mem_cons_self .., hna, Nat.ne_of_gt hlt, fun hb => Nat.lt_irrefl _ (Nat.lt_trans (stk a hb) hlt), ncell⟩
  -- the turns
  refine codeAny_forLoop_any (fun cnt z => ∃ i σ' H', cnt = xs.length - i ∧ i ≤ xs.length ∧ Lo H1 H' ∧ W i σ' (only H1 H') ∧ Inv X pins σ' (only H1 H') z ∧ GAt X s1.heap.objs.size (tupsOf H1) a gn go xs i z) (fun cnt z hz => ?_) xs.length
    ⟨0, σ, H1, rfl, Nat.zero_le _, Lo.refl H1, by rw [only_self]; exact w0, by rw [only_self]; exact J1, start0⟩
  obtain ⟨i, σ', H', ec, hi, lo, wi, Iz, gz⟩ := hz
  refine nv (wpAny_mono (turn_F (nm := nm) (qn := qn) hc hr.depth o (told1 lo) Iz hna hi hgc hgd hgs gz) (fun r z2 hr2 => ?_) fun _ _ q => q)
  obtain ⟨I2, hr2⟩ := hr2
  rcases hr2 with ⟨ei, er⟩ | ⟨hlti, v, xv, pl, kk, ll, cc, pp, ff, cl, er, exi, rv, g2, priv, again⟩
  · subst er
    subst ei
    exact wpAny_execs_nil ⟨σ', _, I2, fin σ' _ wi lo.only⟩
  · subst er
    have hgo2 : z2.heap.get? a = some go := (priv (a, go) (List.mem_cons_self ..)).1
    refine go_of (n := "generator") hgo2 hgc hgd (by decide) ?_
    have told2 := told1 lo
    have I2p : Inv X (pins ++ ((a, go) :: pl)) σ' (only H1 H') z2 := I2.pins_of fun p hp => by
      rcases List.mem_append.mp hp with q | q
      · exact I2.pin p (List.mem_append_right _ q)
      · obtain ⟨y0, y1, y2⟩ := priv p q
        exact ⟨y0, told2.old _ y1, Nat.ne_of_gt (Nat.lt_of_lt_of_le o.loc y1), o.fs _ y1, y2⟩
    have step := turn i xv σ' _ exi wi lo.only
    refine nv (wpAny_mono (run_asleep (Q := fun _ s6 => ∃ σ6 H6, Inv X (pins ++ ((a, go) :: pl)) σ6 H6 s6 ∧ tb { nx := fun σ3 H3 => Lo H1 H3 ∧ W (i + 1) σ3 (only H1 H3), ct := fun σ3 H3 => Lo H1 H3 ∧ W (i + 1) σ3 (only H1 H3), rt := D.rt } σ6 H6) I2p fun G hG IG => ?_) (fun _ z3 h3 => ?_) fun _ _ q => q)
    · have q := htg.run (pins ++ ((a, go) :: pl)) { z2 with gens := G } σ' _ xv v _ IG rv step
      rw [hx] at q
      exact q
    obtain ⟨y3, e3, gd3, σ3, H3, I3, b3⟩ := h3
    have I3r : Inv X (pins ++ ((a, go) :: pl)) σ3 H3 z3 := by
      rw [e3]
      exact inv_real I2p.bare I3
    have g3 : z3.gens[gn]? = some (.suspended kk ll cc pp ff cl) := by
      rw [e3]
      exact still gd3 g2
    refine nv (wpAny_mono (run_asleep (Q := SP X (pins ++ ((a, go) :: pl)) { nx := fun σ3 H3 => Lo H1 H3 ∧ W (i + 1) σ3 (only H1 H3), ct := fun σ3 H3 => Lo H1 H3 ∧ W (i + 1) σ3 (only H1 H3), rt := D.rt }) I3r fun G hG IG => ?_) (fun fl z4 h4 => ?_) fun _ _ q => q)
    · have q := hbd.run (pins ++ ((a, go) :: pl)) { z3 with gens := G } σ3 H3 _ IG b3
      rw [hx] at q
      exact q
    obtain ⟨y4, e4, gd4, q4⟩ := h4
    have g4 : z4.gens[gn]? = some (.suspended kk ll cc pp ff cl) := by
      rw [e4]
      exact still gd4 g3
    have next : ∀ {σ4 : L2.St} {H4 : Hp}, Inv X (pins ++ ((a, go) :: pl)) σ4 H4 y4 → Lo H1 H4 ∧ W (i + 1) σ4 (only H1 H4) → ∃ m, m < cnt ∧ ∃ i σ' H', m = xs.length - i ∧ i ≤ xs.length ∧ Lo H1 H' ∧ W i σ' (only H1 H') ∧ Inv X pins σ' (only H1 H') z4 ∧ GAt X s1.heap.objs.size (tupsOf H1) a gn go xs i z4 := fun {σ4 H4} I4 hw => by
      have I4r : Inv X (pins ++ ((a, go) :: pl)) σ4 H4 z4 := by
        rw [e4]
        exact inv_real I3r.bare I4
      obtain ⟨lo4, w4⟩ := hw
      have I5 : Inv X pins σ4 (only H1 H4) z4 := inv_only J1 hsim lo4 I4r.unpinned
      have pin4 : ∀ p ∈ (a, go) :: pl, z4.heap.get? p.1 = some p.2 := fun p hp => (I4r.pin p (List.mem_append_right _ (List.mem_append_right _ hp))).1
      have hgo4 : z4.heap.get? a = some go := pin4 (a, go) (List.mem_cons_self ..)
      refine ⟨xs.length - (i + 1), by omega, i + 1, σ4, H4, rfl, hlti, lo4, w4, I5, _, hgo4, g4, again _ ?_⟩
      exact wake_of (told1 lo4).sub (inv_gens I5 (allBare_setGen I5.bare rfl)) (Nat.le_of_lt (Nat.lt_trans hlt (Heap.lt_size hgo4))) pin4
    cases fl with
    | next => obtain ⟨σ4, H4, I4, hw⟩ := q4; exact next I4 hw
    | cont => obtain ⟨σ4, H4, I4, hw⟩ := q4; exact next I4 hw
    | brk => obtain ⟨_, _, _, q⟩ := q4; exact q.elim
    | ret u =>
      obtain ⟨xr, σ4, H4, I4, r4, q⟩ := q4
      refine ⟨xr, σ4, H4, ?_, r4, q⟩
      rw [e4]
      exact (inv_real I3r.bare I4).unpinned
end
end KG

set_option Elab.async false
set_option linter.all false
set_option maxRecDepth 100000
set_option maxHeartbeats 1000000
/-! KRules: a starred target at the end of a tuple's; enumerate(tuple); sorted(set(list of ints)). -/
namespace KG
open PySem PySem.Spec PyProof.Rows L2

/-! ### a, b, *c = tuple -/
theorem star_last {P : Program} {w : World} {A : Around} {E : Value → Shared → Prop} {s : Shared} {l : Addr} {items : Array Value} {i : Nat} {Q : List Value → Shared → Prop} (hl : IsTup s.heap l items) (hh : A.handled = none) (hi : i ≤ items.size) (hz : items.size ≤ 16384)
    (h : ∀ (g : Heap) (tk : Nat), (∀ b o, s.heap.get? b = some o → g.get? b = some o) → Q (items.toList.take i ++ [.ref g.objs.size]) { s with heap := g.push { cls := .type "list", data := .seq (items.toList.drop i).toArray }, toks := tk }) :
    wpAny (model P w) A (unpackItems (.ref l) (i + 1) (some i)) Q E s := by
  obtain ⟨ol, hol, _⟩ := id hl
  have hll : l < s.heap.objs.size := Heap.lt_size hol
  have hne : l ≠ s.heap.objs.size := Nat.ne_of_lt hll
  have old : ∀ b o, s.heap.get? b = some o → b ≠ s.heap.objs.size := fun b o e => Nat.ne_of_lt (Heap.lt_size e)
  unfold unpackItems notIterableAtAll
  refine wpAny_bind (wpAny_bind (wpAny_specialOf hl.typeIs slot_tuple_iter.lookup (wpAny_pure ?_)))
  refine wpAny_bind (wpAny_holding (iter_tuple hl ?_))
  refine wpAny_bind (wpAny_holding (draw_tuple hne i 0 _ _ ⟨_, Heap.get?_push_size _ rfl, rfl, rfl⟩ (hl.push _) (by omega) fun g1 it1 sb1 => ?_))
  rw [Nat.zero_add] at it1
  have tp1 : IsTup g1 l items := (hl.push _).extBut sb1.extBut hne
  obtain ⟨oi, hoi, _⟩ := id it1
  obtain ⟨o2, ho2, _⟩ := id tp1
  have hlen : (items.toList.take i).length = i := by
    rw [List.length_take, Array.length_toList]
    omega
  show wpAny _ _ (if (items.toList.take i).length < i then _ else _) _ _ _
  rw [if_neg (by rw [hlen]; exact Nat.lt_irrefl i)]
  refine wpAny_bind (wpAny_holding (PySem.W.kun_collect (s := { s with heap := g1 }) (T := "tuple_iterator") (.inr (.inr (.inr rfl))) (Walks.tuple (A := A.in1) hh s.heap.objs.size l hne items) (fun j u st => st.1.typeIs) (k := i) hi ⟨it1, tp1⟩ (Heap.lt_size hoi) (Heap.lt_size ho2)
    (fun g2 tk k2 => ?_) (by rw [sizeLine_eq]; omega)))
  have hdl : (items.toList.drop i).length = items.size - i := by rw [List.length_drop, Array.length_toList]
  have h0 : i + 1 - 1 - i = 0 := by omega
  show wpAny _ _ (if (items.toList.drop i).length < i + 1 - 1 - i then _ else _) _ _ _
  rw [h0, if_neg (Nat.not_lt_zero _)]
  show wpAny _ _ (newList ((items.toList.drop i).take ((items.toList.drop i).length - 0)) >>= fun d => pure (items.toList.take i ++ [d] ++ (items.toList.drop i).drop ((items.toList.drop i).length - 0))) _ _ _
  rw [Nat.sub_zero, List.take_length, List.drop_length]
  have kp : ∀ b o, s.heap.get? b = some o → g2.get? b = some o := fun b o e => k2 b o (old b o e) (sb1.extBut b o (old b o e) (Heap.get?_push_of_some _ e))
  refine wpAny_bind (wpAny_newList (wpAny_pure ?_) (by rw [hdl, sizeLine_eq]; omega))
  rw [List.append_nil]
  exact h g2 tk kp
section
variable {X : Cx} {pos : Pos}
/-- reads: the tuple, its items, enough of them; then a new list of what is left -/
def gStar (K : PySem.W.Frag) (n : Nat) (t : TGs) : TG := fun v σ H Q => ∃ a xs, v = .ref a ∧ SqT K H a xs ∧ n ≤ xs.length ∧ xs.length ≤ 16384 ∧ ∀ D, H D = none → t (xs.take n ++ [.ref D]) σ (upd H D (.lst (xs.drop n))) Q
theorem pg_star {es : List Expr} {k : Nat} {t : TGs} {n : Nat} (hc : X.calm = true) (h : PGs X es t) (hn : (assignEach es X.env).length = n + 1 := by rfl) (hst : (assignEach es X.env).findIdx? (·.1) = some n := by rfl) : PG X (.Tuple es k pos) (gStar X.K n t) := by
  refine ⟨fun pins s σ H v u Q I r hw => ?_⟩
  obtain ⟨a, xs, e1, hq, hl, hz, hw⟩ := hw
  subst e1
  cases r
  obtain ⟨its, rv, ht, _⟩ := I.tuple hq
  have hlen := rv.length
  rw [PyProof.Rows.assign_Tuple]
  refine wpAny_bind (wpAny_standAt ?_)
  unfold unpack
  rw [hn, hst]
  refine wpAny_bind (wpAny_holding (star_last ht (I.ok.hd hc) (by rw [List.size_toArray]; omega) (by rw [List.size_toArray]; omega) fun g tk kp => ?_))
  have I1 : Inv X pins σ H { s with heap := g, toks := tk } := I.kept kp
  have I2 : Inv X pins σ (upd H g.objs.size (.lst (xs.drop n))) { s with heap := g.push { cls := .type "list", data := .seq (its.drop n).toArray }, toks := tk } :=
    I1.laid (h' := g.push { cls := .type "list", data := .seq (its.drop n).toArray }) (t' := tk) (fun b o e => Heap.get?_push_of_some _ e) (Nat.le_refl _) ⟨by rw [List.length_drop, sizeLine_eq]; omega, its.drop n, 0, rv.drop n, Heap.get?_push_size _ rfl⟩
  exact h.run pins _ σ _ (xs.take n ++ [.ref g.objs.size]) _ Q I2 ((rv.take n).append (Paired.cons (show RelV (.ref g.objs.size) (.ref g.objs.size) from rfl) Paired.nil)) (hw _ (I1.hok.fresh (Nat.le_refl _)))
/-- the starred one -/
theorem pgs_star {e : Expr} {es : List Expr} {p : Pos} {t : TG} {u : TGs} (h1 : PG X e t) (h2 : PGs X es u)
    (hs : (assignEach (.Starred e p :: es) X.env).map (·.2) = assign e X.env :: (assignEach es X.env).map (·.2) := by rfl) : PGs X (.Starred e p :: es) (gCons t u) := by
  refine ⟨fun pins s σ H vs us Q I r h => ?_⟩
  obtain ⟨v, vr, e1, h⟩ := h
  subst e1
  cases r with
  | cons r rr =>
    rw [hs]
    refine assignInOrder_cons (thn (h1.run pins s σ H _ _ _ I r h) fun _ s1 ⟨σ1, H1, I1, q1⟩ => ?_)
    exact h2.run pins s1 σ1 H1 _ _ Q I1 rr q1
end

/-! ### for i, x in enumerate(tuple) -/
def IteT (K : PySem.W.Frag) (a : Addr) : It :=
  ⟨fun i H => ∃ (xs : List V) (x : V), SqT K H a xs ∧ xs[i]? = some x, fun i H v H' => ∃ T x, v = .ref T ∧ H T = none ∧ H' = upd H T (.tup [.int (i : Nat), x]) ∧ ∀ xs, SqT K H a xs → xs[i]? = some x, fun i H => ∃ xs : List V, SqT K H a xs ∧ xs.length ≤ i⟩
end KG

set_option Elab.async false
set_option linter.all false
set_option maxRecDepth 100000
set_option maxHeartbeats 1000000
/-! KEnum: for i, x in enumerate(tuple). -/
namespace KG
open PySem PySem.Spec PyProof.Rows L2

theorem meets_enumT (l : Addr) (items : Array Value) :
    Meets (Builtin.«enumerate.__new__» ⟨[.type "enumerate", .ref l], []⟩) (fun _ R s => s.heap.IsTuple l items ∧
      R (.ok (.ret (.ref (s.heap.push { cls := .type "tuple_iterator", data := .fields #[.ref l, .int 0 0] }).objs.size)))
        { s with heap := (s.heap.push { cls := .type "tuple_iterator", data := .fields #[.ref l, .int 0 0] }).push { cls := .type "enumerate", data := .fields #[.none, .bool false, .ref s.heap.objs.size, rawInt 0, .none, .none] } }) :=
  .of_wp fun prog w A R s h => by
    obtain ⟨hp, g, d, tk, os⟩ := s
    obtain ⟨h1, h⟩ := h
    have hsub := sub_enumerate
    have q1 : ∀ {A' : Around} {E : Value → Shared → Prop} {Q : Value → Shared → Prop}, Q (.ref hp.objs.size) ⟨hp.push { cls := .type "tuple_iterator", data := .fields #[.ref l, .int 0 0] }, g, d, tk, os⟩ → wpAny (model prog w) A' (pyIter (.ref l)) Q E ⟨hp, g, d, tk, os⟩ :=
      fun q => (begins_tuple l items).iter prog w _ _ ⟨hp, g, d, tk, os⟩ _ h1 q
    wp_walk using q1
    refine wpAny_stack_any fun st => wpAny_pure ?_
    split
    · rename_i c _ _ _ _ _
      cases (c == Value.type "enumerate")
      · wp_walk using q1
        exact ⟨_, rfl, h⟩
      · wp_walk using q1
        exact ⟨_, rfl, h⟩
    · wp_walk using q1
      exact ⟨_, rfl, h⟩
theorem enum_tuple {prog : Program} {w : World} {A : Around} {E : Value → Shared → Prop} {s : Shared} {l : Addr} {items : Array Value} {Q : Value → Shared → Prop} (hL : s.heap.IsTuple l items)
    (h : ∀ h', IsEnum h' (s.heap.objs.size + 1) s.heap.objs.size 0 .none → h'.IsTupleIter s.heap.objs.size l 0 → h'.objs.size = s.heap.objs.size + 2 →
      (∀ b o, s.heap.get? b = some o → h'.get? b = some o) → Q (.ref (s.heap.objs.size + 1)) { s with heap := h' }) :
    wpAny (model prog w) A (call (.type "enumerate") [.ref l]) Q E s := by
  refine callType_new F.called_enumerate (by decide) (F.typeCall_enumerate_1 _) (F.newCall_enumerate_1 _) (fun obj => F.args_object_init_2 obj _) F.entry_enumerate_new
    (meets_enumT l items) ⟨hL, ?_⟩
  have hz : (s.heap.push { cls := .type "tuple_iterator", data := .fields #[.ref l, .int 0 0] }).objs.size = s.heap.objs.size + 1 := Heap.size_push ..
  show _ ∧ _
  rw [hz]
  have he : IsEnum ((s.heap.push { cls := .type "tuple_iterator", data := .fields #[.ref l, .int 0 0] }).push
      { cls := .type "enumerate", data := .fields #[.none, .bool false, .ref s.heap.objs.size, rawInt 0, .none, .none] }) (s.heap.objs.size + 1) s.heap.objs.size 0 .none := by
    have := Heap.get?_push_size (s.heap.push { cls := .type "tuple_iterator", data := .fields #[.ref l, .int 0 0] })
      (o := { cls := .type "enumerate", data := .fields #[.none, .bool false, .ref s.heap.objs.size, rawInt 0, .none, .none] }) rfl
    rw [hz] at this
    exact this
  refine ⟨⟨_, he, rfl⟩, h _ he ⟨_, Heap.get?_push_of_some _ (Heap.get?_push_size _ rfl), rfl, rfl⟩ (by rw [Heap.size_push, hz]) fun b o x => Heap.get?_push_of_some _ (Heap.get?_push_of_some _ x)⟩

theorem turn_enumT {P : Program} {w : World} {K : PySem.W.Frag} {elts : List Expr} {kk : Nat} {tpos : Pos} (a e it : Addr) :
    Turn P w K (.Tuple elts kk tpos) (IteT K a) [e, it] e (fun i h => (∃ old, IsEnum h e it ((i : Nat) : Int) old) ∧ h.IsTupleIter it a i ∧ e ≠ it ∧ e ≠ a ∧ a ≠ it) where
  mem := by simp
  obj := fun i h st b hb => by
    obtain ⟨⟨old, he⟩, ⟨o, ho, hc, hd⟩, _⟩ := st
    have e' : b = e ∨ b = it := by simpa using hb
    rcases e' with z | z
    · rw [z]; exact ⟨_, he, fun v q => nomatch q⟩
    · rw [z]; exact ⟨o, ho, fun v q => by rw [hd] at q; cases q⟩
  keep := fun i h h' st k => let ⟨⟨old, he⟩, hi, hne⟩ := st; ⟨⟨old, k e (by simp) _ he⟩, hi.at fun o q => k it (by simp) o q, hne⟩
  item := by
    intro X hP hw hK hc i pins s σ H E I hf st hg
    subst hP hw hK
    obtain ⟨⟨old, he⟩, hit, hne, hea, hai⟩ := st
    obtain ⟨xs, x, hq, hx⟩ := hg
    obtain ⟨its, rv, p, hz⟩ := I.tuple hq
    obtain ⟨u, hu, ru⟩ := rv.get hx
    have hel : e < s.heap.objs.size := Heap.lt_size he
    have hil : it < s.heap.objs.size := by obtain ⟨_, q, _⟩ := hit; exact Heap.lt_size q
    have hlt : i < its.toArray.size := by
      have := (List.getElem?_eq_some_iff.mp hu).1
      rw [List.size_toArray]
      exact this
    refine wpAny_pyNext_enum_itemD (Draws.tuple (A := X.A.in1) (I.ok.hd hc) it a hai its.toArray) he ⟨hit, p⟩ hlt hne (by simp [hne, hea]) fun x' h' tk hP ho hst hT hsz hk => ?_
    obtain ⟨hit', p'⟩ := hst
    have ex : x' = u := by
      have h1 : its.toArray[i]? = some x' := hP
      have h2 : its.toArray[i]? = some u := by simpa using hu
      rw [h2] at h1
      exact (Option.some.inj h1).symm
    subst ex
    refine ⟨_, rfl, wpAny_letOwnedTupleGo_enum (s := { s with heap := h', toks := tk + 1 }) ho fun h'' he' sb => ?_⟩
    have hT2 : h''.get? s.heap.objs.size = some { cls := .type "tuple", data := .seq #[.int i tk, x'] } := (sb.2 _ (Nat.ne_of_gt hel)).trans hT
    have new : ObjOk X.prog X.w (upd H s.heap.objs.size (.tup [.int (i : Nat), x])) h'' s.heap.objs.size (.tup [.int (i : Nat), x]) :=
      ⟨by show 2 ≤ sizeLine; decide, [.int i tk, x'], .cons ⟨_, rfl⟩ (.cons ru .nil), ⟨_, hT2, rfl, _, rfl⟩⟩
    have I1 : Inv X pins σ (upd H s.heap.objs.size (.tup [.int (i : Nat), x])) { s with heap := h'', toks := tk + 1 } :=
      I.turnedNew (ch := [e, it]) (fun b ob hb q => (sb.2 b (fun z => hb (by simp [z]))).trans (hk b ob (fun z => hb (by simp [z])) (fun z => hb (by simp [z])) q)) hf (Nat.le_refl _) new
    refine ⟨.ref s.heap.objs.size, _, I1, rfl, ⟨_, x, rfl, I.hok.fresh (Nat.le_refl _), rfl, fun ys hy => by rw [I.tuple_inj hy hq]; exact hx⟩, ⟨⟨x', ?_⟩, hit'.at fun o q => (sb.2 it (Ne.symm hne)).trans q, hne, hea, hai⟩, fun b hb => ?_⟩
    · have e1 : ((i + 1 : Nat) : Int) = (i : Int) + 1 := by omega
      rw [e1]; exact he'
    · have hb' : b < s.heap.objs.size := by
        have e' : b = e ∨ b = it := by simpa using hb
        rcases e' with z | z
        · rw [z]; exact hel
        · rw [z]; exact hil
      rw [upd_ne (Nat.ne_of_lt hb')]
      exact (hf b hb).1
  done := by
    intro X hP hw hK hc i pins s σ H E I hf st hg
    subst hP hw hK
    obtain ⟨⟨old, he⟩, hit, hne, hea, hai⟩ := st
    obtain ⟨xs, hq, hx⟩ := hg
    obtain ⟨its, rv, p, hz⟩ := I.tuple hq
    obtain ⟨f0, f1, f2, f3, f4, f5⟩ := hf it (by simp)
    have hl := rv.length
    have D : Draws X.prog X.w X.A.in1 it [it, a] i (fun _ _ => True) (fun j h => j = i ∧ h.IsTupleIter it a i ∧ h.IsTuple a its.toArray) :=
      { live := fun _ _ st => let ⟨o, ho, _⟩ := st.2.1; ⟨o, ho⟩
        frame := fun _ _ _ st hk => ⟨st.1, st.2.1.at fun o e => hk it (by simp) o e, st.2.2.at fun o e => hk a (by simp) o e⟩
        item := fun j s Q E hi st hQ => absurd hi (by rw [st.1]; exact Nat.lt_irrefl _)
        done := fun s Q E st hE => wpAny_nextOf_tuple_end (I.ok.hd hc) st.2.1 st.2.2 (by simp; omega) hE }
    exact wpAny_pyNext_enum_endD D he ⟨rfl, hit, p⟩ fun h' eb => ⟨rfl, I.turned (t' := s.toks) (fun b o hb q => eb b o hb q) f0 f1 f3 f4 f5⟩
  self := fun A i s Q E st h => let ⟨⟨_, he⟩, _⟩ := st; wpAny_pyIter_enum he h
def iEnumT (K : PySem.W.Frag) (ta : TA) : TI := fun σ H R => ta σ H fun vs H1 => ∃ a xs, vs = [.ref a] ∧ SqT K H1 a xs ∧ R (IteT K a) H1
theorem pi_enumT {X : Cx} {e : Expr} {ta : TA} {p pos tpos : Pos} {elts : List Expr} {kk : Nat} (hg : Gl X "enumerate") (hm : X.mg "enumerate" = none) (ha : PA X [e] ta) (hs : starEach [e] X.env = [(false, eval e X.env)] := by rfl) :
    PI X (.Tuple elts kk tpos) (.Call (.Name "enumerate" p) [e] [] pos) (iEnumT X.K ta) := by
  refine ⟨fun pins s σ H R I h => ?_⟩
  refine Call_ (ld_blt I hg hm boot_enumerate (PyProof.Rows.callWith_type1 (thn (ha.run pos pins s σ H _ I h) fun us s1 ⟨vs, H1, I1, r1, q1⟩ => ?_) hs rfl))
  obtain ⟨a, xs, ex, hq, q⟩ := q1
  subst ex
  cases r1 with
  | cons r rr =>
    cases rr
    cases r
    obtain ⟨its, rv, p', hz⟩ := I1.tuple hq
    have hal : a < s1.heap.objs.size := by obtain ⟨_, q, _⟩ := id p'; exact Heap.lt_size q
    refine enum_tuple p' fun h' he hit hsz hk => wpAny_pyIter_enum he ?_
    have I2 : Inv X pins σ H1 { s1 with heap := h' } := I1.kept (t' := s1.toks) hk
    refine ⟨s1.heap.objs.size + 1, [s1.heap.objs.size + 1, s1.heap.objs.size], _, _, H1, rfl, I2, turn_enumT a (s1.heap.objs.size + 1) s1.heap.objs.size, ⟨⟨.none, he⟩, hit, Nat.succ_ne_self _, Nat.ne_of_gt (Nat.lt_succ_of_lt hal), Nat.ne_of_lt hal⟩, fun b hb => ?_, q⟩
    have e' : b = s1.heap.objs.size + 1 ∨ b = s1.heap.objs.size := by simpa using hb
    have hle : s1.heap.objs.size ≤ b := by
      rcases e' with z | z
      · rw [z]; exact Nat.le_add_right _ _
      · rw [z]; exact Nat.le_refl _
    exact I1.fpOk hle (I1.hok.fresh hle)
end KG

set_option Elab.async false
set_option linter.all false
set_option maxRecDepth 100000
set_option maxHeartbeats 4000000
/-! KSet: sorted(set(xs)), xs a list of ints: the set is not told. -/
namespace KG
open PySem PySem.Spec PyProof.Rows L2
abbrev empt (w : World) : Obj := { cls := .type "set", dict := none, data := .set #[] 0 (.fresh 0 0 (!w.params.followText "set-order")) }
section
variable {P : Program} {w : World} {A : Around} {E : Value → Shared → Prop} {s : Shared}
/-- the filling of an empty set at the heap's end from a list -/
theorem fill_list {l : Addr} {items : Array Value} {ns : List Int} {n0 : Addr} {R : Result → Shared → Prop} (hh : A.in1.handled = none) (hn : n0 < s.heap.objs.size) (hl : s.heap.IsList l items) (hll : l < n0) (hS : s.heap.get? n0 = some (empt w)) (hit : IntsAre items.toList ns) (hb : ns.length + 1 < scanBound)
    (h : ∀ (h' : Heap) (tk c : Nat), SetR w h' n0 (fun j => decide (j ∈ ns)) c → c ≤ ns.length → (∀ b o, b ≠ n0 → b < s.heap.objs.size → s.heap.get? b = some o → h'.get? b = some o) → R (.ok (.ret .none)) { s with heap := h', toks := tk }) :
    codeAny (model P w) A (.builtin "set.update.loop" ⟨[.ref n0, .ref s.heap.objs.size], []⟩) R { s with heap := s.heap.push { cls := .type "list_iterator", data := .fields #[.ref l, .int 0 0] } } := by
  have lenI : items.size = ns.length := by
    have := IntsAre.length hit
    simpa using this
  have lapart : l ≠ s.heap.objs.size := Nat.ne_of_lt (Nat.lt_trans hll hn)
  have out : n0 ∉ [s.heap.objs.size, l] := by
    intro hm
    rcases List.mem_cons.mp hm with q | q
    · exact Nat.ne_of_lt hn q
    · exact Nat.ne_of_gt hll (List.mem_singleton.mp q)
  have vals : ∀ (i : Nat) (v : Value), items[i]? = some v → ∃ k t, ns[i]? = some k ∧ v = .int k t := fun i v hv => by
    have lt : i < ns.length := by
      have := (Array.getElem?_eq_some_iff.mp hv).1
      omega
    obtain ⟨t, e⟩ := PyProof.Rows.IntsAre.int_at hit i v (by rw [Array.getElem?_toList]; exact hv)
    refine ⟨ns[i], t, List.getElem?_eq_getElem lt, ?_⟩
    rw [e]
    simp [List.getD, List.getElem?_eq_getElem lt]
  refine set_update_ints ((Walks.list hh s.heap.objs.size l lapart items).toS) n0 out ns lenI hb vals _ 0 _ rfl (Nat.zero_le _) ⟨⟨_, Heap.get?_push_size _ rfl, rfl, rfl⟩, hl.push _⟩ ⟨0, Nat.le_refl 0, setR_new_at (Heap.get?_push_of_some _ hS)⟩ fun z c mv hc hz => ?_
  obtain ⟨h', g2, d', tk', os'⟩ := z
  have eg : g2 = s.gens := mv.gens
  have ed : d' = s.drawn := mv.drawn
  have eo : os' = s.os := mv.os
  subst eg ed eo
  refine h h' tk' c hz (by omega) fun b o hb1 hb2 e => mv.heap b o (fun hm => ?_) (Heap.get?_push_of_some _ e)
  rcases List.mem_cons.mp hm with q | q
  · exact hb1 q
  · exact Nat.ne_of_lt hb2 (List.mem_singleton.mp q)
set_option maxRecDepth 100000 in
theorem call_setL {l : Addr} {items : Array Value} {ns : List Int} {Q : Value → Shared → Prop} (hh : A.handled = none) (hl : s.heap.IsList l items) (hit : IntsAre items.toList ns) (hb : ns.length + 1 < scanBound)
    (h : ∀ (h' : Heap) (tk c : Nat), SetR w h' s.heap.objs.size (fun j => decide (j ∈ ns)) c → c ≤ ns.length → (∀ b o, s.heap.get? b = some o → h'.get? b = some o) → Q (.ref s.heap.objs.size) { s with heap := h', toks := tk }) :
    wpAny (model P w) A (call (.type "set") [.ref l]) Q E s := by
  obtain ⟨c, tl, hmro⟩ := F.called_set.mro
  have hmade := F.called_set.made
  have hsub := F.called_set.sub
  refine wpAny_call (codeAny_of_tree ?_)
  show wpAny _ _ (callAny (.type "set") _) _ _ _
  refine wpAny_pure ⟨Code.quiet_builtin _ (by decide +kernel), codeAny_builtin F.entry_type_call ?_⟩
  rw [Around.under_plain (weight_type_call_type "set" [.ref l] []) rfl]
  have h1 := F.called_set.notType
  have h2 := F.called_set.canCreate
  have hct := F.typeCall_set_1 (.ref l)
  repeat (any_goals (first | assumption | wp_step))
  refine codeAny_mono (code_set_led1 (.ref l) (E := E) (Q₁ := fun v z => v = .ref s.heap.objs.size ∧ z = { s with heap := s.heap.push (empt w) }) ⟨rfl, rfl⟩) fun r z hr => ?_
  cases r with
  | error e => exact hr
  | ok fl =>
    cases fl with
    | ret v =>
      obtain ⟨rfl, rfl⟩ := hr
      have gS : (s.heap.push (empt w)).get? s.heap.objs.size = some (empt w) := Heap.get?_push_size _ rfl
      have tS : Shared.TypeIs { s with heap := s.heap.push (empt w) } (.ref s.heap.objs.size) "set" := ⟨_, gS, rfl⟩
      have hli := F.called_set.init.lookup
      have hbi := F.called_set.init.bind (.ref s.heap.objs.size)
      repeat (any_goals (first | assumption | wp_step))
      refine codeAny_mono (codeAny_call_builtin (R := wants (fun r z => r = .none ∧ ∃ h' tk c, z = { s with heap := h', toks := tk } ∧ SetR w h' s.heap.objs.size (fun j => decide (j ∈ ns)) c ∧ c ≤ ns.length ∧ ∀ b o, s.heap.get? b = some o → h'.get? b = some o) E)
        F.called_set.init.plain F.entry_set_init (check_set_init_1 tS ?_)) fun r z hr => ?_
      · obtain ⟨⟨lc, ld, lda, lsl⟩, hol, hcl, nl, hdl⟩ := hl
        simp only at hcl hdl
        subst hcl hdl
        have hol2 : (s.heap.push (empt w)).get? l = some { cls := .type "list", dict := ld, data := .seq items nl, slots := lsl } := Heap.get?_push_of_some _ hol
        have s1 := F.sub_list_set
        have s2 := F.sub_list_frozenset
        have s3 : (Value.type "list" == Value.type "dict") = false := by decide
        have hl2 : (s.heap.push (empt w)).IsList l items := ⟨_, hol2, rfl, nl, rfl⟩
        have hll : l < s.heap.objs.size := Heap.lt_size hol
        unfold Builtin.«set.__init__» noKeywords Builtin.Frozenset.updateFrom
        generalize hPI : pyIter = PI
        wp_walk
        subst hPI
        refine wpAny_pyIter_list hl2 ?_
        refine wpAny_bind (wpAny_runValue ?_)
        have hz : s.heap.objs.size < (s.heap.push (empt w)).objs.size := by
          rw [Heap.size_push]
          exact Nat.lt_succ_self _
        refine fill_list (s := { s with heap := s.heap.push (empt w) }) (n0 := s.heap.objs.size) (by simp [hh]) hz hl2 hll gS hit hb fun h' tk c hR hc kp => ?_
        show wpAny _ _ _ _ _ _
        refine wpAny_pure ?_
        show wpAny _ _ (ret Value.none) _ _ _
        refine wpAny_pure ⟨rfl, h', tk, c, rfl, hR, hc, fun b o e => ?_⟩
        have hb0 : b < s.heap.objs.size := Heap.lt_size e
        exact kp b o (Nat.ne_of_lt hb0) (Nat.lt_trans hb0 hz) (Heap.get?_push_of_some _ e)
      · cases r with
        | error e => exact hr
        | ok fl2 =>
          cases fl2 with
          | ret v =>
            obtain ⟨rfl, h', tk, c, rfl, hR, hc, kp⟩ := hr
            repeat (any_goals (first | assumption | wp_step))
            exact h _ _ _ hR hc kp
          | _ => exact hr.elim
    | _ => exact hr.elim
end
end KG

set_option Elab.async false
set_option linter.all false
set_option maxRecDepth 100000
set_option maxHeartbeats 1000000
/-! KSet2: the rule of sorted(set(xs)). -/
namespace KG
open PySem PySem.Spec PyProof.Rows L2
/-- reads: the list and its ints, fewer than 63; then the new list of them in order, each once -/
def tSortedSet (K : PySem.W.Frag) (ta : TE) : TE := fun σ H Q => ta σ H fun x H1 => ∃ (l : Addr) (ns : List Int), x = .ref l ∧ SqL K H1 l (ns.map V.int) ∧ ns.length < 64 ∧ ∀ (ms : List Int) (p : Addr), ms.Pairwise (· < ·) → (∀ k : Int, k ∈ ms ↔ k ∈ ns) → H1 p = none → Q (.ref p) (upd H1 p (.lst (ms.map V.int)))
theorem pe_sortedSet {X : Cx} {a : Expr} {ta : TE} {p p2 q pos : Pos} (hg : Gl X "sorted") (hm : X.mg "sorted" = none) (hg2 : Gl X "set") (hm2 : X.mg "set" = none) (ha : PE X a ta) (hc : X.calm = true := by rfl)
    (na : starEach [a] X.env = (false, eval a X.env) :: starEach [] X.env := by rfl) : PE X (.Call (.Name "sorted" p) [.Call (.Name "set" p2) [a] [] q] [] pos) (tSortedSet X.K ta) := by
  refine ⟨fun pins s σ H Q I h => ?_⟩
  refine Call_ (ld_blt (u := .builtin "sorted") I hg hm (by decide +kernel) ?_)
  refine PyProof.Rows.callWith_builtin1 (PyProof.Rows.args_cons ?_ rfl) rfl rfl
  refine Call_ (ld_blt I hg2 hm2 boot_set ?_)
  refine PyProof.Rows.callWith_type1 (PyProof.Rows.args_cons (thn (ha.run pins s σ H _ I h) fun v s1 ⟨x, H1, I1, r1, q1⟩ => PyProof.Rows.args_nil ?_) na) na rfl
  obtain ⟨l, ns, rfl, hq, hl, q1⟩ := q1
  cases r1
  obtain ⟨its, r, pl, hz⟩ := I1.list hq
  refine call_setL (ns := ns) (I1.ok.hd hc) pl.isList (by simpa using RZ.intsAre_vals r) (by unfold scanBound; omega) fun h' tk c hR hcl kp => ?_
  refine PyProof.Rows.args_nil ?_
  have I2 : Inv X pins σ H1 { s1 with heap := h', toks := tk } := I1.kept kp
  refine sorted_set hR (I1.ok.hd hc) (by omega) fun s' pp out cc ms k g o hp hgg hi hs hmm hml => ?_
  have hlen : (ms.map V.int).length ≤ sizeLine := by
    rw [List.length_map, hml, sizeLine_eq]
    omega
  have hn : H1 pp = none := I2.hok.fresh hp
  have J : Inv X pins σ (upd H1 pp (.lst (ms.map V.int))) { s1 with heap := s'.heap, gens := s'.gens, drawn := s'.drawn, toks := s'.toks } :=
    Inv.call (s := { s1 with heap := h', toks := tk }) (ch := []) I2 (Un.laid k hp hn) (I2.hok.laid k hp ⟨hlen, out.toList, cc, vals_of_ints hi, hgg⟩) (by rw [g]; exact I2.bare) (fun _ z => nomatch z)
  have e : s' = { s1 with heap := s'.heap, gens := s'.gens, drawn := s'.drawn, toks := s'.toks } := by
    cases s'
    cases o
    rfl
  rw [e]
  exact ⟨.ref pp, _, J, rfl, q1 ms pp hs (fun j => (hmm j).trans decide_eq_true_iff) hn⟩
end KG

set_option Elab.async false
set_option linter.all false
set_option maxRecDepth 100000
set_option maxHeartbeats 1000000
/-! KBase: the defs by place, what stands in the heap, comprehensions that only add. -/
namespace KW
open PySem PySem.Spec PyProof.Rows L2 KG

def st (i : Nat) : Stmt := PySem.Challenge.pw_coincounters_k23_whole_loops_begun_elsew.main.body.getD i (.Pass ⟨0, 0, 0, 0⟩)
/-- a def of this module that may be called -/
structure DD (K : PySem.W.Frag) (mg : Str → Option Value) (x : Str) (s : Stmt) (ps : List Str) : Prop where
  ex : ∃ (f : Addr) (fd : FuncData), C8.Def K mg x s f fd ∧ Binds K fd ps []
section
variable {P : Program} {w : World} {K : PySem.W.Frag} {mg : Str → Option Value} {base : Heap}
theorem calD {x : Str} {s : Stmt} {N ps : List Str} {k : Nat} {sp : Sp} (D : DD K mg x s ps) (S : FnScope N ps (C8.fnScope s)) (len : ∀ vs H Q E, sp vs H Q E → vs.length = ps.length)
    (hbody : ∀ (f : Addr) (cdv : Value) (A : Around) (outer : List Env) (z : Shared) (H : Hp) (vs : List V) (Q : VK) (E : XK), Room k (A.deeper (envOfC x (C8.fnScope s) z.heap.objs.size f cdv)) → sp vs H Q E →
      ∃ t, PSs (cxOf C8.CX0 P w K mg base N x (C8.fnScope s) f cdv A outer z H E).nox (C8.fnBody s) t ∧ t { nx := fun _ H' => Q .non H', rt := Q } (start N vs) H) : C8.Cal P w K mg base (k + 1) x sp [] := by
  obtain ⟨f, fd, d, b⟩ := D.ex
  exact C8.cal0 d b .nil S len (hbody f)
end

/-! ### in-place product -/
section
variable {X : Cx}
def ipM : TIp := fun x y H Q => ∃ i j, x = .int i ∧ y = .int j ∧ ((-(2 ^ 64) < i ∧ i < 2 ^ 64) ∨ (-(2 ^ 64) < j ∧ j < 2 ^ 64)) ∧ Q (.int (i * j)) H
theorem ip_mul : PIp X .Mult ipM := by
  intro pins s σ H x y v u Q I r1 r2 h
  obtain ⟨i, j, e1, e2, hc, q⟩ := h
  subst e1; subst e2
  obtain ⟨t, rfl⟩ := r1
  obtain ⟨t', rfl⟩ := r2
  exact imul_int ⟨.int _, H, I.tok _, ⟨_, rfl⟩, q⟩ (CMul.ok hc)
end

/-! ### rules whose reading names K, not the context's -/
section
variable {X : Cx} (K : PySem.W.Frag)
theorem ixT (h : X.K = K := by rfl) : IxR X (rIxT K) := by
  subst h
  exact ix_tup
theorem lenK (h : X.K = K := by rfl) : CallR X (.builtin "len") (fun xs H Q => ∃ p ys, xs = [.ref p] ∧ (SqL K H p ys ∨ SqT K H p ys) ∧ Q (.int ys.length) H) := by
  subst h
  exact call_len_seq
end

/-! ### the data -/
structure Ctr where
  s : Nat
  t : Nat
  g : Nat
  h : Nat
def Ctr.vs (c : Ctr) : List V := [.int (c.s : Nat), .int (c.t : Nat), .int (c.g : Nat), .int (c.h : Nat)]
instance : Inhabited Ctr := ⟨⟨0, 0, 1, 1⟩⟩
/-- tuples are kept -/
def Tk (H H' : Hp) : Prop := ∀ b us, H b = some (.tup us) → H' b = some (.tup us)
theorem Gr.tk {H H' : Hp} (g : Gr H H') : Tk H H' := fun b us e => g.ex b _ e
theorem Tk.trans {H H1 H2 : Hp} (a : Tk H H1) (b : Tk H1 H2) : Tk H H2 := fun x us e => b x us (a x us e)
theorem Tk.refl (H : Hp) : Tk H H := fun _ _ e => e
theorem Tk.tups (H : Hp) : Tk H (tupsOf H) := fun _ _ e => tups_of e
theorem Tk.of_tups (H : Hp) : Tk (tupsOf H) H := fun _ _ e => (tups_at e).1
/-- a list's place is written -/
theorem Tk.lst {H H' : Hp} {p : Addr} {xs : List V} {o : HO} (g : Tk H H') (h : H' p = some (.lst xs)) : Tk H (upd H' p o) := fun b us e => by
  have q := g b us e
  rw [upd_ne (fun z => by rw [z, h] at q; cases q)]
  exact q
/-- board b: n kinds, the counters cs -/
def BrdAt (H : Hp) (b : Addr) (n : Nat) (cs : List Ctr) : Prop :=
  ∃ (ca : Addr) (vs : List V), H b = some (.tup [.int (n : Nat), .ref ca]) ∧ H ca = some (.tup vs) ∧ vs.length = cs.length ∧ ∀ (i : Nat) (c : Ctr), cs[i]? = some c → ∃ p, vs[i]? = some (.ref p) ∧ H p = some (.tup c.vs)
theorem BrdAt.mono {H H' : Hp} {b : Addr} {n : Nat} {cs : List Ctr} (h : BrdAt H b n cs) (k : Tk H H') : BrdAt H' b n cs := by
  obtain ⟨ca, vs, h1, h2, h3, h4⟩ := h
  refine ⟨ca, vs, k _ _ h1, k _ _ h2, h3, fun i c e => ?_⟩
  obtain ⟨p, q1, q2⟩ := h4 i c e
  exact ⟨p, q1, k _ _ q2⟩
def iv (n : Nat) : V := .int (n : Nat)
/-- a loop, a route: a tuple of indexes -/
def LpAt (H : Hp) (a : Addr) (ls : List Nat) : Prop := H a = some (.tup (ls.map iv))
theorem LpAt.mono {H H' : Hp} {a : Addr} {ls : List Nat} (h : LpAt H a ls) (k : Tk H H') : LpAt H' a ls := k _ _ h
/-- rates between 1 and 5 -/
def Rts (cs : List Ctr) : Prop := ∀ c ∈ cs, 1 ≤ c.g ∧ c.g ≤ 5 ∧ 1 ≤ c.h ∧ c.h ≤ 5
def Ixs (cs : List Ctr) (ls : List Nat) : Prop := ∀ i ∈ ls, i < cs.length
def rate (cs : List Ctr) (i : Nat) : Nat × Nat := ((cs.getD i default).g, (cs.getD i default).h)
def rates (cs : List Ctr) (ls : List Nat) : List (Nat × Nat) := ls.map (rate cs)

/-! ### comprehensions that only add -/
section
variable {g : TG} {tt : TT} {te : TE} {vs : List Nat} {σ : L2.St} {H1 : Hp} {D : Addr} {Qd : Hp → Prop}
theorem lc_G {J : It} {n : Nat} (item : Hp → Nat → V → Prop) (Res : Hp → Nat → V → Prop) (hD : H1 D = none) (hz : n < sizeLine) (mono : ∀ H H' i y, Tk H H' → Res H i y → Res H' i y)
    (hstop : ∀ H, Gr H1 H → J.stop n H) (hgo : ∀ i H, i < n → Gr H1 H → J.go i H) (hy : ∀ i x H H', i < n → Gr H1 H → J.yld i H x H' → item H' i x ∧ Gr H H')
    (hs : ∀ i x H (Kq : VK) (Nq : Hp → Prop), i < n → item H i x → Gr H1 H → (∀ y H4, Gr H H4 → Res H4 i y → Kq y H4) → g x (wipe σ vs) H fun σ2 H2 => wipe σ2 vs = wipe σ vs ∧ tt σ2 H2 fun b H3 => if b = true then te σ2 H3 Kq else Nq H3)
    (hd : ∀ ys H', ys.length = n → Gr H1 H' → H' D = some (.lst ys) → (∀ i y, ys[i]? = some y → Res H' i y) → Qd H') :
    ∃ W : Nat → Nat → Hp → Prop, (∃ m, W 0 m (upd H1 D (.lst []))) ∧ ∀ i m H, W i m H →
      (J.stop i H ∧ Qd H) ∨ (J.go i H ∧ ∃ Nx : Hp → Prop, (∀ H', Nx H' → ∃ m', m' < m ∧ W (i + 1) m' H') ∧ ∀ x H', J.yld i H x H' → g x (wipe σ vs) H' fun σ2 H2 => wipe σ2 vs = wipe σ vs ∧ tt σ2 H2 fun b H3 =>
        if b = true then te σ2 H3 fun y H4 => ∃ acc, H4 D = some (.lst acc) ∧ acc.length < sizeLine ∧ Nx (upd H4 D (.lst (acc ++ [y]))) else Nx H3) := by
  refine ⟨fun i m H => m = n - i ∧ i ≤ n ∧ Gr H1 H ∧ ∃ ys : List V, ys.length = i ∧ H D = some (.lst ys) ∧ ∀ j y, ys[j]? = some y → Res H j y, ⟨n, by simp, Nat.zero_le _, Gr.mut (Gr.refl _) hD trivial, [], rfl, upd_same, fun j y e => by simp at e⟩, ?_⟩
  rintro i m H ⟨rfl, hi, gr, ys, hl, hH, hR⟩
  by_cases hlt : i < n
  · refine .inr ⟨hgo i H hlt gr, fun H' => Gr H1 H' ∧ ∃ ys : List V, ys.length = i + 1 ∧ H' D = some (.lst ys) ∧ ∀ j y, ys[j]? = some y → Res H' j y, fun H' hN => ⟨n - (i + 1), by omega, rfl, hlt, hN⟩, fun x H' hyl => ?_⟩
    obtain ⟨hit, gr2⟩ := hy i x H H' hlt gr hyl
    refine hs i x H' _ _ hlt hit (gr.trans gr2) fun y H4 g4 r4 => ?_
    have e4 : H4 D = some (.lst ys) := g4.ex _ _ (gr2.ex _ _ hH)
    have tk4 : Tk H (upd H4 D (.lst (ys ++ [y]))) := Tk.lst ((Gr.tk gr2).trans (Gr.tk g4)) e4
    have tk5 : Tk H4 (upd H4 D (.lst (ys ++ [y]))) := Tk.lst (Tk.refl _) e4
    refine ⟨ys, e4, by omega, Gr.mut ((gr.trans gr2).trans g4) hD trivial, ys ++ [y], by simp [hl], upd_same, fun j z e => ?_⟩
    by_cases hj : j < ys.length
    · rw [List.getElem?_append_left hj] at e
      exact mono _ _ _ _ tk4 (hR j z e)
    · rw [List.getElem?_append_right (by omega)] at e
      have : j - ys.length = 0 := by
        have := (List.getElem?_eq_some_iff.mp e).1
        simp at this
        omega
      rw [this] at e
      have ez : y = z := Option.some.inj e
      have ej : j = i := by omega
      subst ez ej
      exact mono _ _ _ _ tk5 r4
  · have ei : i = n := by omega
    subst ei
    exact .inl ⟨hstop H gr, hd ys H hl gr hH hR⟩
/-- over a tuple -/
theorem lc_tupG {K : PySem.W.Frag} {a : Addr} {xs : List V} (Res : Hp → Nat → V → Prop) (ha : H1 a = some (.tup xs)) (hD : H1 D = none) (hz : xs.length < sizeLine) (mono : ∀ H H' i y, Tk H H' → Res H i y → Res H' i y)
    (hs : ∀ (i : Nat) x H (Kq : VK) (Nq : Hp → Prop), xs[i]? = some x → Gr H1 H → (∀ y H4, Gr H H4 → Res H4 i y → Kq y H4) → g x (wipe σ vs) H fun σ2 H2 => wipe σ2 vs = wipe σ vs ∧ tt σ2 H2 fun b H3 => if b = true then te σ2 H3 Kq else Nq H3)
    (hd : ∀ ys H', ys.length = xs.length → Gr H1 H' → H' D = some (.lst ys) → (∀ i y, ys[i]? = some y → Res H' i y) → Qd H') :
    ∃ W : Nat → Nat → Hp → Prop, (∃ m, W 0 m (upd H1 D (.lst []))) ∧ ∀ i m H, W i m H →
      ((Itt K a).stop i H ∧ Qd H) ∨ ((Itt K a).go i H ∧ ∃ Nx : Hp → Prop, (∀ H', Nx H' → ∃ m', m' < m ∧ W (i + 1) m' H') ∧ ∀ x H', (Itt K a).yld i H x H' → g x (wipe σ vs) H' fun σ2 H2 => wipe σ2 vs = wipe σ vs ∧ tt σ2 H2 fun b H3 =>
        if b = true then te σ2 H3 fun y H4 => ∃ acc, H4 D = some (.lst acc) ∧ acc.length < sizeLine ∧ Nx (upd H4 D (.lst (acc ++ [y]))) else Nx H3) :=
  lc_G (J := Itt K a) (n := xs.length) (fun _ i x => xs[i]? = some x) Res hD hz mono (fun H gr => ⟨xs, SqT.of (gr.ex _ _ ha), Nat.le_refl _⟩)
    (fun i H hi gr => ⟨xs, xs[i], SqT.of (gr.ex _ _ ha), by simp [hi]⟩) (fun i x H H' hi gr q => ⟨q.2 xs (SqT.of (gr.ex _ _ ha)), by rw [q.1]; exact Gr.refl _⟩) (fun i x H Kq Nq _ e gr k => hs i x H Kq Nq e gr k) hd
/-- over a zip of two tuples -/
theorem lc_zipG {K : PySem.W.Frag} {a b : Addr} {xs zs : List V} (Res : Hp → Nat → V → Prop) (ha : H1 a = some (.tup xs)) (hb : H1 b = some (.tup zs)) (hl : zs.length = xs.length) (hD : H1 D = none) (hz : xs.length < sizeLine) (mono : ∀ H H' i y, Tk H H' → Res H i y → Res H' i y)
    (hs : ∀ (i : Nat) x z T H (Kq : VK) (Nq : Hp → Prop), xs[i]? = some x → zs[i]? = some z → H T = some (.tup [x, z]) → Gr H1 H → (∀ y H4, Gr H H4 → Res H4 i y → Kq y H4) → g (.ref T) (wipe σ vs) H fun σ2 H2 => wipe σ2 vs = wipe σ vs ∧ tt σ2 H2 fun b H3 => if b = true then te σ2 H3 Kq else Nq H3)
    (hd : ∀ ys H', ys.length = xs.length → Gr H1 H' → H' D = some (.lst ys) → (∀ i y, ys[i]? = some y → Res H' i y) → Qd H') :
    ∃ W : Nat → Nat → Hp → Prop, (∃ m, W 0 m (upd H1 D (.lst []))) ∧ ∀ i m H, W i m H →
      ((RZ.ItzT K a b).stop i H ∧ Qd H) ∨ ((RZ.ItzT K a b).go i H ∧ ∃ Nx : Hp → Prop, (∀ H', Nx H' → ∃ m', m' < m ∧ W (i + 1) m' H') ∧ ∀ x H', (RZ.ItzT K a b).yld i H x H' → g x (wipe σ vs) H' fun σ2 H2 => wipe σ2 vs = wipe σ vs ∧ tt σ2 H2 fun b H3 =>
        if b = true then te σ2 H3 fun y H4 => ∃ acc, H4 D = some (.lst acc) ∧ acc.length < sizeLine ∧ Nx (upd H4 D (.lst (acc ++ [y]))) else Nx H3) :=
  lc_G (J := RZ.ItzT K a b) (n := xs.length) (fun H i v => ∃ T x z, v = .ref T ∧ xs[i]? = some x ∧ zs[i]? = some z ∧ H T = some (.tup [x, z])) Res hD hz mono (fun H gr => ⟨xs, zs, SqT.of (gr.ex _ _ ha), SqT.of (gr.ex _ _ hb), .inl (Nat.le_refl _)⟩)
    (fun i H hi gr => ⟨xs, zs, xs[i], zs[i]'(by omega), SqT.of (gr.ex _ _ ha), SqT.of (gr.ex _ _ hb), by simp [hi], by simp [hl, hi]⟩)
    (fun i x H H' hi gr q => by
      obtain ⟨T, x1, z1, e1, hT, eH, f1, f2⟩ := q
      exact ⟨⟨T, x1, z1, e1, f1 xs (SqT.of (gr.ex _ _ ha)), f2 zs (SqT.of (gr.ex _ _ hb)), by rw [eH]; exact upd_same⟩, by rw [eH]; exact Gr.tup hT⟩)
    (fun i x H Kq Nq _ e gr k => by
      obtain ⟨T, x1, z1, e1, f1, f2, hT⟩ := e
      rw [e1]
      exact hs i x1 z1 T H Kq Nq f1 f2 hT gr k) hd
/-- over a list -/
theorem lc_listG {K : PySem.W.Frag} {a : Addr} {xs : List V} (Res : Hp → Nat → V → Prop) (ha : H1 a = some (.lst xs)) (hD : H1 D = none) (hz : xs.length < sizeLine) (mono : ∀ H H' i y, Tk H H' → Res H i y → Res H' i y)
    (hs : ∀ (i : Nat) x H (Kq : VK) (Nq : Hp → Prop), xs[i]? = some x → Gr H1 H → (∀ y H4, Gr H H4 → Res H4 i y → Kq y H4) → g x (wipe σ vs) H fun σ2 H2 => wipe σ2 vs = wipe σ vs ∧ tt σ2 H2 fun b H3 => if b = true then te σ2 H3 Kq else Nq H3)
    (hd : ∀ ys H', ys.length = xs.length → Gr H1 H' → H' D = some (.lst ys) → (∀ i y, ys[i]? = some y → Res H' i y) → Qd H') :
    ∃ W : Nat → Nat → Hp → Prop, (∃ m, W 0 m (upd H1 D (.lst []))) ∧ ∀ i m H, W i m H →
      ((Itl K a).stop i H ∧ Qd H) ∨ ((Itl K a).go i H ∧ ∃ Nx : Hp → Prop, (∀ H', Nx H' → ∃ m', m' < m ∧ W (i + 1) m' H') ∧ ∀ x H', (Itl K a).yld i H x H' → g x (wipe σ vs) H' fun σ2 H2 => wipe σ2 vs = wipe σ vs ∧ tt σ2 H2 fun b H3 =>
        if b = true then te σ2 H3 fun y H4 => ∃ acc, H4 D = some (.lst acc) ∧ acc.length < sizeLine ∧ Nx (upd H4 D (.lst (acc ++ [y]))) else Nx H3) :=
  lc_G (J := Itl K a) (n := xs.length) (fun _ i x => xs[i]? = some x) Res hD hz mono (fun H gr => ⟨xs, SqL.of (gr.ex _ _ ha), Nat.le_refl _⟩)
    (fun i H hi gr => ⟨xs, xs[i], SqL.of (gr.ex _ _ ha), by simp [hi]⟩) (fun i x H H' hi gr q => ⟨q.2 xs (SqL.of (gr.ex _ _ ha)), by rw [q.1]; exact Gr.refl _⟩) (fun i x H Kq Nq _ e gr k => hs i x H Kq Nq e gr k) hd
/-- over range(n) -/
theorem lc_rngG {n : Nat} (Res : Hp → Nat → V → Prop) (hD : H1 D = none) (hz : n < sizeLine) (mono : ∀ H H' i y, Tk H H' → Res H i y → Res H' i y)
    (hs : ∀ (i : Nat) H (Kq : VK) (Nq : Hp → Prop), i < n → Gr H1 H → (∀ y H4, Gr H H4 → Res H4 i y → Kq y H4) → g (.int (i : Nat)) (wipe σ vs) H fun σ2 H2 => wipe σ2 vs = wipe σ vs ∧ tt σ2 H2 fun b H3 => if b = true then te σ2 H3 Kq else Nq H3)
    (hd : ∀ ys H', ys.length = n → Gr H1 H' → H' D = some (.lst ys) → (∀ i y, ys[i]? = some y → Res H' i y) → Qd H') :
    ∃ W : Nat → Nat → Hp → Prop, (∃ m, W 0 m (upd H1 D (.lst []))) ∧ ∀ i m H, W i m H →
      ((Itr 0 n).stop i H ∧ Qd H) ∨ ((Itr 0 n).go i H ∧ ∃ Nx : Hp → Prop, (∀ H', Nx H' → ∃ m', m' < m ∧ W (i + 1) m' H') ∧ ∀ x H', (Itr 0 n).yld i H x H' → g x (wipe σ vs) H' fun σ2 H2 => wipe σ2 vs = wipe σ vs ∧ tt σ2 H2 fun b H3 =>
        if b = true then te σ2 H3 fun y H4 => ∃ acc, H4 D = some (.lst acc) ∧ acc.length < sizeLine ∧ Nx (upd H4 D (.lst (acc ++ [y]))) else Nx H3) :=
  lc_G (J := Itr 0 n) (n := n) (fun _ i x => x = .int (i : Nat)) Res hD hz mono (fun H gr => Nat.le_refl _) (fun i H hi gr => hi)
    (fun i x H H' hi gr q => ⟨by rw [q.2]; simp, by rw [q.1]; exact Gr.refl _⟩) (fun i x H Kq Nq hi e gr k => by rw [e]; exact hs i H Kq Nq hi gr k) hd
end
end KW

set_option Elab.async false
set_option linter.all false
set_option maxRecDepth 100000
set_option maxHeartbeats 1000000
/-! KW1: is_number, changed, moved, renamed, is_index, is_loop, turn_of, products, gain_bound. -/
namespace KW
open PySem PySem.Spec PyProof.Rows L2 KG

/-- what names of the language are not the module's own -/
structure BI (mg : Str → Option Value) : Prop where
  isi : mg "isinstance" = none
  int : mg "int" = none
  bool : mg "bool" = none
  len : mg "len" = none
  tuple : mg "tuple" = none
  zip : mg "zip" = none
  range : mg "range" = none
  min : mg "min" = none
  max : mg "max" = none
  all : mg "all" = none
  enum : mg "enumerate" = none
  list : mg "list" = none
  sorted : mg "sorted" = none
  set : mg "set" = none
  mloop : ∃ t, mg "MAX_LOOP" = some (.int 4 t)
  mroute : ∃ t, mg "MAX_ROUTE" = some (.int 200 t)
  stays : ∃ t, mg "STAYS" = some (.str "stays" t)
  falls : ∃ t, mg "FALLS" = some (.str "falls" t)
  rises : ∃ t, mg "RISES" = some (.str "rises" t)
  grows : ∃ t, mg "GROWS" = some (.str "grows" t)

section
variable {P : Program} {w : World} {K : PySem.W.Frag} {mg : Str → Option Value} {base : Heap}

/-! ### is_number, is_index -/
def spNum : Sp := fun vs H Q _ => ∃ i lo hi : Int, vs = [.int i, .int lo, .int hi] ∧ Q (.bl (decide (lo ≤ i) && decide (i ≤ hi))) H
theorem sc6 : FnScope ["value", "low", "high"] ["value", "low", "high"] (C8.fnScope (st 6)) := C8.fnScope_by (by decide +kernel)
theorem c_num (M : BI mg) (D : DD K mg "is_number" (st 6) ["value", "low", "high"]) : C8.Cal P w K mg base 1 "is_number" spNum [] := by
  refine calD D sc6 (fun vs H Q E h => ?_) fun f cdv A outer s H vs Q E hr h => ?_
  · obtain ⟨i, lo, hi, rfl, _⟩ := h
    rfl
  · obtain ⟨i, lo, hi, rfl, q⟩ := h
    refine ⟨_, pss_one (ps_ret (pe_and (pe_callB call_isi (by rfl) M.isi (by decide +kernel) (pa_cons (pv 0) (pa_cons (pe_bltn (v := .ty "int") (by rfl) M.int (by decide +kernel) rfl) pa_nil)))
      (pe_and (pe_not (pe_callB call_isi (by rfl) M.isi (by decide +kernel) (pa_cons (pv 0) (pa_cons (pe_bltn (v := .ty "bool") (by rfl) M.bool (by decide +kernel) rfl) pa_nil))))
        (pe_one (pe_chain op_le op_le (pv 1) (pv 0) (pv 2)))))), ?_⟩
    refine ⟨_, rfl, _, _, _, _, true, rfl, .ty _, .base (.int _), kit_ty (by decide +kernel), true, rfl, iteT ?_⟩
    refine ⟨_, rfl, _, _, _, _, false, rfl, .ty _, .base (.int _), kit_ty (by decide +kernel), false, rfl, _, rfl, iteT ?_⟩
    refine ⟨_, rfl, _, rfl, _, _, rfl, rfl, _, rfl, ?_⟩
    by_cases h1 : lo ≤ i
    · rw [decide_eq_true h1]
      refine iteT ⟨_, rfl, _, _, rfl, rfl, ?_⟩
      rw [decide_eq_true h1, Bool.true_and] at q
      exact q
    · rw [decide_eq_false h1]
      rw [decide_eq_false h1, Bool.false_and] at q
      exact iteF q
def spIx : Sp := fun vs H Q _ => ∃ i n : Int, vs = [.int i, .int n] ∧ Q (.bl (decide (0 ≤ i) && decide (i < n))) H
theorem sc15 : FnScope ["value", "count"] ["value", "count"] (C8.fnScope (st 15)) := C8.fnScope_by (by decide +kernel)
theorem c_ix (M : BI mg) (D : DD K mg "is_index" (st 15) ["value", "count"]) : C8.Cal P w K mg base 1 "is_index" spIx [] := by
  refine calD D sc15 (fun vs H Q E h => ?_) fun f cdv A outer s H vs Q E hr h => ?_
  · obtain ⟨i, hi, rfl, _⟩ := h
    rfl
  · obtain ⟨i, hi, rfl, q⟩ := h
    refine ⟨_, pss_one (ps_ret (pe_and (pe_callB call_isi (by rfl) M.isi (by decide +kernel) (pa_cons (pv 0) (pa_cons (pe_bltn (v := .ty "int") (by rfl) M.int (by decide +kernel) rfl) pa_nil)))
      (pe_and (pe_not (pe_callB call_isi (by rfl) M.isi (by decide +kernel) (pa_cons (pv 0) (pa_cons (pe_bltn (v := .ty "bool") (by rfl) M.bool (by decide +kernel) rfl) pa_nil))))
        (pe_one (pe_chain op_le op_lt pe_int (pv 0) (pv 1)))))), ?_⟩
    refine ⟨_, rfl, _, _, _, _, true, rfl, .ty _, .base (.int _), kit_ty (by decide +kernel), true, rfl, iteT ?_⟩
    refine ⟨_, rfl, _, _, _, _, false, rfl, .ty _, .base (.int _), kit_ty (by decide +kernel), false, rfl, _, rfl, iteT ?_⟩
    refine ⟨_, rfl, _, _, rfl, rfl, _, rfl, ?_⟩
    by_cases h1 : (0 : Int) ≤ i
    · rw [decide_eq_true h1]
      refine iteT ⟨_, rfl, _, _, rfl, rfl, ?_⟩
      rw [decide_eq_true h1, Bool.true_and] at q
      exact q
    · rw [decide_eq_false h1]
      rw [decide_eq_false h1, Bool.false_and] at q
      exact iteF q

/-! ### changed -/
def spChg : Sp := fun vs H Q _ => ∃ (p : Addr) (c : Ctr) (x : Nat), vs = [.ref p, iv x] ∧ H p = some (.tup c.vs) ∧ 1 ≤ c.g ∧ c.g ≤ 5 ∧ c.h ≤ 5 ∧ Q (iv (x / c.g * c.h)) H
theorem sc7 : FnScope ["counter", "amount", "source", "to", "give", "get"] ["counter", "amount"] (C8.fnScope (st 7)) := C8.fnScope_by (by decide +kernel)
theorem c_chg (D : DD K mg "changed" (st 7) ["counter", "amount"]) : C8.Cal P w K mg base 1 "changed" spChg [] := by
  refine calD D sc7 (fun vs H Q E h => ?_) fun f cdv A outer s H vs Q E hr h => ?_
  · obtain ⟨i, hi, _, rfl, _⟩ := h
    rfl
  · obtain ⟨p, c, x, rfl, hp, g1, g5, h5, q⟩ := h
    refine ⟨_, pss_cons (ps_asg (pv 0) (pg_tup rfl (pgs_cons (pg_name (i := 2) sc7.nd rfl (.inl rfl)) (pgs_cons (pg_name (i := 3) sc7.nd rfl (.inl rfl)) (pgs_cons (pg_name (i := 4) sc7.nd rfl (.inl rfl)) (pgs_cons (pg_name (i := 5) sc7.nd rfl (.inl rfl)) pgs_nil))))))
      (pss_one (ps_ret (pe_op op_mul (pe_op op_fdiv (pv 1) (pv 4)) (pv 5)))), ?_⟩
    refine ⟨_, rfl, p, _, rfl, SqT.of hp, rfl, _, _, rfl, _, _, rfl, _, _, rfl, _, _, rfl, rfl, ?_⟩
    refine ⟨_, rfl, _, rfl, _, _, rfl, rfl, ⟨?_, ?_⟩, _, rfl, _, _, rfl, rfl, .inr ⟨?_, ?_⟩, ?_⟩
    · show (0 : Int) < ((c.g : Nat) : Int)
      omega
    · show ((c.g : Nat) : Int) < 1073741824
      omega
    · show -(2 ^ 64) < ((c.h : Nat) : Int)
      omega
    · show ((c.h : Nat) : Int) < 2 ^ 64
      omega
    · have e : V.int (((x : Nat) : Int) / ((c.g : Nat) : Int) * ((c.h : Nat) : Int)) = iv (x / c.g * c.h) := by
        unfold iv
        rw [Int.natCast_mul, Int.natCast_ediv]
      show Q (V.int (((x : Nat) : Int) / ((c.g : Nat) : Int) * ((c.h : Nat) : Int))) H
      rw [e]
      exact q
end
end KW

set_option Elab.async false
set_option linter.all false
set_option maxRecDepth 100000
set_option maxHeartbeats 1000000
/-! KW2: moved, renamed, turn_of, products, gain_bound. -/
namespace KW
open PySem PySem.Spec PyProof.Rows L2 KG

/-! ### what is computed, on the rates -/
def turnL (rs : List (Nat × Nat)) (x : Nat) : Nat := rs.foldl (fun x r => x / r.1 * r.2) x
def pG (rs : List (Nat × Nat)) : Nat := rs.foldl (fun a r => a * r.1) 1
def pH (rs : List (Nat × Nat)) : Nat := rs.foldl (fun a r => a * r.2) 1
def lostL (rs : List (Nat × Nat)) : Nat × Nat := rs.foldl (fun a r => (r.2 * (a.1 + (r.1 - 1) * a.2), a.2 * r.1)) (0, 1)
theorem foldl_take {α β : Type} (f : β → α → β) (b : β) {l : List α} {i : Nat} {a : α} (h : l[i]? = some a) : (l.take (i + 1)).foldl f b = f ((l.take i).foldl f b) a := by
  rw [List.take_add_one, h]
  simp
/-- the loop's rates are small -/
structure LOk (cs : List Ctr) (ls : List Nat) : Prop where
  rts : Rts cs
  ix : Ixs cs ls
  len : ls.length ≤ 4
theorem Rts.get {cs : List Ctr} (h : Rts cs) {i : Nat} (hi : i < cs.length) : 1 ≤ (cs.getD i default).g ∧ (cs.getD i default).g ≤ 5 ∧ 1 ≤ (cs.getD i default).h ∧ (cs.getD i default).h ≤ 5 := by
  have e : cs.getD i default = cs[i] := by simp [List.getD, List.getElem?_eq_getElem hi]
  rw [e]
  exact h _ (List.getElem_mem hi)
def R5 (rs : List (Nat × Nat)) : Prop := ∀ r ∈ rs, 1 ≤ r.1 ∧ r.1 ≤ 5 ∧ 1 ≤ r.2 ∧ r.2 ≤ 5
theorem LOk.r5 {cs : List Ctr} {ls : List Nat} (o : LOk cs ls) : R5 (rates cs ls) := by
  intro r hr
  obtain ⟨i, hi, rfl⟩ := List.mem_map.mp hr
  exact o.rts.get (o.ix i hi)
theorem pH_le {rs : List (Nat × Nat)} (h : R5 rs) : pH rs ≤ 5 ^ rs.length := by
  have key : ∀ (l : List (Nat × Nat)) (a : Nat), R5 l → l.foldl (fun a r => a * r.2) a ≤ a * 5 ^ l.length := by
    intro l
    induction l with
    | nil => intro a _; simp
    | cons r l ih =>
      intro a hl
      have h1 := ih (a * r.2) fun q hq => hl q (List.mem_cons_of_mem _ hq)
      have h2 := (hl r (List.mem_cons_self ..)).2.2.2
      show l.foldl _ (a * r.2) ≤ a * 5 ^ (l.length + 1)
      refine Nat.le_trans h1 ?_
      rw [Nat.pow_succ, Nat.mul_comm (5 ^ l.length) 5, ← Nat.mul_assoc]
      exact Nat.mul_le_mul_right _ (Nat.mul_le_mul_left _ h2)
  have := key rs 1 h
  rw [Nat.one_mul] at this
  exact this
theorem pH_small {cs : List Ctr} {ls : List Nat} (o : LOk cs ls) : pH (rates cs ls) ≤ 625 := by
  refine Nat.le_trans (pH_le o.r5) ?_
  have h2 : (rates cs ls).length ≤ 4 := by
    unfold rates
    rw [List.length_map]
    exact o.len
  calc 5 ^ (rates cs ls).length ≤ 5 ^ 4 := Nat.pow_le_pow_right (by decide) h2
    _ = 625 := by decide
theorem BrdAt.at {H : Hp} {b : Addr} {n : Nat} {cs : List Ctr} (h : BrdAt H b n cs) : ∃ (ca : Addr) (vs : List V), H b = some (.tup [.int (n : Nat), .ref ca]) ∧ H ca = some (.tup vs) ∧ vs.length = cs.length ∧ ∀ i, i < cs.length → ∃ p, vs[i]? = some (.ref p) ∧ H p = some (.tup (cs.getD i default).vs) := by
  obtain ⟨ca, vs, h1, h2, h3, h4⟩ := h
  refine ⟨ca, vs, h1, h2, h3, fun i hi => h4 i _ ?_⟩
  simp [List.getD, List.getElem?_eq_getElem hi]
theorem lp_at {ls : List Nat} {i : Nat} {x : V} (h : (ls.map iv)[i]? = some x) : ∃ j, ls[i]? = some j ∧ x = iv j := by
  rw [List.getElem?_map] at h
  cases e : ls[i]? with
  | none =>
    rw [e] at h
    cases h
  | some j =>
    rw [e] at h
    exact ⟨j, rfl, (Option.some.inj h).symm⟩
theorem rates_at (cs : List Ctr) {ls : List Nat} {i j : Nat} (h : ls[i]? = some j) : (rates cs ls)[i]? = some (rate cs j) := by
  unfold rates
  rw [List.getElem?_map, h]
  rfl
theorem rates_all (cs : List Ctr) (ls : List Nat) : (rates cs ls).take (ls.map iv).length = rates cs ls := List.take_of_length_le (by simp [rates])

section
variable {P : Program} {w : World} {K : PySem.W.Frag} {mg : Str → Option Value} {base : Heap}
/-! ### turn_of -/
def spTurn : Sp := fun vs H Q _ => ∃ (b la : Addr) (n x : Nat) (cs : List Ctr) (ls : List Nat), vs = [.ref b, .ref la, iv x] ∧ BrdAt H b n cs ∧ LpAt H la ls ∧ LOk cs ls ∧ Q (iv (turnL (rates cs ls) x)) H
theorem sc17 : FnScope ["board", "loop", "amount", "index"] ["board", "loop", "amount"] (C8.fnScope (st 17)) := C8.fnScope_by (by decide +kernel)
theorem c_turn (D : DD K mg "turn_of" (st 17) ["board", "loop", "amount"]) (c1 : C8.Cal P w K mg base 1 "changed" spChg []) : C8.Cal P w K mg base 2 "turn_of" spTurn [] := by
  refine calD D sc17 (fun vs H Q E h => ?_) fun f cdv A outer s H vs Q E hr h => ?_
  · obtain ⟨_, _, _, _, _, _, rfl, _⟩ := h
    rfl
  · obtain ⟨b, la, n, x, cs, ls, rfl, hb, hl, o, q⟩ := h
    refine ⟨_, pss_cons (ps_for PassesOwn.never rfl (pi_tup (pv 1)) (pg_name (i := 3) sc17.nd rfl (.inl rfl))
      (pss_one (ps_set (i := 2) sc17.nd rfl (.inl rfl) (C8.pe_c c1 hr (by decide) rfl (pa_cons (pe_ix ix_tup (pe_ix ix_tup (pv 0) pe_int (fun _ _ => rfl)) (pv 3) (fun _ _ => rfl)) (pa_cons (pv 2) pa_nil))))))
      (pss_one (ps_ret (pv 2))), ?_⟩
    obtain ⟨ca, vs, h1, h2, h3, h4⟩ := hb.at
    refine ⟨_, rfl, la, rfl, ⟨_, SqT.of hl⟩, for_tup (K := K) (a := la) (xs := ls.map iv) (fun i σ H' => ∃ y, σ = [some (.ref b), some (.ref la), some (iv (turnL ((rates cs ls).take i) x)), y] ∧ H' = H)
      ⟨none, rfl, rfl⟩ (fun i σ H' _ hP => ?_) (fun i y σ H' hi hP => ?_) fun σ H' hP => ?_⟩
    · obtain ⟨_, _, rfl⟩ := hP
      exact SqT.of hl
    · obtain ⟨y0, rfl, rfl⟩ := hP
      obtain ⟨j, hj, rfl⟩ := lp_at hi
      have hjl : j < cs.length := o.ix j (List.mem_of_getElem? hj)
      obtain ⟨p, v1, v2⟩ := h4 j hjl
      obtain ⟨g1, g5, _, h5⟩ := o.rts.get hjl
      refine ⟨_, rfl, _, _, _, _, rfl, rfl, SqT.of h1, atI_nat (j := 1) rfl, _, rfl, _, _, _, _, rfl, rfl, SqT.of h2, atI_nat v1, _, rfl, ?_⟩
      refine ⟨p, _, _, rfl, v2, g1, g5, h5, some (iv j), ?_, rfl⟩
      have e := foldl_take (fun x (r : Nat × Nat) => x / r.1 * r.2) x (rates_at cs hj)
      show _ = [some (V.ref b), some (V.ref la), some (iv (turnL ((rates cs ls).take (i + 1)) x)), some (iv j)]
      unfold turnL
      rw [e]
      rfl
    · obtain ⟨y0, rfl, rfl⟩ := hP
      rw [rates_all]
      exact ⟨_, rfl, q⟩

/-! ### products -/
def spProd : Sp := fun vs H Q _ => ∃ (b la : Addr) (n : Nat) (cs : List Ctr) (ls : List Nat), vs = [.ref b, .ref la] ∧ BrdAt H b n cs ∧ LpAt H la ls ∧ LOk cs ls ∧ ∀ p H', Gr H H' → H' p = some (.tup [iv (pG (rates cs ls)), iv (pH (rates cs ls))]) → Q (.ref p) H'
theorem sc18 : FnScope ["board", "loop", "give", "get", "index"] ["board", "loop"] (C8.fnScope (st 18)) := C8.fnScope_by (by decide +kernel)
theorem c_prod (D : DD K mg "products" (st 18) ["board", "loop"]) : C8.Cal P w K mg base 1 "products" spProd [] := by
  refine calD D sc18 (fun vs H Q E h => ?_) fun f cdv A outer s H vs Q E hr h => ?_
  · obtain ⟨_, _, _, _, _, rfl, _⟩ := h
    rfl
  · obtain ⟨b, la, n, cs, ls, rfl, hb, hl, o, q⟩ := h
    refine ⟨_, pss_cons (ps_asg (pe_tup (pa_cons pe_int (pa_cons pe_int pa_nil))) (pg_tup rfl (pgs_cons (pg_name (i := 2) sc18.nd rfl (.inl rfl)) (pgs_cons (pg_name (i := 3) sc18.nd rfl (.inl rfl)) pgs_nil))))
      (pss_cons (ps_for PassesOwn.never rfl (pi_tup (pv 1)) (pg_name (i := 4) sc18.nd rfl (.inl rfl))
        (pss_cons (ps_aug (i := 2) sc18.nd rfl (.inl rfl) (pe_ix ix_tup (pe_ix ix_tup (pe_ix ix_tup (pv 0) pe_int (fun _ _ => rfl)) (pv 4) (fun _ _ => rfl)) pe_int (fun _ _ => rfl)) ip_mul)
          (pss_one (ps_aug (i := 3) sc18.nd rfl (.inl rfl) (pe_ix ix_tup (pe_ix ix_tup (pe_ix ix_tup (pv 0) pe_int (fun _ _ => rfl)) (pv 4) (fun _ _ => rfl)) pe_int (fun _ _ => rfl)) ip_mul))))
      (pss_one (ps_ret (pe_tup (pa_cons (pv 2) (pa_cons (pv 3) pa_nil)))))), ?_⟩
    refine ⟨by show 2 ≤ sizeLine; decide, fun t0 ht0 => ?_⟩
    have g1 : Gr H (upd H t0 (.tup [.int 1, .int 1])) := Gr.tup ht0
    have hb := hb.mono (Gr.tk g1)
    have hl := hl.mono (Gr.tk g1)
    obtain ⟨ca, vs, h1, h2, h3, h4⟩ := hb.at
    refine ⟨t0, _, rfl, SqT.of upd_same, rfl, _, _, rfl, _, _, rfl, rfl, ?_⟩
    refine ⟨_, rfl, la, rfl, ⟨_, SqT.of hl⟩, for_tup (K := K) (a := la) (xs := ls.map iv) (fun i σ H' => ∃ y, σ = [some (.ref b), some (.ref la), some (iv (pG ((rates cs ls).take i))), some (iv (pH ((rates cs ls).take i))), y] ∧ H' = (upd H t0 (.tup [.int 1, .int 1])))
      ⟨none, rfl, rfl⟩ (fun i σ H' _ hP => ?_) (fun i y σ H' hi hP => ?_) fun σ H' hP => ?_⟩
    · obtain ⟨_, _, rfl⟩ := hP
      exact SqT.of hl
    · obtain ⟨y0, rfl, rfl⟩ := hP
      obtain ⟨j, hj, rfl⟩ := lp_at hi
      have hjl : j < cs.length := o.ix j (List.mem_of_getElem? hj)
      obtain ⟨p, v1, v2⟩ := h4 j hjl
      obtain ⟨g1, g5, _, h5⟩ := o.rts.get hjl
      refine ⟨_, rfl, _, rfl, _, _, _, _, rfl, rfl, SqT.of h1, atI_nat (j := 1) rfl, _, rfl, _, _, _, _, rfl, rfl, SqT.of h2, atI_nat v1, _, _, _, _, rfl, rfl, SqT.of v2, atI_nat (j := 2) rfl, _, _, rfl, rfl, .inr ⟨?_, ?_⟩, ?_⟩
      · show -(2 ^ 64) < (((cs.getD j default).g : Nat) : Int)
        omega
      · show (((cs.getD j default).g : Nat) : Int) < 2 ^ 64
        omega
      refine ⟨_, rfl, _, rfl, _, _, _, _, rfl, rfl, SqT.of h1, atI_nat (j := 1) rfl, _, rfl, _, _, _, _, rfl, rfl, SqT.of h2, atI_nat v1, _, _, _, _, rfl, rfl, SqT.of v2, atI_nat (j := 3) rfl, _, _, rfl, rfl, .inr ⟨?_, ?_⟩, ?_⟩
      · show -(2 ^ 64) < (((cs.getD j default).h : Nat) : Int)
        omega
      · show (((cs.getD j default).h : Nat) : Int) < 2 ^ 64
        omega
      have e1 := foldl_take (fun a (r : Nat × Nat) => a * r.1) 1 (rates_at cs hj)
      have e2 := foldl_take (fun a (r : Nat × Nat) => a * r.2) 1 (rates_at cs hj)
      refine ⟨some (iv j), ?_, rfl⟩
      show [some (V.ref b), some (V.ref la), some (V.int _), some (V.int _), some (iv j)] = [some (V.ref b), some (V.ref la), some (iv (pG ((rates cs ls).take (i + 1)))), some (iv (pH ((rates cs ls).take (i + 1)))), some (iv j)]
      unfold pG pH
      rw [e1, e2]
      unfold iv
      rw [Int.natCast_mul, Int.natCast_mul]
      rfl
    · obtain ⟨y0, rfl, rfl⟩ := hP
      rw [rates_all]
      refine ⟨_, rfl, _, rfl, by show 2 ≤ sizeLine; decide, fun t ht => q t _ (g1.trans (Gr.tup ht)) upd_same⟩

/-! ### gain_bound -/
def bndL (rs : List (Nat × Nat)) : Nat := (lostL rs).1 / (pH rs - pG rs)
def spGB : Sp := fun vs H Q _ => ∃ (b la : Addr) (n : Nat) (cs : List Ctr) (ls : List Nat), vs = [.ref b, .ref la] ∧ BrdAt H b n cs ∧ LpAt H la ls ∧ LOk cs ls ∧ pG (rates cs ls) < pH (rates cs ls) ∧ ∀ H', Gr H H' → Q (iv (bndL (rates cs ls))) H'
theorem sc19 : FnScope ["board", "loop", "give", "get", "lost", "passed", "index", "counter"] ["board", "loop"] (C8.fnScope (st 19)) := C8.fnScope_by (by decide +kernel)
theorem c_gb (D : DD K mg "gain_bound" (st 19) ["board", "loop"]) (c1 : C8.Cal P w K mg base 1 "products" spProd []) : C8.Cal P w K mg base 2 "gain_bound" spGB [] := by
  refine calD D sc19 (fun vs H Q E h => ?_) fun f cdv A outer s H vs Q E hr h => ?_
  · obtain ⟨_, _, _, _, _, rfl, _⟩ := h
    rfl
  · obtain ⟨b, la, n, cs, ls, rfl, hb, hl, o, hlt, q⟩ := h
    refine ⟨_, pss_cons (ps_asg (C8.pe_c c1 hr (by decide) rfl (pa_cons (pv 0) (pa_cons (pv 1) pa_nil))) (pg_tup rfl (pgs_cons (pg_name (i := 2) sc19.nd rfl (.inl rfl)) (pgs_cons (pg_name (i := 3) sc19.nd rfl (.inl rfl)) pgs_nil))))
      (pss_cons (ps_asg (pe_tup (pa_cons pe_int (pa_cons pe_int pa_nil))) (pg_tup rfl (pgs_cons (pg_name (i := 4) sc19.nd rfl (.inl rfl)) (pgs_cons (pg_name (i := 5) sc19.nd rfl (.inl rfl)) pgs_nil))))
      (pss_cons (ps_for PassesOwn.never rfl (pi_tup (pv 1)) (pg_name (i := 6) sc19.nd rfl (.inl rfl))
        (pss_cons (ps_set (i := 7) sc19.nd rfl (.inl rfl) (pe_ix ix_tup (pe_ix ix_tup (pv 0) pe_int (fun _ _ => rfl)) (pv 6) (fun _ _ => rfl)))
        (pss_cons (ps_set (i := 4) sc19.nd rfl (.inl rfl) (pe_op op_mul (pe_ix ix_tup (pv 7) pe_int (fun _ _ => rfl)) (pe_op op_add (pv 4) (pe_op op_mul (pe_op op_sub (pe_ix ix_tup (pv 7) pe_int (fun _ _ => rfl)) pe_int) (pv 5)))))
          (pss_one (ps_aug (i := 5) sc19.nd rfl (.inl rfl) (pe_ix ix_tup (pv 7) pe_int (fun _ _ => rfl)) ip_mul)))))
      (pss_one (ps_ret (pe_op op_fdiv (pv 4) (pe_op op_sub (pv 3) (pv 2))))))), ?_⟩
    refine ⟨_, rfl, _, rfl, b, la, n, cs, ls, rfl, hb, hl, o, fun p H1 g1 hp => ?_⟩
    refine ⟨p, _, rfl, SqT.of hp, rfl, _, _, rfl, _, _, rfl, rfl, ?_⟩
    refine ⟨by show 2 ≤ sizeLine; decide, fun t0 ht0 => ?_⟩
    have g1 : Gr H (upd H1 t0 (.tup [.int 0, .int 1])) := g1.trans (Gr.tup ht0)
    refine ⟨t0, _, rfl, SqT.of upd_same, rfl, _, _, rfl, _, _, rfl, rfl, ?_⟩
    generalize upd H1 t0 (.tup [.int 0, .int 1]) = H1 at g1 ⊢
    have hb1 := hb.mono (Gr.tk g1)
    have hl1 := hl.mono (Gr.tk g1)
    obtain ⟨ca, vs, h1, h2, h3, h4⟩ := hb1.at
    refine ⟨_, rfl, la, rfl, ⟨_, SqT.of hl1⟩, for_tup (K := K) (a := la) (xs := ls.map iv) (fun i σ H' => ∃ y z, σ = [some (.ref b), some (.ref la), some (iv (pG (rates cs ls))), some (iv (pH (rates cs ls))), some (iv (lostL ((rates cs ls).take i)).1), some (iv (lostL ((rates cs ls).take i)).2), y, z] ∧ H' = H1)
      ⟨none, none, rfl, rfl⟩ (fun i σ H' _ hP => ?_) (fun i y σ H' hi hP => ?_) fun σ H' hP => ?_⟩
    · obtain ⟨_, _, _, rfl⟩ := hP
      exact SqT.of hl1
    · obtain ⟨y0, z0, rfl, rfl⟩ := hP
      obtain ⟨j, hj, rfl⟩ := lp_at hi
      have hjl : j < cs.length := o.ix j (List.mem_of_getElem? hj)
      obtain ⟨p, v1, v2⟩ := h4 j hjl
      obtain ⟨g1', g5, h1', h5⟩ := o.rts.get hjl
      refine ⟨_, rfl, _, _, _, _, rfl, rfl, SqT.of h1, atI_nat (j := 1) rfl, _, rfl, _, _, _, _, rfl, rfl, SqT.of h2, atI_nat v1, ?_⟩
      refine ⟨_, rfl, _, _, _, _, rfl, rfl, SqT.of v2, atI_nat (j := 3) rfl, _, rfl, _, rfl, _, _, _, _, rfl, rfl, SqT.of v2, atI_nat (j := 2) rfl, _, _, rfl, rfl, _, rfl, _, _, rfl, rfl, .inl ⟨?_, ?_⟩, _, _, rfl, rfl, _, _, rfl, rfl, .inl ⟨?_, ?_⟩, ?_⟩
      · show -(2 ^ 64) < (((cs.getD j default).g : Nat) : Int) - 1
        omega
      · show (((cs.getD j default).g : Nat) : Int) - 1 < 2 ^ 64
        omega
      · show -(2 ^ 64) < (((cs.getD j default).h : Nat) : Int)
        omega
      · show (((cs.getD j default).h : Nat) : Int) < 2 ^ 64
        omega
      refine ⟨_, rfl, _, rfl, _, _, _, _, rfl, rfl, SqT.of v2, atI_nat (j := 2) rfl, _, _, rfl, rfl, .inr ⟨?_, ?_⟩, ?_⟩
      · show -(2 ^ 64) < (((cs.getD j default).g : Nat) : Int)
        omega
      · show (((cs.getD j default).g : Nat) : Int) < 2 ^ 64
        omega
      have e1 := foldl_take (fun a (r : Nat × Nat) => (r.2 * (a.1 + (r.1 - 1) * a.2), a.2 * r.1)) (0, 1) (rates_at cs hj)
      refine ⟨some (iv j), some (.ref p), ?_, rfl⟩
      show [_, _, _, _, some (V.int ((((cs.getD j default).h : Nat) : Int) * (((lostL ((rates cs ls).take i)).1 : Nat) + ((((cs.getD j default).g : Nat) : Int) - 1) * ((lostL ((rates cs ls).take i)).2 : Nat)))), some (V.int (((lostL ((rates cs ls).take i)).2 : Nat) * (((cs.getD j default).g : Nat) : Int))), _, _] = _
      unfold lostL
      rw [e1]
      show _ = [some (V.ref b), some (V.ref la), _, _, some (iv ((cs.getD j default).h * (_ + ((cs.getD j default).g - 1) * _))), some (iv (_ * (cs.getD j default).g)), _, _]
      unfold iv
      rw [Int.natCast_mul, Int.natCast_mul, Int.natCast_add, Int.natCast_mul, Int.natCast_sub g1']
      rfl
    · obtain ⟨y0, z0, rfl, rfl⟩ := hP
      rw [rates_all]
      have hs := pH_small o
      refine ⟨_, rfl, _, rfl, _, rfl, _, _, rfl, rfl, _, _, rfl, rfl, ⟨?_, ?_⟩, ?_⟩
      · show (0 : Int) < ((pH (rates cs ls) : Nat) : Int) - ((pG (rates cs ls) : Nat) : Int)
        omega
      · show ((pH (rates cs ls) : Nat) : Int) - ((pG (rates cs ls) : Nat) : Int) < 1073741824
        omega
      have e : V.int ((((lostL (rates cs ls)).1 : Nat) : Int) / (((pH (rates cs ls) : Nat) : Int) - ((pG (rates cs ls) : Nat) : Int))) = iv (bndL (rates cs ls)) := by
        unfold iv bndL
        rw [Int.natCast_ediv, Int.natCast_sub (Nat.le_of_lt hlt)]
      show Q (V.int ((((lostL (rates cs ls)).1 : Nat) : Int) / (((pH (rates cs ls) : Nat) : Int) - ((pG (rates cs ls) : Nat) : Int)))) _
      rw [e]
      exact q _ g1
end
end KW

set_option Elab.async false
set_option linter.all false
set_option maxRecDepth 100000
set_option maxHeartbeats 1000000
/-! KW3: moved, renamed, is_loop. -/
namespace KW
open PySem PySem.Spec PyProof.Rows L2 KG

def ren (ns : List Nat) (c : Ctr) : Ctr := { c with s := ns.getD c.s 0, t := ns.getD c.t 0 }
theorem at_getD {ns : List Nat} {i : Nat} (h : i < ns.length) : (ns.map iv)[i]? = some (iv (ns.getD i 0)) := by
  rw [List.getElem?_map, List.getElem?_eq_getElem h, List.getD_eq_getElem?_getD, List.getElem?_eq_getElem h]
  rfl
section
variable {P : Program} {w : World} {K : PySem.W.Frag} {mg : Str → Option Value} {base : Heap}
/-! ### moved, renamed -/
def spMov : Sp := fun vs H Q _ => ∃ (p na : Addr) (c : Ctr) (ns : List Nat), vs = [.ref p, .ref na] ∧ H p = some (.tup c.vs) ∧ H na = some (.tup (ns.map iv)) ∧ c.s < ns.length ∧ c.t < ns.length ∧
  ∀ p' H', Gr H H' → H' p' = some (.tup (ren ns c).vs) → Q (.ref p') H'
theorem sc8 : FnScope ["counter", "names", "source", "to", "rates"] ["counter", "names"] (C8.fnScope (st 8)) := C8.fnScope_by (by decide +kernel)
theorem c_mov (D : DD K mg "moved" (st 8) ["counter", "names"]) : C8.Cal P w K mg base 1 "moved" spMov [] := by
  refine calD D sc8 (fun vs H Q E h => ?_) fun f cdv A outer s H vs Q E hr h => ?_
  · obtain ⟨_, _, _, _, rfl, _⟩ := h
    rfl
  · obtain ⟨p, na, c, ns, rfl, hp, hn, hs, ht, q⟩ := h
    refine ⟨_, pss_cons (ps_asg (pv 0) (pg_star rfl (pgs_cons (pg_name (i := 2) sc8.nd rfl (.inl rfl)) (pgs_cons (pg_name (i := 3) sc8.nd rfl (.inl rfl)) (pgs_star (pg_name (i := 4) sc8.nd rfl (.inl rfl)) pgs_nil)))))
      (pss_one (ps_ret (pe_tup (pa_cons (pe_ix ix_tup (pv 1) (pv 2) (fun _ _ => rfl)) (pa_cons (pe_ix ix_tup (pv 1) (pv 3) (fun _ _ => rfl)) (StX.pa_star (pv 4) pa_nil)))))), ?_⟩
    refine ⟨_, rfl, p, _, rfl, SqT.of hp, by show 2 ≤ 4; decide, by show 4 ≤ 16384; decide, fun D hD => ?_⟩
    have g1 : Gr H (upd H D (.lst (c.vs.drop 2))) := Gr.lst hD
    refine ⟨_, _, rfl, _, _, rfl, _, _, rfl, rfl, ?_⟩
    refine ⟨_, rfl, _, rfl, _, _, _, _, rfl, rfl, SqT.of (g1.ex _ _ hn), atI_nat (at_getD hs), _, rfl, _, rfl, _, _, _, _, rfl, rfl, SqT.of (g1.ex _ _ hn), atI_nat (at_getD ht), _, rfl, D, _, rfl, .inr (SqL.of upd_same), ?_⟩
    refine ⟨by show 4 ≤ sizeLine; decide, fun p' hp' => q p' _ (g1.trans (Gr.tup hp')) upd_same⟩
def spRen : Sp := fun vs H Q _ => ∃ (b na : Addr) (n : Nat) (cs : List Ctr) (ns : List Nat), vs = [.ref b, .ref na] ∧ BrdAt H b n cs ∧ H na = some (.tup (ns.map iv)) ∧ (∀ c ∈ cs, c.s < ns.length ∧ c.t < ns.length) ∧ cs.length ≤ 100 ∧
  ∀ b' H', Gr H H' → BrdAt H' b' n (cs.map (ren ns)) → Q (.ref b') H'
theorem sc9 : FnScope ["board", "names", "kinds", "counters", "counter"] ["board", "names"] (C8.fnScope (st 9)) := C8.fnScope_by (by decide +kernel)
theorem c_ren (M : BI mg) (D : DD K mg "renamed" (st 9) ["board", "names"]) (c1 : C8.Cal P w K mg base 1 "moved" spMov []) : C8.Cal P w K mg base 2 "renamed" spRen [] := by
  refine calD D sc9 (fun vs H Q E h => ?_) fun f cdv A outer s H vs Q E hr h => ?_
  · obtain ⟨_, _, _, _, _, rfl, _⟩ := h
    rfl
  · obtain ⟨b, na, n, cs, ns, rfl, hb, hn, hc, hz, q⟩ := h
    refine ⟨_, pss_cons (ps_asg (pv 0) (pg_tup rfl (pgs_cons (pg_name (i := 2) sc9.nd rfl (.inl rfl)) (pgs_cons (pg_name (i := 3) sc9.nd rfl (.inl rfl)) pgs_nil))))
      (pss_one (ps_ret (pe_tup (pa_cons (pv 2) (pa_cons (pe_callTy call_tuple_of (by rfl) M.tuple (by decide +kernel)
        (pa_cons (pe_lc (own := [("counter", 4)]) (g := gName 4) (tt := tYes) rfl sc9.nd (pi_tup (pv 3)) (blkOk_by (N := ["board", "names", "kinds", "counters", "counter"]) (sc := C8.fnScope (st 9)) (by decide +kernel))
          (fun _ _ _ _ _ => pg_name (i := 4) sc9.nd rfl (Or.inl rfl)) (fun _ _ _ _ _ => pts_nil) (fun _ _ _ _ _ => C8.pe_c c1 hr (by decide) rfl (pa_cons (pv 4) (pa_cons (pv 1) pa_nil)))) pa_nil)) pa_nil))))), ?_⟩
    obtain ⟨ca, vs, h1, h2, h3, h4⟩ := hb
    refine ⟨_, rfl, b, _, rfl, SqT.of h1, rfl, _, _, rfl, _, _, rfl, rfl, ?_⟩
    refine ⟨_, rfl, _, rfl, ca, rfl, ⟨_, SqT.of h2⟩, fun L hL => ?_⟩
    refine lc_tupG (K := K) (xs := vs) (fun H' i y => ∃ p c, cs[i]? = some c ∧ y = .ref p ∧ H' p = some (.tup (ren ns c).vs)) h2 hL (by rw [h3, sizeLine_eq]; omega) (fun H1 H2 i y tk r => ?_) (fun i x H1 Kq Nq hi g1 kq => ?_) fun ys H1 hlen g1 hL1 hR => ?_
    · obtain ⟨p, c, r1, r2, r3⟩ := r
      exact ⟨p, c, r1, r2, tk _ _ r3⟩
    · have hlt : i < cs.length := by
        have := (List.getElem?_eq_some_iff.mp hi).1
        omega
      obtain ⟨p, v1, v2⟩ := h4 i cs[i] (List.getElem?_eq_getElem hlt)
      rw [hi] at v1
      have ex := Option.some.inj v1
      subst ex
      obtain ⟨m1, m2⟩ := hc cs[i] (List.getElem_mem hlt)
      refine ⟨rfl, ?_⟩
      refine iteT (B := Nq H1) ?_
      refine ⟨_, rfl, _, rfl, p, na, cs[i], ns, rfl, g1.ex _ _ v2, g1.ex _ _ hn, m1, m2, fun p' H' g2 hp' => ?_⟩
      exact kq _ _ g2 ⟨p', cs[i], List.getElem?_eq_getElem hlt, rfl, hp'⟩
    · refine ⟨L, ys, rfl, .inl ⟨SqL.of hL1, fun ta hta => ⟨by show 2 ≤ sizeLine; decide, fun b' hb' => ?_⟩⟩⟩
      have g2 := (g1.trans (Gr.tup (xs := ys) hta)).trans (Gr.tup (xs := [V.int (n : Nat), .ref ta]) hb')
      have ne : ta ≠ b' := fun z => by
        rw [← z, upd_same] at hb'
        cases hb'
      have g3 := (Gr.tup (xs := ys) hta).trans (Gr.tup (xs := [V.int (n : Nat), .ref ta]) hb')
      refine q b' _ g2 ⟨ta, ys, upd_same, by rw [upd_ne ne]; exact upd_same, by rw [hlen, h3, List.length_map], fun i c hc' => ?_⟩
      have hi : i < ys.length := by
        have := (List.getElem?_eq_some_iff.mp hc').1
        rw [List.length_map] at this
        omega
      obtain ⟨p, c0, r1, r2, r3⟩ := hR i ys[i] (List.getElem?_eq_getElem hi)
      rw [List.getElem?_map, r1] at hc'
      have ec : ren ns c0 = c := Option.some.inj hc'
      subst ec
      exact ⟨p, by rw [List.getElem?_eq_getElem hi, r2], g3.ex _ _ r3⟩

/-! ### is_loop -/
/-- the next one round -/
def nxt (ls : List Nat) : List Nat := ls.drop 1 ++ ls.take 1
def Closed (cs : List Ctr) (ls : List Nat) : Prop := ∀ (i j k : Nat), ls[i]? = some j → (nxt ls)[i]? = some k → (cs.getD j default).t = (cs.getD k default).s
def spLoop : Sp := fun vs H Q _ => ∃ (b la : Addr) (n : Nat) (cs : List Ctr) (ls : List Nat), vs = [.ref b, .ref la] ∧ BrdAt H b n cs ∧ LpAt H la ls ∧ Ixs cs ls ∧ ls ≠ [] ∧ ls.length ≤ 4 ∧ Closed cs ls ∧ ∀ H', Gr H H' → Q (.bl true) H'
theorem sc16 : FnScope ["board", "value", "kinds", "counters", "index", "one", "other"] ["board", "value"] (C8.fnScope (st 16)) := C8.fnScope_by (by decide +kernel)
theorem BI.ml (M : BI mg) : ∃ u, mg "MAX_LOOP" = some u ∧ RelV (.int 4) u := by
  obtain ⟨t, e⟩ := M.mloop
  exact ⟨_, e, t, rfl⟩
theorem trues {ys : List V} (h : ∀ (i : Nat) (y : V), ys[i]? = some y → y = V.bl true) : ys = (List.replicate ys.length true).map V.bl := by
  refine List.ext_getElem? fun i => ?_
  rw [List.getElem?_map]
  by_cases hi : i < ys.length
  · rw [List.getElem?_eq_getElem hi, h i _ (List.getElem?_eq_getElem hi), List.getElem?_eq_getElem (by simpa using hi)]
    simp
  · rw [List.getElem?_eq_none (by omega), List.getElem?_eq_none (by simp; omega)]
    rfl
theorem all_trues (n : Nat) : (List.replicate n true).all id = true := by
  induction n with
  | zero => rfl
  | succ n ih => rw [List.replicate_succ, List.all_cons, ih]; rfl
theorem cut1 (xs : List V) (h : xs ≠ []) : cutV xs (some 1) none = xs.drop 1 := by
  unfold cutV
  rw [show HT.sIx xs.length 0 (some 1) = min 1 xs.length from HT.sIx_nat xs.length 0 1, HT.sIx_none]
  cases xs with
  | nil => exact absurd rfl h
  | cons x r =>
    rw [show min 1 (x :: r).length = 1 by
      rw [List.length_cons]
      omega]
    show (List.take ((x :: r).length - 1) r) = r
    rw [List.length_cons, Nat.add_sub_cancel]
    exact List.take_length
theorem c_loop (M : BI mg) (D : DD K mg "is_loop" (st 16) ["board", "value"]) (c1 : C8.Cal P w K mg base 1 "is_index" spIx []) : C8.Cal P w K mg base 2 "is_loop" spLoop [] := by
  refine calD D sc16 (fun vs H Q E h => ?_) fun f cdv A outer s H vs Q E hr h => ?_
  · obtain ⟨_, _, _, _, _, rfl, _⟩ := h
    rfl
  · obtain ⟨b, la, n, cs, ls, rfl, hb, hl, hix, hne, hlen, hcl, q⟩ := h
    refine ⟨_, pss_cons (ps_asg (pv 0) (pg_tup rfl (pgs_cons (pg_name (i := 2) sc16.nd rfl (.inl rfl)) (pgs_cons (pg_name (i := 3) sc16.nd rfl (.inr rfl)) pgs_nil))))
      (pss_cons (ps_if (PW.pt (pw_or (pt_not (pt_val (pe_callB call_isi (by rfl) M.isi (by decide +kernel) (pa_cons (pv 1) (pa_cons (pe_bltn (v := .ty "tuple") (by rfl) M.tuple (by decide +kernel) rfl) pa_nil)))))
          (pw_or1 (pt_not (pt_chain op_le op_le pe_int (pe_callB call_len_seq (by rfl) M.len PySem.boot_len (pa_cons (pv 1) pa_nil)) (C8.pe_gc (v := .int 4) (by rfl) M.ml)))))) (pss_one (ps_ret pe_bl)) pss_nil)
      (pss_cons (ps_if (pt_not (pt_val (pe_callB (cr_all rfl) (by rfl) M.all (by decide +kernel) (pa_cons
          (pe_lc (own := [("index", 4)]) (g := gName 4) (tt := tYes) rfl sc16.nd (pi_tup (pv 1)) (blkOk_by (N := ["board", "value", "kinds", "counters", "index", "one", "other"]) (sc := C8.fnScope (st 16)) (by decide +kernel))
            (fun _ _ _ _ _ => pg_name (i := 4) sc16.nd rfl (Or.inl rfl)) (fun _ _ _ _ _ => pts_nil) (fun _ _ _ _ _ => C8.pe_c c1 hr (by decide) rfl (pa_cons (pv 4) (pa_cons (pe_callB (lenK K) (by rfl) M.len PySem.boot_len (pa_cons (pv 3) pa_nil)) pa_nil)))) pa_nil))))
          (pss_one (ps_ret pe_bl)) pss_nil)
      (pss_one (ps_ret (pe_callB (cr_all rfl) (by rfl) M.all (by decide +kernel) (pa_cons
          (pe_lc (own := [("one", 5), ("other", 6)]) (g := gTup K 2 (gCons (gName 5) (gCons (gName 6) gNil))) (tt := tYes) rfl sc16.nd (RZ.pi_zipA (by rfl) M.zip (pa_cons (pv 1) (pa_cons (pe_tup (StX.pa_star (pe_slice sl_tup (pv 1) (po_some pe_int) po_none) (pa_cons (pe_ix ix_tup (pv 1) pe_int (fun _ _ => rfl)) pa_nil))) pa_nil)))
            (blkOk_by (N := ["board", "value", "kinds", "counters", "index", "one", "other"]) (sc := C8.fnScope (st 16)) (by decide +kernel))
            (fun _ _ _ _ _ => pg_tup rfl (pgs_cons (pg_name (i := 5) sc16.nd rfl (Or.inl rfl)) (pgs_cons (pg_name (i := 6) sc16.nd rfl (Or.inl rfl)) pgs_nil))) (fun _ _ _ _ _ => pts_nil)
            (fun _ _ _ _ _ => pe_cmpR op_eq (pe_ix (ixT K) (pe_ix (ixT K) (pv 3) (pv 5) (fun _ _ => rfl)) pe_int (fun _ _ => rfl)) (pe_ix (ixT K) (pe_ix (ixT K) (pv 3) (pv 6) (fun _ _ => rfl)) pe_int (fun _ _ => rfl)) (nomark _))) pa_nil)))))), ?_⟩
    obtain ⟨ca, vs, h1, h2, h3, h4⟩ := hb.at
    obtain ⟨l0, lr, rfl⟩ : ∃ l0 lr, ls = l0 :: lr := by
      cases ls with
      | nil => exact absurd rfl hne
      | cons a r => exact ⟨a, r, rfl⟩
    have hlen2 : ((l0 :: lr).map iv).length = lr.length + 1 := by simp
    have hlen3 : lr.length + 1 ≤ 4 := hlen
    refine ⟨_, rfl, b, _, rfl, SqT.of h1, rfl, _, _, rfl, _, _, rfl, rfl, ?_⟩
    -- the form
    refine ⟨_, rfl, _, _, _, _, true, rfl, .ty _, .base (.tup hl), kit_ty (by decide +kernel), true, rfl, iteF ?_⟩
    refine ⟨_, rfl, la, _, rfl, .inr (SqT.of hl), _, _, rfl, rfl, true, ?_, iteT ⟨_, _, rfl, rfl, true, ?_, iteF ?_⟩⟩
    · have : decide ((1 : Int) ≤ (((l0 :: lr).map iv).length : Nat)) = true := decide_eq_true (by rw [hlen2]; omega)
      exact congrArg V.bl this
    · have : decide (((((l0 :: lr).map iv).length : Nat) : Int) ≤ 4) = true := decide_eq_true (by rw [hlen2]; omega)
      exact congrArg V.bl this
    -- the indexes
    refine ⟨_, rfl, la, rfl, ⟨_, SqT.of hl⟩, fun L hL => ?_⟩
    refine lc_tupG (K := K) (xs := (l0 :: lr).map iv) (fun _ _ y => y = .bl true) hl hL (by rw [hlen2, sizeLine_eq]; omega) (fun _ _ _ _ _ r => r) (fun i x H1 Kq Nq hi g1 kq => ?_) fun ys H1 hyl g1 hL1 hR => ?_
    · obtain ⟨j, hj, rfl⟩ := lp_at hi
      have hjl : j < cs.length := hix j (List.mem_of_getElem? hj)
      refine ⟨rfl, ?_⟩
      refine iteT (B := Nq H1) ?_
      refine ⟨_, rfl, _, rfl, ca, _, rfl, .inr (SqT.of (g1.ex _ _ h2)), _, _, rfl, kq _ _ (Gr.refl _) ?_⟩
      rw [decide_eq_true (show (0 : Int) ≤ ((j : Nat) : Int) by omega), decide_eq_true (show ((j : Nat) : Int) < ((vs.length : Nat) : Int) by rw [h3]; omega)]
      rfl
    refine ⟨L, _, rfl, SqL.of (by rw [hL1, trues hR]), true, ?_, iteF ?_⟩
    · exact congrArg V.bl (all_trues _)
    -- the ring
    have hl1 := hl.mono (Gr.tk g1)
    have h21 := g1.ex _ _ h2
    have hc1 : cutV ((l0 :: lr).map iv) (some 1) none = lr.map iv := cut1 _ (by simp)
    refine ⟨_, rfl, _, rfl, _, rfl, la, _, rfl, SqT.of hl1, ?_, fun c hc => ?_⟩
    · rw [show HT.sIx ((l0 :: lr).map iv).length 0 (some 1) = min 1 ((l0 :: lr).map iv).length from HT.sIx_nat _ 0 1, hlen2]
      intro z
      have := z.1
      omega
    rw [hc1]
    have g2 := g1.trans (Gr.tup (xs := lr.map iv) hc)
    refine ⟨c, _, rfl, .inl (SqT.of upd_same), _, rfl, la, _, 0, iv l0, rfl, rfl, SqT.of (hl.mono (Gr.tk g2)), atI_nat (j := 0) rfl, ?_⟩
    refine ⟨by
      rw [List.length_append, List.length_map, sizeLine_eq]
      show lr.length + 1 ≤ _
      omega, fun z hz => ?_⟩
    have g3 := g2.trans (Gr.tup (xs := lr.map iv ++ [iv l0]) hz)
    have hl3 := hl.mono (Gr.tk g3)
    refine ⟨la, z, _, _, rfl, .inr ⟨SqT.of hl3, SqT.of upd_same, fun L2 hL2 => ?_⟩⟩
    refine lc_zipG (K := K) (xs := (l0 :: lr).map iv) (zs := lr.map iv ++ [iv l0]) (fun _ _ y => y = .bl true) hl3 upd_same (by simp) hL2 (by rw [hlen2, sizeLine_eq]; omega) (fun _ _ _ _ _ r => r) (fun i x y T H2 Kq Nq hx hy hT g4 kq => ?_) fun ys2 H2 hyl2 g4 hL3 hR2 => ?_
    · obtain ⟨j, hj, rfl⟩ := lp_at hx
      have hy2 : ((lr ++ [l0]).map iv)[i]? = some y := by
        rw [List.map_append]
        exact hy
      obtain ⟨k, hk, rfl⟩ := lp_at hy2
      have hjl : j < cs.length := hix j (List.mem_of_getElem? hj)
      have hkl : k < cs.length := hix k (by
        have := List.mem_of_getElem? hk
        simp at this
        simp
        exact this.symm)
      obtain ⟨pj, vj1, vj2⟩ := h4 j hjl
      obtain ⟨pk, vk1, vk2⟩ := h4 k hkl
      have gg := g3.trans g4
      refine ⟨T, _, rfl, SqT.of hT, rfl, _, _, rfl, _, _, rfl, rfl, rfl, ?_⟩
      refine iteT (B := Nq H2) ?_
      refine ⟨_, rfl, _, rfl, _, _, _, _, rfl, rfl, SqT.of (gg.ex _ _ h2), atI_nat vj1, _, _, _, _, rfl, rfl, SqT.of (gg.ex _ _ vj2), atI_nat (j := 1) rfl, ?_⟩
      refine ⟨_, rfl, _, rfl, _, _, _, _, rfl, rfl, SqT.of (gg.ex _ _ h2), atI_nat vk1, _, _, _, _, rfl, rfl, SqT.of (gg.ex _ _ vk2), atI_nat (j := 0) rfl, rfl, kq _ _ (Gr.refl _) ?_⟩
      have e := hcl i j k hj hk
      refine congrArg V.bl (decide_eq_true ?_)
      show V.int (((cs.getD j default).t : Nat) : Int) = V.int (((cs.getD k default).s : Nat) : Int)
      rw [e]
    · refine ⟨L2, _, rfl, SqL.of (by rw [hL3, trues hR2]), ?_⟩
      rw [all_trues]
      exact q _ (g3.trans g4)
end
end KW

set_option Elab.async false
set_option linter.all false
set_option maxRecDepth 100000
set_option maxHeartbeats 1000000
/-! KW4: fixed_amounts, greatest_fixed, growth_start, fate_of. -/
namespace KW
open PySem PySem.Spec PyProof.Rows L2 KG

def fixL (rs : List (Nat × Nat)) (m : Nat) : List Nat := (List.range (m + 1)).filter fun x => turnL rs x == x
def lim (rs : List (Nat × Nat)) : Nat := min (pG rs) (bndL rs + 1)
def gStep (rs : List (Nat × Nat)) (a r : Nat) : Nat := if turnL rs r ≤ r then max a (r + pG rs * ((r - turnL rs r) / (pH rs - pG rs))) else a
def growL (rs : List (Nat × Nat)) : Option Nat := if pH rs ≤ pG rs then none else some ((List.range (lim rs)).foldl (gStep rs) 0 + 1)
def tStep (rs : List (Nat × Nat)) (a r : Nat) : Nat := if turnL rs r ≤ r ∧ (r - turnL rs r) % (pH rs - pG rs) = 0 then max a (r + pG rs * ((r - turnL rs r) / (pH rs - pG rs))) else a
def topL (rs : List (Nat × Nat)) : Option Nat := if pG rs = pH rs then none else if pH rs < pG rs then some 0 else some ((List.range (lim rs)).foldl (tStep rs) 0)
def oV : Option Nat → V
  | none => .non
  | some n => iv n
def iter (rs : List (Nat × Nat)) : Nat → Nat → Nat
  | 0, x => x
  | k + 1, x => turnL rs (iter rs k x)
open Classical in
noncomputable def limL (rs : List (Nat × Nat)) (x : Nat) : Nat := if h : ∃ k, turnL rs (iter rs k x) = iter rs k x then iter rs (Classical.choose h) x else x
theorem iter_add (rs : List (Nat × Nat)) (j k x : Nat) : iter rs (j + k) x = iter rs j (iter rs k x) := by
  induction j with
  | zero => rw [Nat.zero_add]; rfl
  | succ j ih =>
    rw [Nat.succ_add]
    show turnL rs (iter rs (j + k) x) = turnL rs (iter rs j (iter rs k x))
    rw [ih]
theorem iter_fix {rs : List (Nat × Nat)} {y : Nat} (h : turnL rs y = y) (j : Nat) : iter rs j y = y := by
  induction j with
  | zero => rfl
  | succ j ih =>
    show turnL rs (iter rs j y) = y
    rw [ih]
    exact h
theorem iter_eq {rs : List (Nat × Nat)} {x j k : Nat} (hj : turnL rs (iter rs j x) = iter rs j x) (hk : turnL rs (iter rs k x) = iter rs k x) : iter rs j x = iter rs k x := by
  have h1 := iter_add rs k j x
  have h2 := iter_add rs j k x
  rw [iter_fix hj] at h1
  rw [iter_fix hk] at h2
  rw [← h1, ← h2, Nat.add_comm]
theorem limL_eq {rs : List (Nat × Nat)} {x k : Nat} (hk : turnL rs (iter rs k x) = iter rs k x) : limL rs x = iter rs k x := by
  have h : ∃ k, turnL rs (iter rs k x) = iter rs k x := ⟨k, hk⟩
  unfold limL
  rw [dif_pos h]
  exact iter_eq (Classical.choose_spec h) hk
def cSTAYS : Str := "stays"
def cFALLS : Str := "falls"
def cRISES : Str := "rises"
def cGROWS : Str := "grows"
abbrev Fate := Str × Option Nat
open Classical in
noncomputable def fateL (rs : List (Nat × Nat)) (x : Nat) : Fate :=
  if turnL rs x = x then (cSTAYS, some x) else if ∃ s, growL rs = some s ∧ s ≤ x then (cGROWS, none) else (if x < turnL rs x then cRISES else cFALLS, some (limL rs x))
def fateVs : Fate → List V
  | (w, none) => [.str w]
  | (w, some y) => [.str w, iv y]
/-- every amount below the growth's start comes to rest -/
def Rests : Prop := ∀ rs x, R5 rs → (∀ s, growL rs = some s → x < s) → ∃ k, turnL rs (iter rs k x) = iter rs k x

theorem hs_yieldN {X : Cx} {W : Wd} {n : Nat} {Pf : List V → Prop} {G0 : Hp} {e : Expr} {te : TE} {yp pos : Pos} (hn : W.N = n) (hp : W.Pfx = Pf) (hg : W.G0 = G0) (hy : YOk X W) (he : ∀ s0 H0, PE (cxAt X s0 H0) e te) (hco : X.env.scope.isCoroutine = false := by rfl) (hin : interactive X.env = false := by rfl) : HS X W (.Expr (.Yield (some e) yp) pos) (tHYield n Pf G0 te) := by
  subst hn hp hg
  exact hs_yield hy he hco hin

section
variable {P : Program} {w : World} {K : PySem.W.Frag} {mg : Str → Option Value} {base : Heap}
/-! ### fixed_amounts -/
def spFix : SpF := fun vs G0 xs => ∃ (b la : Addr) (n m : Nat) (cs : List Ctr) (ls : List Nat), vs = [.ref b, .ref la, iv m] ∧ BrdAt G0 b n cs ∧ LpAt G0 la ls ∧ LOk cs ls ∧ m ≤ 1000 ∧ xs = (fixL (rates cs ls) m).map iv
theorem sc20 : GScope ["board", "loop", "most", "amount"] ["board", "loop", "most"] (C8.fnScope (st 20)) :=
  ⟨rfl, rfl, rfl, by decide +kernel, rfl, by decide +kernel, by decide +kernel⟩
theorem range_filter_lt {p : Nat → Bool} {i m : Nat} (hi : i < m) (hp : p i = true) : ((List.range i).filter p ++ [i]) <+: (List.range m).filter p := by
  have e : (List.range (i + 1)).filter p = (List.range i).filter p ++ [i] := by
    rw [List.range_succ, List.filter_append]
    simp [hp]
  rw [← e]
  have h2 : List.range (i + 1) <+: List.range m := by
    refine ⟨(List.range (m - (i + 1))).map (fun x => i + 1 + x), ?_⟩
    rw [← List.range_add]
    congr 1
    omega
  exact h2.filter p
theorem c_fix (M : BI mg) (D : DD K mg "fixed_amounts" (st 20) ["board", "loop", "most"]) (c1 : C8.Cal P w K mg base 2 "turn_of" spTurn []) : GDef P w K mg base 2 "fixed_amounts" spFix := by
  obtain ⟨f, fd, d, bd⟩ := D.ex
  obtain ⟨oc, od, dV, kV, doc, pm, an, cdv, ct, osl, rfl, lk, hcd⟩ := d.fn.ex
  refine ⟨f, ["board", "loop", "most", "amount"], _, _, _, _, dV, kV, doc, pm, cdv, ct, oc, an, od, osl, lk, hcd, sc20, ?_, d.mgf, d.kp, bd, ?_, ?_⟩
  · intro n y
    have e : cellsFrom n (C8.fnScope (st 20)).names [] = [] := rfl
    rw [e]
    rfl
  · rintro vs G0 xs ⟨_, _, _, _, _, _, rfl, _⟩
    rfl
  · intro A outer s H E pn vs G0 xs hr h
    obtain ⟨b, la, n, m, cs, ls, rfl, hb, hl, o, hm, rfl⟩ := h
    have gb : ∀ (Y : Protocol) (N : Nat) (F : List V → Shared → Shared → Hp → List (Addr × Obj) → Prop) (Pf : List V → Prop) (G : Hp), Pf = (fun zs => zs <+: (fixL (rates cs ls) m).map iv) → G = G0 → YOk (gcxOf P w K mg base ["board", "loop", "most", "amount"] "fixed_amounts" (C8.fnScope (st 20)) f cdv A outer s H E pn) ⟨Y, N, Pf, G, F⟩ →
      HSs (gcxOf P w K mg base ["board", "loop", "most", "amount"] "fixed_amounts" (C8.fnScope (st 20)) f cdv A outer s H E pn) ⟨Y, N, Pf, G, F⟩ (C8.fnBody (st 20))
        (tGThen (tHFor (iRng1 (tCons (tOp (rI0 fun i j => .int (i + j)) (tVar 2) (tC (.int 1))) tNil)) (gName 3)
          (tGThen (tHIf (tTest (tOp rEq (tCall spTurn [] C8.E0 (tCons (tVar 0) (tCons (tVar 1) (tCons (tVar 3) tNil)))) (tVar 3)))
            (tGThen (tHYield N (fun zs => zs <+: (fixL (rates cs ls) m).map iv) G0 (tVar 3)) tG0) tG0) tG0)) tG0) := by
      intro Y N F Pf G e1 e2 hy
      exact hss_cons (hs_for rfl rfl (fun s0 H0 => pi_range1 (by rfl) M.range (pa_cons (pe_op op_add (pv 2) pe_int) pa_nil)) (fun s0 H0 => pg_name (i := 3) sc20.nd rfl (.inl rfl))
        (hss_cons (hs_if (fun s0 H0 => pt_cmpR op_eq (C8.pe_c c1 hr (by decide) rfl (pa_cons (pv 0) (pa_cons (pv 1) (pa_cons (pv 3) pa_nil)))) (pv 3) (nomark _)) (hss_cons (hs_yieldN rfl e1 e2 hy (fun s0 H0 => pv 3)) hss_nil) hss_nil) hss_nil)) hss_nil
    refine ⟨fun N => tGThen (tHFor (iRng1 (tCons (tOp (rI0 fun i j => .int (i + j)) (tVar 2) (tC (.int 1))) tNil)) (gName 3)
          (tGThen (tHIf (tTest (tOp rEq (tCall spTurn [] C8.E0 (tCons (tVar 0) (tCons (tVar 1) (tCons (tVar 3) tNil)))) (tVar 3)))
            (tGThen (tHYield N (fun zs => zs <+: (fixL (rates cs ls) m).map iv) G0 (tVar 3)) tG0) tG0) tG0)) tG0, fun W e1 e2 hy => ?_, fun N DD H1 hN g1 fin => ?_⟩
    · obtain ⟨Y, N, Pf, G, F⟩ := W
      exact gb Y N F Pf G e1 e2 hy
    · refine ⟨_, rfl, _, _, rfl, rfl, (((m + 1 : Nat) : Nat) : Int), ?_, by omega, by omega, ?_⟩
      · show [V.int (((m : Nat) : Int) + 1)] = [V.int ((m + 1 : Nat) : Int)]
        rfl
      refine ⟨fun i mm ys σ H => mm = m + 1 - i ∧ i ≤ m + 1 ∧ ys = ((List.range i).filter fun x => turnL (rates cs ls) x == x).map iv ∧ (∃ y, σ = [some (.ref b), some (.ref la), some (iv m), y]) ∧ Gr G0 H, ⟨m + 1, rfl, Nat.zero_le _, rfl, ⟨none, rfl⟩, g1⟩, fun i mm ys σ H2 hW => ?_⟩
      obtain ⟨rfl, hi, rfl, ⟨y0, rfl⟩, g2⟩ := hW
      by_cases hlt : i < m + 1
      · refine .inr ⟨hlt, fun ys' σ' H' => ys' = ((List.range (i + 1)).filter fun x => turnL (rates cs ls) x == x).map iv ∧ (∃ y, σ' = [some (.ref b), some (.ref la), some (iv m), y]) ∧ Gr G0 H', fun ys' σ' H' hN' => ⟨m + 1 - (i + 1), by omega, rfl, hlt, hN'.1, hN'.2.1, hN'.2.2⟩, fun x H' hy => ?_⟩
        obtain ⟨rfl, rfl⟩ := hy
        have er : (List.range (i + 1)).filter (fun x => turnL (rates cs ls) x == x) = (List.range i).filter (fun x => turnL (rates cs ls) x == x) ++ (if turnL (rates cs ls) i = i then [i] else []) := by
          rw [List.range_succ, List.filter_append]
          by_cases h : turnL (rates cs ls) i = i <;> simp [h]
        refine ⟨_, rfl, _, rfl, _, rfl, b, la, n, i, cs, ls, ?_, hb.mono (Gr.tk g2), hl.mono (Gr.tk g2), o, ?_⟩
        · show [V.ref b, V.ref la, V.int (0 + ((i : Nat) : Int))] = [V.ref b, V.ref la, iv i]
          rw [Int.zero_add]
          rfl
        refine ⟨_, rfl, rfl, _, rfl, ?_⟩
        have ez : V.int (0 + ((i : Nat) : Int)) = iv i := by
          rw [Int.zero_add]
          rfl
        rw [ez]
        by_cases h : turnL (rates cs ls) i = i
        · have h2 : decide (iv (turnL (rates cs ls) i) = iv i) = true := decide_eq_true (by rw [h])
          rw [h2]
          have pre := range_filter_lt (p := fun x => turnL (rates cs ls) x == x) hlt (by simp [h])
          have pre2 : ((List.range i).filter fun x => turnL (rates cs ls) x == x).map iv ++ [iv i] <+: (fixL (rates cs ls) m).map iv := by
            have := pre.map iv
            rw [List.map_append] at this
            exact this
          refine iteT ⟨?_, _, rfl, pre2, g2, fun H3 g3 => ⟨?_, ⟨_, rfl⟩, g3⟩⟩
          · have := pre2.length_le
            rw [List.length_append, List.length_singleton] at this
            omega
          · rw [er, if_pos h, List.map_append]
            rfl
        · have h2 : decide (iv (turnL (rates cs ls) i) = iv i) = false := decide_eq_false fun z => h (Int.ofNat.inj (V.int.inj z))
          rw [h2]
          refine iteF ⟨?_, ⟨_, rfl⟩, g2⟩
          rw [er, if_neg h, List.append_nil]
      · have ei : i = m + 1 := by omega
        subst ei
        exact .inl ⟨Nat.le_refl _, fin _ _ g2⟩
end
end KW

set_option Elab.async false
set_option linter.all false
set_option maxRecDepth 100000
set_option maxHeartbeats 1000000
/-! KW5: greatest_fixed, growth_start, fate_of. -/
namespace KW
open PySem PySem.Spec PyProof.Rows L2 KG

theorem pG_le {rs : List (Nat × Nat)} (h : R5 rs) : pG rs ≤ 5 ^ rs.length := by
  have key : ∀ (l : List (Nat × Nat)) (a : Nat), R5 l → l.foldl (fun a r => a * r.1) a ≤ a * 5 ^ l.length := by
    intro l
    induction l with
    | nil => intro a _; simp
    | cons r l ih =>
      intro a hl
      have h1 := ih (a * r.1) fun q hq => hl q (List.mem_cons_of_mem _ hq)
      have h2 := (hl r (List.mem_cons_self ..)).2.1
      show l.foldl _ (a * r.1) ≤ a * 5 ^ (l.length + 1)
      refine Nat.le_trans h1 ?_
      rw [Nat.pow_succ, Nat.mul_comm (5 ^ l.length) 5, ← Nat.mul_assoc]
      exact Nat.mul_le_mul_right _ (Nat.mul_le_mul_left _ h2)
  have := key rs 1 h
  rw [Nat.one_mul] at this
  exact this
theorem pG_small {cs : List Ctr} {ls : List Nat} (o : LOk cs ls) : pG (rates cs ls) ≤ 625 := by
  refine Nat.le_trans (pG_le o.r5) ?_
  have h2 : (rates cs ls).length ≤ 4 := by
    unfold rates
    rw [List.length_map]
    exact o.len
  calc 5 ^ (rates cs ls).length ≤ 5 ^ 4 := Nat.pow_le_pow_right (by decide) h2
    _ = 625 := by decide
theorem min_v (G B : Nat) : (if ((B : Nat) : Int) + 1 < ((G : Nat) : Int) then ((B : Nat) : Int) + 1 else ((G : Nat) : Int)) = ((min G (B + 1) : Nat) : Int) := by
  split <;> omega
theorem max_v (a b : Nat) : (if ((b : Nat) : Int) > ((a : Nat) : Int) then ((b : Nat) : Int) else ((a : Nat) : Int)) = ((max a b : Nat) : Int) := by
  split <;> omega
theorem foldl_range {α : Type} (f : α → Nat → α) (a : α) (i : Nat) : (List.range (i + 1)).foldl f a = f ((List.range i).foldl f a) i := by
  rw [List.range_succ, List.foldl_append]
  rfl
section
variable {P : Program} {w : World} {K : PySem.W.Frag} {mg : Str → Option Value} {base : Heap}
def spOf (v : List (Nat × Nat) → V) : Sp := fun vs H Q _ => ∃ (b la : Addr) (n : Nat) (cs : List Ctr) (ls : List Nat), vs = [.ref b, .ref la] ∧ BrdAt H b n cs ∧ LpAt H la ls ∧ LOk cs ls ∧ ∀ H', Gr H H' → Q (v (rates cs ls)) H'
theorem sc22 : FnScope ["board", "loop", "give", "get", "last", "rest", "gain"] ["board", "loop"] (C8.fnScope (st 22)) := C8.fnScope_by (by decide +kernel)
theorem c_grow (M : BI mg) (D : DD K mg "growth_start" (st 22) ["board", "loop"]) (c1 : C8.Cal P w K mg base 1 "products" spProd []) (c2 : C8.Cal P w K mg base 2 "gain_bound" spGB []) (c3 : C8.Cal P w K mg base 2 "turn_of" spTurn []) :
    C8.Cal P w K mg base 3 "growth_start" (spOf fun rs => oV (growL rs)) [] := by
  refine calD D sc22 (fun vs H Q E h => ?_) fun f cdv A outer s H vs Q E hr h => ?_
  · obtain ⟨_, _, _, _, _, rfl, _⟩ := h
    rfl
  · obtain ⟨b, la, n, cs, ls, rfl, hb, hl, o, q⟩ := h
    refine ⟨_, pss_cons (ps_asg (C8.pe_c c1 hr (by decide) rfl (pa_cons (pv 0) (pa_cons (pv 1) pa_nil))) (pg_tup rfl (pgs_cons (pg_name (i := 2) sc22.nd rfl (.inl rfl)) (pgs_cons (pg_name (i := 3) sc22.nd rfl (.inl rfl)) pgs_nil))))
      (pss_cons (ps_if (pt_cmpR op_le (pv 3) (pv 2) (nomark _)) (pss_one (ps_ret pe_non)) pss_nil)
      (pss_cons (ps_set (i := 4) sc22.nd rfl (.inl rfl) pe_int)
      (pss_cons (ps_for PassesOwn.never rfl (pi_range1 (by rfl) M.range (pa_cons (pe_callB (call_min2 rfl) (by rfl) M.min (by decide +kernel) (pa_cons (pv 2) (pa_cons (pe_op op_add (C8.pe_c c2 hr (by decide) rfl (pa_cons (pv 0) (pa_cons (pv 1) pa_nil))) pe_int) pa_nil))) pa_nil)) (pg_name (i := 5) sc22.nd rfl (.inl rfl))
        (pss_cons (ps_set (i := 6) sc22.nd rfl (.inl rfl) (pe_op op_sub (C8.pe_c c3 hr (by decide) rfl (pa_cons (pv 0) (pa_cons (pv 1) (pa_cons (pv 5) pa_nil)))) (pv 5)))
        (pss_one (ps_if (pt_cmpR op_le (pv 6) pe_int (nomark _))
          (pss_one (ps_set (i := 4) sc22.nd rfl (.inl rfl) (pe_callB (call_max2 rfl) (by rfl) M.max (by decide +kernel) (pa_cons (pv 4) (pa_cons (pe_op op_add (pv 5) (pe_op op_mul (pv 2) (pe_op op_fdiv (pe_op op_sub pe_int (pv 6)) (pe_op op_sub (pv 3) (pv 2))))) pa_nil))))) pss_nil))))
      (pss_one (ps_ret (pe_op op_add (pv 4) pe_int)))))), ?_⟩
    refine ⟨_, rfl, _, rfl, b, la, n, cs, ls, rfl, hb, hl, o, fun p H1 g1 hp => ?_⟩
    have hG := pG_small o
    have hH := pH_small o
    refine ⟨p, _, rfl, SqT.of hp, rfl, _, _, rfl, _, _, rfl, rfl, ?_⟩
    refine ⟨_, rfl, _, rfl, _, _, rfl, rfl, _, rfl, ite2 (fun h => ?_) fun h => ?_⟩
    · have h2 : pH (rates cs ls) ≤ pG (rates cs ls) := Int.ofNat_le.mp (of_decide_eq_true h)
      have e : V.non = oV (growL (rates cs ls)) := by
        unfold growL
        rw [if_pos h2]
        rfl
      show Q V.non _
      rw [e]
      exact q _ g1
    have h2 : ¬ pH (rates cs ls) ≤ pG (rates cs ls) := fun z => h (decide_eq_true (Int.ofNat_le.mpr z))
    refine ⟨_, rfl, _, rfl, _, rfl, b, la, n, cs, ls, rfl, hb.mono (Gr.tk g1), hl.mono (Gr.tk g1), o, by omega, fun H2 g2 => ?_⟩
    have g12 := g1.trans g2
    refine ⟨_, _, rfl, rfl, _, _, rfl, ((lim (rates cs ls) : Nat) : Int), ?_, ?_, ?_, for_range (lo := 0) (n := lim (rates cs ls)) (fun i σ H' => H' = H2 ∧ ∃ y z, σ = [some (.ref b), some (.ref la), some (iv (pG (rates cs ls))), some (iv (pH (rates cs ls))), some (iv ((List.range i).foldl (gStep (rates cs ls)) 0)), y, z])
      ⟨rfl, none, none, rfl⟩ (fun i σ H' hi hP => ?_) fun σ H' hP => ?_⟩
    · exact congrArg (fun z => [V.int z]) (min_v _ _)
    · omega
    · have : lim (rates cs ls) ≤ pG (rates cs ls) := Nat.min_le_left _ _
      omega
    · obtain ⟨rfl, y, z, rfl⟩ := hP
      rw [Int.zero_add]
      refine ⟨_, rfl, _, rfl, _, rfl, b, la, n, i, cs, ls, rfl, hb.mono (Gr.tk g12), hl.mono (Gr.tk g12), o, _, rfl, _, _, rfl, rfl, ?_⟩
      refine ⟨_, rfl, _, _, rfl, rfl, _, rfl, ite2 (fun h => ?_) fun h => ?_⟩
      · have h3 : turnL (rates cs ls) i ≤ i := by
          have : (((turnL (rates cs ls) i : Nat) : Int) - ((i : Nat) : Int)) ≤ 0 := of_decide_eq_true h
          omega
        refine ⟨_, rfl, _, rfl, _, rfl, _, rfl, _, _, rfl, rfl, _, rfl, _, rfl, _, _, rfl, rfl, _, _, rfl, rfl, ⟨?_, ?_⟩, _, _, rfl, rfl, .inl ⟨?_, ?_⟩, _, _, rfl, rfl, _, _, rfl, rfl, some (iv i), some (V.int (((turnL (rates cs ls) i : Nat) : Int) - ((i : Nat) : Int))), ?_⟩
        · show (0 : Int) < ((pH (rates cs ls) : Nat) : Int) - ((pG (rates cs ls) : Nat) : Int)
          omega
        · show ((pH (rates cs ls) : Nat) : Int) - ((pG (rates cs ls) : Nat) : Int) < 1073741824
          omega
        · show -(2 ^ 64) < ((pG (rates cs ls) : Nat) : Int)
          omega
        · show ((pG (rates cs ls) : Nat) : Int) < 2 ^ 64
          omega
        · have e : ((i : Nat) : Int) + ((pG (rates cs ls) : Nat) : Int) * ((0 - (((turnL (rates cs ls) i : Nat) : Int) - ((i : Nat) : Int))) / (((pH (rates cs ls) : Nat) : Int) - ((pG (rates cs ls) : Nat) : Int))) = ((i + pG (rates cs ls) * ((i - turnL (rates cs ls) i) / (pH (rates cs ls) - pG (rates cs ls))) : Nat) : Int) := by
            rw [show 0 - (((turnL (rates cs ls) i : Nat) : Int) - ((i : Nat) : Int)) = ((i - turnL (rates cs ls) i : Nat) : Int) by omega, show (((pH (rates cs ls) : Nat) : Int) - ((pG (rates cs ls) : Nat) : Int)) = ((pH (rates cs ls) - pG (rates cs ls) : Nat) : Int) by omega, ← Int.natCast_ediv, ← Int.natCast_mul, ← Int.natCast_add]
          show [_, _, _, _, some (V.int (if ((i : Nat) : Int) + ((pG (rates cs ls) : Nat) : Int) * ((0 - (((turnL (rates cs ls) i : Nat) : Int) - ((i : Nat) : Int))) / (((pH (rates cs ls) : Nat) : Int) - ((pG (rates cs ls) : Nat) : Int))) > (((List.range i).foldl (gStep (rates cs ls)) 0 : Nat) : Int) then _ else _)), _, _] = _
          rw [e, max_v, foldl_range]
          conv => rhs; unfold gStep
          rw [if_pos h3]
          rfl
      · have h3 : ¬ turnL (rates cs ls) i ≤ i := fun z => h (decide_eq_true (by show (((turnL (rates cs ls) i : Nat) : Int) - ((i : Nat) : Int)) ≤ 0; omega))
        refine ⟨rfl, some (iv i), some (V.int (((turnL (rates cs ls) i : Nat) : Int) - ((i : Nat) : Int))), ?_⟩
        rw [foldl_range]
        conv => rhs; unfold gStep
        rw [if_neg h3]
        rfl
    · obtain ⟨rfl, y, z, rfl⟩ := hP
      refine ⟨_, rfl, _, _, rfl, rfl, ?_⟩
      have e : V.int ((((List.range (lim (rates cs ls))).foldl (gStep (rates cs ls)) 0 : Nat) : Int) + 1) = oV (growL (rates cs ls)) := by
        unfold growL
        rw [if_neg h2]
        rfl
      show Q (V.int ((((List.range (lim (rates cs ls))).foldl (gStep (rates cs ls)) 0 : Nat) : Int) + 1)) _
      rw [e]
      exact q _ g12
end
end KW

set_option Elab.async false
set_option linter.all false
set_option maxRecDepth 100000
set_option maxHeartbeats 1000000
/-! KW6: greatest_fixed, fate_of. -/
namespace KW
open PySem PySem.Spec PyProof.Rows L2 KG
section
variable {P : Program} {w : World} {K : PySem.W.Frag} {mg : Str → Option Value} {base : Heap}
theorem sc21 : FnScope ["board", "loop", "give", "get", "found", "rest", "gain"] ["board", "loop"] (C8.fnScope (st 21)) := C8.fnScope_by (by decide +kernel)
theorem tdiv {d k : Nat} (hd : 0 < d) (h : k % d = 0) : (0 : Int) - (-((k : Nat) : Int)) / ((d : Nat) : Int) = ((k / d : Nat) : Int) := by
  have e := Nat.div_add_mod k d
  rw [h, Nat.add_zero] at e
  have e2 : (-((k : Nat) : Int)) = ((d : Nat) : Int) * (-((k / d : Nat) : Int)) := by
    rw [Int.mul_neg, ← Int.natCast_mul, e]
  rw [e2, Int.mul_ediv_cancel_left _ (by omega)]
  omega
theorem tmod {d k : Nat} : ((-((k : Nat) : Int)) % ((d : Nat) : Int) = 0) ↔ k % d = 0 := by
  rw [← Int.dvd_iff_emod_eq_zero, Int.dvd_neg, Int.natCast_dvd_natCast, Nat.dvd_iff_mod_eq_zero]
theorem c_top (M : BI mg) (D : DD K mg "greatest_fixed" (st 21) ["board", "loop"]) (c1 : C8.Cal P w K mg base 1 "products" spProd []) (c2 : C8.Cal P w K mg base 2 "gain_bound" spGB []) (c3 : C8.Cal P w K mg base 2 "turn_of" spTurn []) :
    C8.Cal P w K mg base 3 "greatest_fixed" (spOf fun rs => oV (topL rs)) [] := by
  refine calD D sc21 (fun vs H Q E h => ?_) fun f cdv A outer s H vs Q E hr h => ?_
  · obtain ⟨_, _, _, _, _, rfl, _⟩ := h
    rfl
  · obtain ⟨b, la, n, cs, ls, rfl, hb, hl, o, q⟩ := h
    refine ⟨_, pss_cons (ps_asg (C8.pe_c c1 hr (by decide) rfl (pa_cons (pv 0) (pa_cons (pv 1) pa_nil))) (pg_tup rfl (pgs_cons (pg_name (i := 2) sc21.nd rfl (.inl rfl)) (pgs_cons (pg_name (i := 3) sc21.nd rfl (.inl rfl)) pgs_nil))))
      (pss_cons (ps_if (pt_cmpR op_eq (pv 2) (pv 3) (nomark _)) (pss_one (ps_ret pe_non)) pss_nil)
      (pss_cons (ps_if (pt_cmpR op_gt (pv 2) (pv 3) (nomark _)) (pss_one (ps_ret pe_int)) pss_nil)
      (pss_cons (ps_set (i := 4) sc21.nd rfl (.inl rfl) pe_int)
      (pss_cons (ps_for PassesOwn.never rfl (pi_range1 (by rfl) M.range (pa_cons (pe_callB (call_min2 rfl) (by rfl) M.min (by decide +kernel) (pa_cons (pv 2) (pa_cons (pe_op op_add (C8.pe_c c2 hr (by decide) rfl (pa_cons (pv 0) (pa_cons (pv 1) pa_nil))) pe_int) pa_nil))) pa_nil)) (pg_name (i := 5) sc21.nd rfl (.inl rfl))
        (pss_cons (ps_set (i := 6) sc21.nd rfl (.inl rfl) (pe_op op_sub (C8.pe_c c3 hr (by decide) rfl (pa_cons (pv 0) (pa_cons (pv 1) (pa_cons (pv 5) pa_nil)))) (pv 5)))
        (pss_one (ps_if (PW.pt (pw_and (pt_cmpR op_le (pv 6) pe_int (nomark _)) (pw_and1 (pt_cmpR op_eq (pe_op op_mod (pv 6) (pe_op op_sub (pv 3) (pv 2))) pe_int (nomark _)))))
          (pss_one (ps_set (i := 4) sc21.nd rfl (.inl rfl) (pe_callB (call_max2 rfl) (by rfl) M.max (by decide +kernel) (pa_cons (pv 4) (pa_cons (pe_op op_add (pv 5) (pe_op op_mul (pv 2) (pe_op op_sub pe_int (pe_op op_fdiv (pv 6) (pe_op op_sub (pv 3) (pv 2)))))) pa_nil))))) pss_nil))))
      (pss_one (ps_ret (pv 4))))))), ?_⟩
    refine ⟨_, rfl, _, rfl, b, la, n, cs, ls, rfl, hb, hl, o, fun p H1 g1 hp => ?_⟩
    have hG := pG_small o
    have hH := pH_small o
    refine ⟨p, _, rfl, SqT.of hp, rfl, _, _, rfl, _, _, rfl, rfl, ?_⟩
    refine ⟨_, rfl, _, rfl, rfl, _, rfl, ite2 (fun h => ?_) fun h => ?_⟩
    · have h2 : pG (rates cs ls) = pH (rates cs ls) := Int.ofNat.inj (V.int.inj (of_decide_eq_true h))
      have e : V.non = oV (topL (rates cs ls)) := by
        unfold topL
        rw [if_pos h2]
        rfl
      show Q V.non _
      rw [e]
      exact q _ g1
    have h1 : ¬ pG (rates cs ls) = pH (rates cs ls) := fun z => h (decide_eq_true (by rw [z]))
    refine ⟨_, rfl, _, rfl, _, _, rfl, rfl, _, rfl, ite2 (fun h => ?_) fun h => ?_⟩
    · have h2 : pH (rates cs ls) < pG (rates cs ls) := Int.ofNat_lt.mp (of_decide_eq_true h)
      have e : V.int 0 = oV (topL (rates cs ls)) := by
        unfold topL
        rw [if_neg h1, if_pos h2]
        rfl
      show Q (V.int 0) _
      rw [e]
      exact q _ g1
    have h2 : ¬ pH (rates cs ls) < pG (rates cs ls) := fun z => h (decide_eq_true (Int.ofNat_lt.mpr z))
    refine ⟨_, rfl, _, rfl, _, rfl, b, la, n, cs, ls, rfl, hb.mono (Gr.tk g1), hl.mono (Gr.tk g1), o, by omega, fun H2 g2 => ?_⟩
    have g12 := g1.trans g2
    refine ⟨_, _, rfl, rfl, _, _, rfl, ((lim (rates cs ls) : Nat) : Int), ?_, ?_, ?_, for_range (lo := 0) (n := lim (rates cs ls)) (fun i σ H' => H' = H2 ∧ ∃ y z, σ = [some (.ref b), some (.ref la), some (iv (pG (rates cs ls))), some (iv (pH (rates cs ls))), some (iv ((List.range i).foldl (tStep (rates cs ls)) 0)), y, z])
      ⟨rfl, none, none, rfl⟩ (fun i σ H' hi hP => ?_) fun σ H' hP => ?_⟩
    · exact congrArg (fun z => [V.int z]) (min_v _ _)
    · omega
    · have : lim (rates cs ls) ≤ pG (rates cs ls) := Nat.min_le_left _ _
      omega
    · obtain ⟨rfl, y, z, rfl⟩ := hP
      rw [Int.zero_add]
      refine ⟨_, rfl, _, rfl, _, rfl, b, la, n, i, cs, ls, rfl, hb.mono (Gr.tk g12), hl.mono (Gr.tk g12), o, _, rfl, _, _, rfl, rfl, ?_⟩
      have hdp : (0 : Int) < ((pH (rates cs ls) : Nat) : Int) - ((pG (rates cs ls) : Nat) : Int) := by omega
      have ed : ((pH (rates cs ls) : Nat) : Int) - ((pG (rates cs ls) : Nat) : Int) = ((pH (rates cs ls) - pG (rates cs ls) : Nat) : Int) := by omega
      have eN : ∀ (c : ¬ (turnL (rates cs ls) i ≤ i ∧ (i - turnL (rates cs ls) i) % (pH (rates cs ls) - pG (rates cs ls)) = 0)), (List.range (i + 1)).foldl (tStep (rates cs ls)) 0 = (List.range i).foldl (tStep (rates cs ls)) 0 := fun c => by
        rw [foldl_range]
        exact if_neg c
      refine ⟨_, rfl, _, _, rfl, rfl, _, rfl, ite2 (fun h => ?_) fun h => ?_⟩
      · have h3 : turnL (rates cs ls) i ≤ i := by
          have : (((turnL (rates cs ls) i : Nat) : Int) - ((i : Nat) : Int)) ≤ 0 := of_decide_eq_true h
          omega
        have eg : (((turnL (rates cs ls) i : Nat) : Int) - ((i : Nat) : Int)) = -((i - turnL (rates cs ls) i : Nat) : Int) := by omega
        refine ⟨_, rfl, _, rfl, _, rfl, _, _, rfl, rfl, _, _, rfl, rfl, hdp, rfl, _, rfl, ite2 (fun h5 => ?_) fun h5 => ?_⟩
        · have h6 : (i - turnL (rates cs ls) i) % (pH (rates cs ls) - pG (rates cs ls)) = 0 := by
            have q1 : ((((turnL (rates cs ls) i : Nat) : Int) - ((i : Nat) : Int))) % (((pH (rates cs ls) : Nat) : Int) - ((pG (rates cs ls) : Nat) : Int)) = 0 := V.int.inj (of_decide_eq_true h5)
            rw [eg, ed] at q1
            exact tmod.mp q1
          refine ⟨_, rfl, _, rfl, _, rfl, _, rfl, _, rfl, _, rfl, _, _, rfl, rfl, _, _, rfl, rfl, ⟨hdp, ?_⟩, _, _, rfl, rfl, _, _, rfl, rfl, .inl ⟨?_, ?_⟩, _, _, rfl, rfl, _, _, rfl, rfl, some (iv i), some (V.int (((turnL (rates cs ls) i : Nat) : Int) - ((i : Nat) : Int))), ?_⟩
          · show ((pH (rates cs ls) : Nat) : Int) - ((pG (rates cs ls) : Nat) : Int) < 1073741824
            omega
          · show -(2 ^ 64) < ((pG (rates cs ls) : Nat) : Int)
            omega
          · show ((pG (rates cs ls) : Nat) : Int) < 2 ^ 64
            omega
          · have e : ((i : Nat) : Int) + ((pG (rates cs ls) : Nat) : Int) * (0 - (((turnL (rates cs ls) i : Nat) : Int) - ((i : Nat) : Int)) / (((pH (rates cs ls) : Nat) : Int) - ((pG (rates cs ls) : Nat) : Int))) = ((i + pG (rates cs ls) * ((i - turnL (rates cs ls) i) / (pH (rates cs ls) - pG (rates cs ls))) : Nat) : Int) := by
              rw [eg, ed, tdiv (by omega) h6, ← Int.natCast_mul, ← Int.natCast_add]
            show [_, _, _, _, some (V.int (if ((i : Nat) : Int) + ((pG (rates cs ls) : Nat) : Int) * (0 - (((turnL (rates cs ls) i : Nat) : Int) - ((i : Nat) : Int)) / (((pH (rates cs ls) : Nat) : Int) - ((pG (rates cs ls) : Nat) : Int))) > (((List.range i).foldl (tStep (rates cs ls)) 0 : Nat) : Int) then _ else _)), _, _] = _
            rw [e, max_v, foldl_range]
            conv => rhs; unfold tStep
            rw [if_pos ⟨h3, h6⟩]
            rfl
        · refine ⟨rfl, some (iv i), some (V.int (((turnL (rates cs ls) i : Nat) : Int) - ((i : Nat) : Int))), ?_⟩
          rw [eN]
          · rfl
          · intro c
            refine h5 (decide_eq_true (congrArg V.int ?_))
            show ((((turnL (rates cs ls) i : Nat) : Int) - ((i : Nat) : Int))) % (((pH (rates cs ls) : Nat) : Int) - ((pG (rates cs ls) : Nat) : Int)) = 0
            rw [eg, ed]
            exact tmod.mpr c.2
      · refine iteF ⟨rfl, some (iv i), some (V.int (((turnL (rates cs ls) i : Nat) : Int) - ((i : Nat) : Int))), ?_⟩
        rw [eN]
        · rfl
        · intro c
          have := c.1
          exact h (decide_eq_true (by show (((turnL (rates cs ls) i : Nat) : Int) - ((i : Nat) : Int)) ≤ 0; omega))
    · obtain ⟨rfl, y, z, rfl⟩ := hP
      refine ⟨_, rfl, ?_⟩
      have e : iv ((List.range (lim (rates cs ls))).foldl (tStep (rates cs ls)) 0) = oV (topL (rates cs ls)) := by
        unfold topL
        rw [if_neg h1, if_neg h2]
        rfl
      rw [e]
      exact q _ g12

/-! ### fate_of -/
def spFate (K : PySem.W.Frag) : Sp := fun vs H Q _ => ∃ (b la : Addr) (n x : Nat) (cs : List Ctr) (ls : List Nat), vs = [.ref b, .ref la, iv x] ∧ BrdAt H b n cs ∧ LpAt H la ls ∧ LOk cs ls ∧ ∀ p H', Gr H H' → H' p = some (.tup (fateVs (fateL (rates cs ls) x))) → Q (.ref p) H'
theorem sc23 : FnScope ["board", "loop", "amount", "turn", "start", "word"] ["board", "loop", "amount"] (C8.fnScope (st 23)) := C8.fnScope_by (by decide +kernel)
theorem BI.st (M : BI mg) : ∃ u, mg "STAYS" = some u ∧ RelV (.str cSTAYS) u := by
  obtain ⟨t, e⟩ := M.stays
  exact ⟨_, e, t, rfl⟩
theorem BI.fa (M : BI mg) : ∃ u, mg "FALLS" = some u ∧ RelV (.str cFALLS) u := by
  obtain ⟨t, e⟩ := M.falls
  exact ⟨_, e, t, rfl⟩
theorem BI.ri (M : BI mg) : ∃ u, mg "RISES" = some u ∧ RelV (.str cRISES) u := by
  obtain ⟨t, e⟩ := M.rises
  exact ⟨_, e, t, rfl⟩
theorem BI.gr (M : BI mg) : ∃ u, mg "GROWS" = some u ∧ RelV (.str cGROWS) u := by
  obtain ⟨t, e⟩ := M.grows
  exact ⟨_, e, t, rfl⟩
theorem c_fate (R : Rests) (M : BI mg) (D : DD K mg "fate_of" (st 23) ["board", "loop", "amount"]) (c1 : C8.Cal P w K mg base 2 "turn_of" spTurn []) (c2 : C8.Cal P w K mg base 3 "growth_start" (spOf fun rs => oV (growL rs)) []) : C8.Cal P w K mg base 4 "fate_of" (spFate K) [] := by
  refine calD D sc23 (fun vs H Q E h => ?_) fun f cdv A outer s H vs Q E hr h => ?_
  · obtain ⟨_, _, _, _, _, _, rfl, _⟩ := h
    rfl
  · obtain ⟨b, la, n, x, cs, ls, rfl, hb, hl, o, q⟩ := h
    refine ⟨_, pss_cons (ps_set (i := 3) sc23.nd rfl (.inl rfl) (C8.pe_c c1 hr (by decide) rfl (pa_cons (pv 0) (pa_cons (pv 1) (pa_cons (pv 2) pa_nil)))))
      (pss_cons (ps_if (pt_cmpR op_eq (pv 3) (pv 2) (nomark _)) (pss_one (ps_ret (pe_tup (pa_cons (C8.pe_gc (v := .str cSTAYS) (by rfl) M.st) (pa_cons (pv 2) pa_nil))))) pss_nil)
      (pss_cons (ps_set (i := 4) sc23.nd rfl (.inl rfl) (C8.pe_c c2 hr (by decide) rfl (pa_cons (pv 0) (pa_cons (pv 1) pa_nil))))
      (C8.pss_cut (ps_if (PW.pt (pw_and (pt_cmpR op_notN (pv 4) pe_non (nomark _)) (pw_and1 (pt_cmpR op_ge (pv 2) (pv 4) (nomark _))))) (pss_one (ps_ret (pe_tup (pa_cons (C8.pe_gc (v := .str cGROWS) (by rfl) M.gr) pa_nil)))) pss_nil)
      (pss_cons (ps_set (i := 5) sc23.nd rfl (.inl rfl) (pe_ifExp (pt_cmpR op_gt (pv 3) (pv 2) (nomark _)) (C8.pe_gc (v := .str cRISES) (by rfl) M.ri) (C8.pe_gc (v := .str cFALLS) (by rfl) M.fa)))
      (pss_cons (ps_while PassesOwn.never (pt_cmpR op_ne (pv 3) (pv 2) (nomark _)) (pss_one (ps_par (i := 2) (j := 3) (by rfl) sc23.nd rfl rfl (by decide) rfl rfl (pa_cons (pv 3) (pa_cons (C8.pe_c c1 hr (by decide) rfl (pa_cons (pv 0) (pa_cons (pv 1) (pa_cons (pv 3) pa_nil)))) pa_nil)) (by rfl))))
      (pss_one (ps_ret (pe_tup (pa_cons (pv 5) (pa_cons (pv 2) pa_nil)))))))))), ?_⟩
    refine ⟨_, rfl, _, rfl, _, rfl, b, la, n, x, cs, ls, rfl, hb, hl, o, ?_⟩
    refine ⟨_, rfl, _, rfl, rfl, _, rfl, ite2 (fun h => ?_) fun h => ?_⟩
    · have h2 : turnL (rates cs ls) x = x := Int.ofNat.inj (V.int.inj (of_decide_eq_true h))
      refine ⟨_, rfl, by show 2 ≤ sizeLine; decide, fun t ht => q t _ (Gr.tup ht) ?_⟩
      unfold fateL
      rw [if_pos h2]
      exact upd_same
    have h1 : ¬ turnL (rates cs ls) x = x := fun z => h (decide_eq_true (by rw [z]))
    refine ⟨_, rfl, _, rfl, b, la, n, cs, ls, rfl, hb, hl, o, fun H1 g1 => ?_⟩
    have hb1 := hb.mono (Gr.tk g1)
    have hl1 := hl.mono (Gr.tk g1)
    refine ⟨fun σ' H' => σ' = [some (.ref b), some (.ref la), some (iv x), some (iv (turnL (rates cs ls) x)), some (oV (growL (rates cs ls))), none] ∧ H' = H1 ∧ ∀ s, growL (rates cs ls) = some s → x < s, ?_, ?_⟩
    · have eo : growL (rates cs ls) = none ∨ ∃ s, growL (rates cs ls) = some s := by
        cases growL (rates cs ls) with
        | none => exact .inl rfl
        | some s => exact .inr ⟨s, rfl⟩
      rcases eo with eg | ⟨s, eg⟩
      · refine ⟨_, rfl, rfl, false, ?_, iteF (iteF ⟨rfl, rfl, fun s z => ?_⟩)⟩
        · show V.bl (!decide (oV (growL (rates cs ls)) = .non)) = V.bl false
          rw [eg]
          rfl
        · rw [eg] at z
          cases z
      · refine ⟨_, rfl, rfl, true, ?_, iteT ⟨_, rfl, _, rfl, ((x : Nat) : Int), ((s : Nat) : Int), rfl, ?_, _, rfl, ite2 (fun h => ?_) fun h => ?_⟩⟩
        · show V.bl (!decide (oV (growL (rates cs ls)) = .non)) = V.bl true
          rw [eg]
          rfl
        · show oV (growL (rates cs ls)) = V.int ((s : Nat) : Int)
          rw [eg]
          rfl
        · have h2 : s ≤ x := Int.ofNat_le.mp (of_decide_eq_true h)
          refine ⟨by show 1 ≤ sizeLine; decide, fun t ht => q t _ (g1.trans (Gr.tup ht)) ?_⟩
          unfold fateL
          rw [if_neg h1, if_pos ⟨s, eg, h2⟩]
          exact upd_same
        · have h2 : ¬ s ≤ x := fun z => h (decide_eq_true (Int.ofNat_le.mpr z))
          refine ⟨rfl, rfl, fun s' z => ?_⟩
          rw [eg] at z
          cases z
          omega
    · rintro σ' H' ⟨rfl, rfl, hs⟩
      obtain ⟨k0, hk0⟩ := R (rates cs ls) x o.r5 hs
      have el := limL_eq hk0
      have ef : fateL (rates cs ls) x = (if x < turnL (rates cs ls) x then cRISES else cFALLS, some (limL (rates cs ls) x)) := by
        unfold fateL
        rw [if_neg h1, if_neg (fun ⟨s, e1, e2⟩ => by have := hs s e1; omega)]
      have fin : ∀ wd : Str, wd = (if x < turnL (rates cs ls) x then cRISES else cFALLS) → tSeq (tWhile (tTest (tOp rNe (tVar 3) (tVar 2))) (tPar 2 3 (tCons (tVar 3) (tCons (tCall spTurn [] C8.E0 (tCons (tVar 0) (tCons (tVar 1) (tCons (tVar 3) tNil)))) tNil))))
          (tRet (tTup (tCons (tVar 5) (tCons (tVar 2) tNil)))) { nx := fun _ H' => Q .non H', rt := Q } [some (.ref b), some (.ref la), some (iv x), some (iv (turnL (rates cs ls) x)), some (oV (growL (rates cs ls))), some (.str wd)] H' := by
        intro wd hwd
        refine ⟨fun m σ H2 => ∃ k, k + m = k0 ∧ H2 = H' ∧ σ = [some (.ref b), some (.ref la), some (iv (iter (rates cs ls) k x)), some (iv (turnL (rates cs ls) (iter (rates cs ls) k x))), some (oV (growL (rates cs ls))), some (.str wd)], ⟨k0, 0, by omega, rfl, rfl⟩, ?_⟩
        rintro m σ H2 ⟨k, hk, rfl, rfl⟩
        refine ⟨_, rfl, _, rfl, rfl, _, rfl, ?_⟩
        by_cases hf : turnL (rates cs ls) (iter (rates cs ls) k x) = iter (rates cs ls) k x
        · rw [decide_eq_true (by rw [hf])]
          refine iteF ⟨_, rfl, _, rfl, by show 2 ≤ sizeLine; decide, fun t ht => q t _ (g1.trans (Gr.tup ht)) ?_⟩
          rw [ef, ← hwd, el, iter_eq hk0 hf]
          exact upd_same
        · have hd : decide (iv (turnL (rates cs ls) (iter (rates cs ls) k x)) = iv (iter (rates cs ls) k x)) = false := decide_eq_false fun z => hf (Int.ofNat.inj (V.int.inj z))
          rw [hd]
          have hm : 0 < m := by
            rcases Nat.eq_zero_or_pos m with z | z
            · rw [z, Nat.add_zero] at hk
              rw [hk] at hf
              exact absurd hk0 hf
            · exact z
          refine iteT ⟨fun σ' H3 => H3 = H2 ∧ σ' = [some (.ref b), some (.ref la), some (iv (iter (rates cs ls) (k + 1) x)), some (iv (turnL (rates cs ls) (iter (rates cs ls) (k + 1) x))), some (oV (growL (rates cs ls))), some (.str wd)], fun σ' H3 hN => ⟨m - 1, by omega, k + 1, by omega, hN.1, hN.2⟩, ?_⟩
          exact ⟨_, rfl, _, rfl, _, rfl, _, rfl, b, la, n, _, cs, ls, rfl, hb1, hl1, o, _, _, rfl, rfl, rfl⟩
      refine ⟨_, rfl, _, rfl, _, _, rfl, rfl, _, rfl, ite2 (fun h => ?_) fun h => ?_⟩
      · have h2 : x < turnL (rates cs ls) x := Int.ofNat_lt.mp (of_decide_eq_true h)
        exact fin cRISES (by rw [if_pos h2])
      · have h2 : ¬ x < turnL (rates cs ls) x := fun z => h (decide_eq_true (Int.ofNat_lt.mpr z))
        exact fin cFALLS (by rw [if_neg h2])
end
end KW

set_option Elab.async false
set_option linter.all false
set_option maxRecDepth 100000
set_option maxHeartbeats 1000000
/-! KW7: first_wrong, run. -/
namespace KW
open PySem PySem.Spec PyProof.Rows L2 KG

/-- a for over enumerate(tuple) -/
theorem for_enumT {K : PySem.W.Frag} {a : Addr} {xs : List V} {g : TG} {tb : TS} {D : Ends} {σ : L2.St} {H : Hp} (Pv : Nat → L2.St → Hp → Prop) (h0 : Pv 0 σ H) (hl : ∀ i σ H, i ≤ xs.length → Pv i σ H → SqT K H a xs)
    (hs : ∀ i x T σ H, xs[i]? = some x → H T = none → Pv i σ H → g (.ref T) σ (upd H T (.tup [.int (i : Nat), x])) fun σ2 H2 => tb { D with nx := Pv (i + 1), ct := Pv (i + 1), bk := D.nx } σ2 H2) (hd : ∀ σ H, Pv xs.length σ H → D.nx σ H) :
    ∃ W : Nat → Nat → L2.St → Hp → Prop, (∃ m, W 0 m σ H) ∧ ∀ i m σ H, W i m σ H → ((IteT K a).stop i H ∧ D.nx σ H) ∨
      ((IteT K a).go i H ∧ ∃ N : L2.St → Hp → Prop, (∀ σ' H', N σ' H' → ∃ m', m' < m ∧ W (i + 1) m' σ' H') ∧ ∀ x H', (IteT K a).yld i H x H' → g x σ H' fun σ2 H2 => tb { D with nx := N, ct := N, bk := D.nx } σ2 H2) := by
  refine ⟨fun i m σ H => m = xs.length - i ∧ i ≤ xs.length ∧ Pv i σ H, ⟨xs.length, by simp, Nat.zero_le _, h0⟩, ?_⟩
  rintro i m σ H ⟨rfl, hi, p⟩
  have q := hl i σ H hi p
  by_cases hlt : i < xs.length
  · refine .inr ⟨⟨xs, xs[i], q, by simp [hlt]⟩, Pv (i + 1), fun σ' H' p' => ⟨xs.length - (i + 1), by omega, rfl, hlt, p'⟩, fun x H' y => ?_⟩
    obtain ⟨T, x1, e1, hT, eH, f1⟩ := y
    rw [e1, eH]
    exact hs i x1 T σ H (f1 xs q) hT p
  · have ei : i = xs.length := by omega
    subst ei
    exact .inl ⟨⟨xs, q, Nat.le_refl _⟩, hd σ H p⟩

def kat (cs : List Ctr) (kind : Nat) (ls : List Nat) : Nat → Nat
  | 0 => kind
  | i + 1 => (cs.getD (ls.getD i 0) default).t
/-- a route from kind -/
def Chn (cs : List Ctr) (kind : Nat) (ls : List Nat) : Prop := ∀ (i j : Nat), ls[i]? = some j → j < cs.length ∧ (cs.getD j default).s = kat cs kind ls i
theorem kat_succ (cs : List Ctr) (kind : Nat) {ls : List Nat} {i j : Nat} (h : ls[i]? = some j) : kat cs kind ls (i + 1) = (cs.getD j default).t := by
  show (cs.getD (ls.getD i 0) default).t = _
  have e : ls.getD i 0 = j := by
    rw [List.getD_eq_getElem?_getD, h]
    rfl
  rw [e]
section
variable {P : Program} {w : World} {K : PySem.W.Frag} {mg : Str → Option Value} {base : Heap}
def spWrong : Sp := fun vs H Q _ => ∃ (b la : Addr) (n kind : Nat) (cs : List Ctr) (ls : List Nat), vs = [.ref b, iv kind, .ref la] ∧ BrdAt H b n cs ∧ LpAt H la ls ∧ Chn cs kind ls ∧ ∀ H', Gr H H' → Q .non H'
theorem sc25 : FnScope ["board", "kind", "value", "kinds", "counters", "index", "item"] ["board", "kind", "value"] (C8.fnScope (st 25)) := C8.fnScope_by (by decide +kernel)
theorem c_wrong (M : BI mg) (D : DD K mg "first_wrong" (st 25) ["board", "kind", "value"]) (c1 : C8.Cal P w K mg base 1 "is_number" spNum []) : C8.Cal P w K mg base 2 "first_wrong" spWrong [] := by
  refine calD D sc25 (fun vs H Q E h => ?_) fun f cdv A outer s H vs Q E hr h => ?_
  · obtain ⟨_, _, _, _, _, _, rfl, _⟩ := h
    rfl
  · obtain ⟨b, la, n, kind, cs, ls, rfl, hb, hl, hc, q⟩ := h
    refine ⟨_, pss_cons (ps_asg (pv 0) (pg_tup rfl (pgs_cons (pg_name (i := 3) sc25.nd rfl (.inl rfl)) (pgs_cons (pg_name (i := 4) sc25.nd rfl (.inl rfl)) pgs_nil))))
      (pss_cons (ps_for PassesOwn.never rfl (pi_enumT (by rfl) M.enum (pa_cons (pv 2) pa_nil)) (pg_tup rfl (pgs_cons (pg_name (i := 5) sc25.nd rfl (.inl rfl)) (pgs_cons (pg_name (i := 6) sc25.nd rfl (.inl rfl)) pgs_nil)))
        (pss_cons (ps_if (PW.pt (pw_or (pt_not (pt_val (C8.pe_c c1 hr (by decide) rfl (pa_cons (pv 6) (pa_cons pe_int (pa_cons (pe_op op_sub (pe_callB call_len_seq (by rfl) M.len PySem.boot_len (pa_cons (pv 4) pa_nil)) pe_int) pa_nil))))))
            (pw_or1 (pt_cmpR op_ne (pe_ix ix_tup (pe_ix ix_tup (pv 4) (pv 6) (fun _ _ => rfl)) pe_int (fun _ _ => rfl)) (pv 1) (nomark _))))) (pss_one (ps_ret (pv 5))) pss_nil)
        (pss_one (ps_set (i := 1) sc25.nd rfl (.inl rfl) (pe_ix ix_tup (pe_ix ix_tup (pv 4) (pv 6) (fun _ _ => rfl)) pe_int (fun _ _ => rfl))))))
      (pss_one (ps_ret pe_non))), ?_⟩
    obtain ⟨ca, vs, h1, h2, h3, h4⟩ := hb.at
    refine ⟨_, rfl, b, _, rfl, SqT.of h1, rfl, _, _, rfl, _, _, rfl, rfl, ?_⟩
    refine ⟨_, rfl, la, _, rfl, SqT.of hl, for_enumT (K := K) (a := la) (xs := ls.map iv) (fun i σ H' => Gr H H' ∧ ∃ y z, σ = [some (.ref b), some (iv (kat cs kind ls i)), some (.ref la), some (iv n), some (.ref ca), y, z])
      ⟨Gr.refl _, none, none, rfl⟩ (fun i σ H' _ hP => SqT.of (hP.1.ex _ _ hl)) (fun i x T σ H' hx hT hP => ?_) fun σ H' hP => ?_⟩
    · obtain ⟨g1, y, z, rfl⟩ := hP
      obtain ⟨j, hj, rfl⟩ := lp_at hx
      obtain ⟨hjl, hjs⟩ := hc i j hj
      obtain ⟨p, v1, v2⟩ := h4 j hjl
      have g2 := g1.trans (Gr.tup (xs := [.int (i : Nat), iv j]) hT)
      refine ⟨T, _, rfl, SqT.of upd_same, rfl, _, _, rfl, _, _, rfl, rfl, ?_⟩
      refine ⟨_, rfl, _, rfl, ca, _, rfl, .inr (SqT.of (g2.ex _ _ h2)), _, _, rfl, rfl, ((j : Nat) : Int), 0, (((vs.length : Nat) : Int) - 1), rfl, true, ?_, iteF ?_⟩
      · rw [decide_eq_true (show (0 : Int) ≤ ((j : Nat) : Int) by omega), decide_eq_true (show ((j : Nat) : Int) ≤ ((vs.length : Nat) : Int) - 1 by rw [h3]; omega)]
        rfl
      refine ⟨_, rfl, _, rfl, _, _, _, _, rfl, rfl, SqT.of (g2.ex _ _ h2), atI_nat v1, _, _, _, _, rfl, rfl, SqT.of (g2.ex _ _ v2), atI_nat (j := 0) rfl, _, rfl, rfl, false, ?_, iteF ?_⟩
      · show V.bl (!decide (iv (cs.getD j default).s = iv (kat cs kind ls i))) = V.bl false
        rw [hjs, decide_eq_true rfl]
        rfl
      refine ⟨_, rfl, _, rfl, _, _, _, _, rfl, rfl, SqT.of (g2.ex _ _ h2), atI_nat v1, _, _, _, _, rfl, rfl, SqT.of (g2.ex _ _ v2), atI_nat (j := 1) rfl, g2, some (V.int (i : Nat)), some (iv j), ?_⟩
      rw [kat_succ cs kind hj]
      rfl
    · exact q _ hP.1
def spRun : Sp := fun vs H Q _ => ∃ (b la : Addr) (n kind x : Nat) (cs : List Ctr) (ls : List Nat), vs = [.ref b, iv kind, iv x, .ref la] ∧ BrdAt H b n cs ∧ LpAt H la ls ∧ Chn cs kind ls ∧ LOk cs ls ∧
  ∀ p kd H', Gr H H' → H' p = some (.tup [kd, iv (turnL (rates cs ls) x)]) → Q (.ref p) H'
theorem sc26 : FnScope ["board", "kind", "amount", "value", "wrong", "index", "counter"] ["board", "kind", "amount", "value"] (C8.fnScope (st 26)) := C8.fnScope_by (by decide +kernel)
theorem BI.mr (M : BI mg) : ∃ u, mg "MAX_ROUTE" = some u ∧ RelV (.int 200) u := by
  obtain ⟨t, e⟩ := M.mroute
  exact ⟨_, e, t, rfl⟩
theorem c_run (M : BI mg) (D : DD K mg "run" (st 26) ["board", "kind", "amount", "value"]) (c1 : C8.Cal P w K mg base 2 "first_wrong" spWrong []) (c2 : C8.Cal P w K mg base 1 "changed" spChg []) : C8.Cal P w K mg base 3 "run" spRun [] := by
  refine calD D sc26 (fun vs H Q E h => ?_) fun f cdv A outer s H vs Q E hr h => ?_
  · obtain ⟨_, _, _, _, _, _, _, rfl, _⟩ := h
    rfl
  · obtain ⟨b, la, n, kind, x, cs, ls, rfl, hb, hl, hc, o, q⟩ := h
    refine ⟨_, pss_cons (ps_if (PW.pt (pw_or (pt_not (pt_val (pe_callB call_isi (by rfl) M.isi (by decide +kernel) (pa_cons (pv 3) (pa_cons (pe_bltn (v := .ty "tuple") (by rfl) M.tuple (by decide +kernel) rfl) pa_nil)))))
          (pw_or1 (pt_cmpR op_gt (pe_callB call_len_seq (by rfl) M.len PySem.boot_len (pa_cons (pv 3) pa_nil)) (C8.pe_gc (v := .int 200) (by rfl) M.mr) (nomark _))))) (pss_one ps_never) pss_nil)
      (pss_cons (ps_set (i := 4) sc26.nd rfl (.inl rfl) (C8.pe_c c1 hr (by decide) rfl (pa_cons (pv 0) (pa_cons (pv 1) (pa_cons (pv 3) pa_nil)))))
      (pss_cons (ps_if (pt_cmpR op_notN (pv 4) pe_non (nomark _)) (pss_one ps_never) pss_nil)
      (pss_cons (ps_for PassesOwn.never rfl (pi_tup (pv 3)) (pg_name (i := 5) sc26.nd rfl (.inl rfl))
        (pss_cons (ps_set (i := 6) sc26.nd rfl (.inl rfl) (pe_ix ix_tup (pe_ix ix_tup (pv 0) pe_int (fun _ _ => rfl)) (pv 5) (fun _ _ => rfl)))
        (pss_one (ps_par (i := 1) (j := 2) (by rfl) sc26.nd rfl rfl (by decide) rfl rfl (pa_cons (pe_ix ix_tup (pv 6) pe_int (fun _ _ => rfl)) (pa_cons (C8.pe_c c2 hr (by decide) rfl (pa_cons (pv 6) (pa_cons (pv 2) pa_nil))) pa_nil)) (by rfl)))))
      (pss_one (ps_ret (pe_tup (pa_cons (pv 1) (pa_cons (pv 2) pa_nil)))))))), ?_⟩
    have hlen : (ls.map iv).length ≤ 4 := by
      rw [List.length_map]
      exact o.len
    refine ⟨_, rfl, _, _, _, _, true, rfl, .ty _, .base (.tup hl), kit_ty (by decide +kernel), true, rfl, iteF ?_⟩
    refine ⟨_, rfl, la, _, rfl, .inr (SqT.of hl), _, _, rfl, rfl, false, ?_, iteF ?_⟩
    · exact congrArg V.bl (decide_eq_false (by omega))
    refine ⟨_, rfl, _, rfl, _, rfl, b, la, n, kind, cs, ls, rfl, hb, hl, hc, fun H1 g1 => ?_⟩
    have hb1 := hb.mono (Gr.tk g1)
    have hl1 := hl.mono (Gr.tk g1)
    obtain ⟨ca, vs, h1, h2, h3, h4⟩ := hb1.at
    refine ⟨_, rfl, rfl, false, rfl, iteF ?_⟩
    refine ⟨_, rfl, la, rfl, ⟨_, SqT.of hl1⟩, for_tup (K := K) (a := la) (xs := ls.map iv) (fun i σ H' => H' = H1 ∧ ∃ kd y z, σ = [some (.ref b), some kd, some (iv (turnL ((rates cs ls).take i) x)), some (.ref la), some .non, y, z])
      ⟨rfl, _, none, none, rfl⟩ (fun i σ H' _ hP => ?_) (fun i y σ H' hi hP => ?_) fun σ H' hP => ?_⟩
    · obtain ⟨rfl, _⟩ := hP
      exact SqT.of hl1
    · obtain ⟨rfl, kd, y0, z0, rfl⟩ := hP
      obtain ⟨j, hj, rfl⟩ := lp_at hi
      have hjl : j < cs.length := o.ix j (List.mem_of_getElem? hj)
      obtain ⟨p, v1, v2⟩ := h4 j hjl
      obtain ⟨g1', g5, _, h5⟩ := o.rts.get hjl
      refine ⟨_, rfl, _, _, _, _, rfl, rfl, SqT.of h1, atI_nat (j := 1) rfl, _, rfl, _, _, _, _, rfl, rfl, SqT.of h2, atI_nat v1, ?_⟩
      refine ⟨_, rfl, _, _, _, _, rfl, rfl, SqT.of v2, atI_nat (j := 1) rfl, _, rfl, _, rfl, p, _, _, rfl, v2, g1', g5, h5, _, _, rfl, rfl, iv (cs.getD j default).t, some (iv j), some (.ref p), ?_⟩
      have e := foldl_take (fun x (r : Nat × Nat) => x / r.1 * r.2) x (rates_at cs hj)
      show _ = [some (V.ref b), _, some (iv (turnL ((rates cs ls).take (i + 1)) x)), some (V.ref la), some V.non, _, _]
      unfold turnL
      rw [e]
      rfl
    · obtain ⟨rfl, kd, y0, z0, rfl⟩ := hP
      rw [rates_all]
      exact ⟨_, rfl, _, rfl, by show 2 ≤ sizeLine; decide, fun t ht => q t _ _ (g1.trans (Gr.tup ht)) upd_same⟩
end
end KW

set_option Elab.async false
set_option linter.all false
set_option maxRecDepth 100000
set_option maxHeartbeats 1000000
/-! KW8: the law's draws: _law_draws, _law_next, _law_one, _law_rate. -/
namespace KW
open PySem PySem.Spec PyProof.Rows L2 KG

/-- all but the draw's own two lists is kept -/
structure Nx (d ra : Addr) (H H' : Hp) : Prop where
  ex : ∀ b o, H b = some o → b ≠ d → b ≠ ra → H' b = some o
  sm : Simp H → Simp H'
theorem Nx.refl (d ra : Addr) (H : Hp) : Nx d ra H H := ⟨fun _ _ h _ _ => h, fun h => h⟩
theorem Nx.trans {d ra : Addr} {H H1 H2 : Hp} (a : Nx d ra H H1) (b : Nx d ra H1 H2) : Nx d ra H H2 := ⟨fun x o h h1 h2 => b.ex x o (a.ex x o h h1 h2) h1 h2, fun h => b.sm (a.sm h)⟩
theorem Nx.gr {d ra : Addr} {H H' : Hp} (g : Gr H H') : Nx d ra H H' := ⟨fun b o h _ _ => g.ex b o h, g.sm⟩
theorem simp_upd {H : Hp} {p : Addr} {o : HO} (hs : Simp H) (so : Sq o) : Simp (upd H p o) := fun b u e => by
  by_cases q : b = p
  · rw [q, upd_same] at e
    rw [← Option.some.inj e]
    exact so
  · rw [upd_ne q] at e
    exact hs b u e
theorem Nx.mut {d ra : Addr} {H H' : Hp} {p : Addr} {o : HO} (e : Nx d ra H H') (h : H p = none) (so : Sq o) : Nx d ra H (upd H' p o) where
  ex := fun b u eb h1 h2 => by
    rw [upd_ne (ne_of_none eb h)]
    exact e.ex b u eb h1 h2
  sm := fun hs => simp_upd (e.sm hs) so
/-- the draw's state -/
def DrawAt (H : Hp) (d ca ra : Addr) (m : Nat) : Prop :=
  ∃ (cells rests : List Int) (nth : Nat), H d = some (.lst [.ref ca, .int (nth : Nat), .ref ra]) ∧ H ca = some (.lst (cells.map V.int)) ∧ H ra = some (.lst (rests.map V.int)) ∧ rests.length = cells.length ∧ 0 < cells.length ∧ nth ≤ m ∧ d ≠ ca ∧ d ≠ ra ∧ ca ≠ ra
theorem DrawAt.keep {H H' : Hp} {d ca ra : Addr} {m : Nat} (h : DrawAt H d ca ra m) (k : ∀ b o, H b = some o → b = d ∨ b = ca ∨ b = ra → H' b = some o) : DrawAt H' d ca ra m := by
  obtain ⟨cells, rests, nth, h1, h2, h3, h4⟩ := h
  exact ⟨cells, rests, nth, k _ _ h1 (.inl rfl), k _ _ h2 (.inr (.inl rfl)), k _ _ h3 (.inr (.inr rfl)), h4⟩
theorem DrawAt.gr {H H' : Hp} {d ca ra : Addr} {m : Nat} (h : DrawAt H d ca ra m) (g : Gr H H') : DrawAt H' d ca ra m := h.keep fun b o e _ => g.ex b o e
theorem DrawAt.le {H : Hp} {d ca ra : Addr} {m n : Nat} (h : DrawAt H d ca ra m) (k : m ≤ n) : DrawAt H d ca ra n := by
  obtain ⟨cells, rests, nth, h1, h2, h3, h4, h5, h6, h7⟩ := h
  exact ⟨cells, rests, nth, h1, h2, h3, h4, h5, Nat.le_trans h6 k, h7⟩
/-- another list is written -/
theorem DrawAt.mut {H : Hp} {d ca ra : Addr} {m : Nat} {l : Addr} {o : HO} (h : DrawAt H d ca ra m) (h1 : l ≠ d) (h2 : l ≠ ca) (h3 : l ≠ ra) : DrawAt (upd H l o) d ca ra m := h.keep fun b u e q => by
  have : b ≠ l := by
    rcases q with z | z | z
    · rw [z]; exact h1.symm
    · rw [z]; exact h2.symm
    · rw [z]; exact h3.symm
  rw [upd_ne this]
  exact e
theorem DrawAt.ne {H : Hp} {d ca ra : Addr} {m : Nat} (h : DrawAt H d ca ra m) {p : Addr} (hp : H p = none) : p ≠ d ∧ p ≠ ca ∧ p ≠ ra := by
  obtain ⟨cells, rests, nth, h1, h2, h3, h4⟩ := h
  exact ⟨(ne_of_none h1 hp).symm, (ne_of_none h2 hp).symm, (ne_of_none h3 hp).symm⟩
theorem Nx.tk {d ca ra : Addr} {m : Nat} {H H' : Hp} (n : Nx d ra H H') (h : DrawAt H d ca ra m) : Tk H H' := fun b us e => by
  obtain ⟨cells, rests, nth, h1, h2, h3, h4⟩ := h
  refine n.ex b _ e (fun z => ?_) fun z => ?_
  · rw [z, h1] at e
    cases e
  · rw [z, h3] at e
    cases e
/-- what was free before is free of the draw's lists; a list of one's own -/
theorem Nx.lst {d ra : Addr} {H H' : Hp} {l : Addr} {o : HO} (n : Nx d ra H H') (h : H l = some o) (h1 : l ≠ d) (h2 : l ≠ ra) : H' l = some o := n.ex l o h h1 h2
theorem ints_of {ys : List V} (h : ∀ (i : Nat) (y : V), ys[i]? = some y → ∃ z : Int, y = V.int z) : ∃ zs : List Int, ys = zs.map V.int := by
  induction ys with
  | nil => exact ⟨[], rfl⟩
  | cons y ys ih =>
    obtain ⟨z, rfl⟩ := h 0 y rfl
    obtain ⟨zs, rfl⟩ := ih fun i y e => h (i + 1) y e
    exact ⟨z :: zs, rfl⟩
theorem cutTo (xs : List V) (n : Nat) : cutV xs none (some (n : Int)) = xs.take n := by
  unfold cutV
  rw [show HT.sIx xs.length xs.length (some (n : Int)) = min n xs.length from HT.sIx_nat xs.length _ n, HT.sIx_none, List.drop_zero, Nat.sub_zero]
  by_cases h : n ≤ xs.length
  · rw [Nat.min_eq_left h]
  · rw [Nat.min_eq_right (by omega), List.take_of_length_le (Nat.le_refl _), List.take_of_length_le (by omega)]
section
variable {P : Program} {w : World} {K : PySem.W.Frag} {mg : Str → Option Value} {base : Heap}
def spDraws (K : PySem.W.Frag) : Sp := fun vs H Q _ => ∃ (a : Addr) (ns : List Int), vs = [.ref a] ∧ SqL K H a (ns.map V.int) ∧ ns.length ≤ 63 ∧ ∀ d ca ra H', Gr H H' → DrawAt H' d ca ra 0 → Q (.ref d) H'
theorem sqL_gr {H H' : Hp} {a : Addr} {xs : List V} (g : Gr H H') (h : SqL K H a xs) : SqL K H' a xs := Same.seq g.ex h
theorem sc28 : FnScope ["_law_script", "_law_cells", "_law_cell"] ["_law_script"] (C8.fnScope (st 28)) := C8.fnScope_by (by decide +kernel)
theorem c_draws (M : BI mg) (D : DD K mg "_law_draws" (st 28) ["_law_script"]) : C8.Cal P w K mg base 1 "_law_draws" (spDraws K) [] := by
  refine calD D sc28 (fun vs H Q E h => ?_) fun f cdv A outer s H vs Q E hr h => ?_
  · obtain ⟨_, _, rfl, _⟩ := h
    rfl
  · obtain ⟨a, ns, rfl, hS, hlen, q⟩ := h
    refine ⟨_, pss_cons (ps_set (i := 1) sc28.nd rfl (.inl rfl) (pe_op op_cat (pe_callTy call_list_of (by rfl) M.list (by decide +kernel) (pa_cons (pe_slice sl_list (pv 0) po_none (po_some pe_int)) pa_nil))
        (pe_op op_rep (pe_lst (pa_cons pe_int pa_nil)) (pe_callTy call_int1 (by rfl) M.int (by decide +kernel) (pa_cons (pe_cmpR op_eq (pe_callB call_len_seq (by rfl) M.len PySem.boot_len (pa_cons (pv 0) pa_nil)) pe_int (nomark _)) pa_nil)))))
      (pss_one (ps_ret (pe_lst (pa_cons (pv 1) (pa_cons pe_int (pa_cons
        (pe_lc (own := [("_law_cell", 2)]) (g := gName 2) (tt := tYes) rfl sc28.nd (pi_list (pv 1)) (blkOk_by (N := ["_law_script", "_law_cells", "_law_cell"]) (sc := C8.fnScope (st 28)) (by decide +kernel))
          (fun _ _ _ _ _ => pg_name (i := 2) sc28.nd rfl (Or.inl rfl)) (fun _ _ _ _ _ => pts_nil)
          (fun _ _ _ _ _ => pe_op op_mul (pv 2) (pe_callTy call_int1 (by rfl) M.int (by decide +kernel) (pa_cons (pe_cmpR op_ge (pv 2) (pe_op op_pow pe_int pe_int) (nomark _)) pa_nil)))) pa_nil)))))), ?_⟩
    have hz : ns.length < sizeLine := by
      rw [sizeLine_eq]
      omega
    refine ⟨_, rfl, 63, rfl, a, _, rfl, hS, fun p1 hp1 => ?_⟩
    rw [show cutV (ns.map V.int) none (some 63) = (ns.map V.int).take 63 from cutTo _ 63]
    have g1 : Gr H (upd H p1 (.lst ((ns.map V.int).take 63))) := Gr.lst hp1
    refine ⟨p1, _, rfl, .inl (SqL.of upd_same), fun p2 hp2 => ?_⟩
    have g2 := g1.trans (Gr.lst (xs := (ns.map V.int).take 63) hp2)
    refine ⟨by show 1 ≤ sizeLine; decide, fun p3 hp3 => ?_⟩
    have g3 := g2.trans (Gr.lst (xs := [V.int 0]) hp3)
    refine ⟨_, rfl, a, _, rfl, .inl (sqL_gr g3 hS), rfl, .inr ⟨_, rfl, ?_⟩⟩
    refine ⟨p3, _, _, rfl, rfl, upd_same, ?_, ?_, ?_, fun p4 hp4 => ?_⟩
    · split <;> decide
    · split <;> decide
    · rw [sizeLine_eq]
      split
      · show 1 * 1 ≤ _
        decide
      · show 1 * 0 ≤ _
        decide
    have g4 := (Gr.lst (xs := [V.int 0]) hp3).trans (Gr.lst (xs := (List.replicate (if decide (V.int ((ns.map V.int).length : Nat) = V.int 0) = true then (1 : Int) else 0).toNat [V.int 0]).flatten) hp4)
    have g04 := g2.trans g4
    obtain ⟨cells, ec, hc⟩ : ∃ cells : List Int, (ns.map V.int).take 63 ++ (List.replicate (if decide (V.int ((ns.map V.int).length : Nat) = V.int 0) = true then (1 : Int) else 0).toNat [V.int 0]).flatten = cells.map V.int ∧ 0 < cells.length ∧ cells.length ≤ 64 := by
      cases ns with
      | nil => exact ⟨[0], rfl, by decide, by decide⟩
      | cons x r =>
        refine ⟨(x :: r).take 63, ?_, ?_, ?_⟩
        · rw [if_neg]
          · show _ ++ [] = _
            rw [List.append_nil, List.map_take]
          · intro z
            have := V.int.inj (of_decide_eq_true z)
            rw [List.length_map, List.length_cons] at this
            omega
        · rw [List.length_take, List.length_cons]
          omega
        · rw [List.length_take]
          omega
    refine ⟨p2, p4, _, _, rfl, rfl, g4.ex _ _ upd_same, upd_same, ?_, fun p5 hp5 => ?_⟩
    · have := congrArg List.length ec
      rw [List.length_append] at this
      rw [this, List.length_map, sizeLine_eq]
      omega
    rw [ec]
    have g5 := g04.trans (Gr.lst (xs := cells.map V.int) hp5)
    refine ⟨_, rfl, _, rfl, p5, rfl, ⟨_, SqL.of upd_same⟩, fun L hL => ?_⟩
    refine lc_listG (K := K) (xs := cells.map V.int) (fun _ _ y => ∃ z : Int, y = V.int z) upd_same hL (by rw [List.length_map, sizeLine_eq]; omega) (fun _ _ _ _ _ r => r) (fun i x H1 Kq Nq hi gx kq => ?_) fun ys H1 hyl gx hL1 hR => ?_
    · obtain ⟨z, rfl⟩ : ∃ z : Int, x = V.int z := by
        rw [List.getElem?_map] at hi
        cases e : cells[i]? with
        | none =>
          rw [e] at hi
          cases hi
        | some u =>
          rw [e] at hi
          exact ⟨u, (Option.some.inj hi).symm⟩
      refine ⟨rfl, ?_⟩
      refine iteT (B := Nq H1) ?_
      refine ⟨_, rfl, _, rfl, _, _, rfl, rfl, ⟨by decide, by decide, by decide⟩, _, _, rfl, rfl, .inr ⟨_, rfl, _, _, rfl, rfl, .inr ?_, kq _ _ (Gr.refl _) ⟨_, rfl⟩⟩⟩
      split <;> decide
    · obtain ⟨zs, rfl⟩ := ints_of hR
      have hc5 := gx.ex _ _ (upd_same (a := p5))
      rw [List.length_map, List.length_map] at hyl
      refine ⟨by show 3 ≤ sizeLine; decide, fun d hd => ?_⟩
      have n1 : d ≠ p5 := (ne_of_none hc5 hd).symm
      have n2 : d ≠ L := (ne_of_none hL1 hd).symm
      have n3 : p5 ≠ L := fun z => by
        rw [← z, upd_same] at hL
        cases hL
      exact q d p5 L _ ((g5.trans gx).trans (Gr.lst hd)) ⟨cells, zs, 0, upd_same, by rw [upd_ne n1.symm]; exact hc5, by rw [upd_ne n2.symm]; exact hL1, hyl, hc.1, Nat.le_refl _, n1, n2, n3⟩
end
end KW

set_option Elab.async false
set_option linter.all false
set_option maxRecDepth 100000
set_option maxHeartbeats 1000000
/-! KW9: _law_next, _law_one, _law_rate. -/
namespace KW
open PySem PySem.Spec PyProof.Rows L2 KG
section
variable {P : Program} {w : World} {K : PySem.W.Frag} {mg : Str → Option Value} {base : Heap}
def spNext : Sp := fun vs H Q _ => ∃ (d ca ra : Addr) (m many : Nat), vs = [.ref d, iv many] ∧ DrawAt H d ca ra m ∧ m ≤ 100000 ∧ 0 < many ∧ many < 2 ^ 62 ∧ ∀ k H', k < many → Nx d ra H H' → DrawAt H' d ca ra (m + 1) → Q (iv k) H'
theorem sc29 : FnScope ["_law_drawn", "_law_many", "_law_cells", "_law_nth", "_law_rests", "_law_spot", "_law_digit", "_law_mixed", "_law_more"] ["_law_drawn", "_law_many"] (C8.fnScope (st 29)) := C8.fnScope_by (by decide +kernel)
theorem emod_v (i : Int) {n : Nat} (h : 0 < n) : ∃ k : Nat, k < n ∧ i % ((n : Nat) : Int) = ((k : Nat) : Int) := by
  have h1 := Int.emod_nonneg i (show ((n : Nat) : Int) ≠ 0 by omega)
  have h2 := Int.emod_lt_of_pos i (show 0 < ((n : Nat) : Int) by omega)
  exact ⟨(i % ((n : Nat) : Int)).toNat, by omega, by omega⟩
theorem c_next (M : BI mg) (D : DD K mg "_law_next" (st 29) ["_law_drawn", "_law_many"]) : C8.Cal P w K mg base 1 "_law_next" spNext [] := by
  refine calD D sc29 (fun vs H Q E h => ?_) fun f cdv A outer s H vs Q E hr h => ?_
  · obtain ⟨_, _, _, _, _, rfl, _⟩ := h
    rfl
  · obtain ⟨d, ca, ra, m, many, rfl, hd, hm, hp, hm2, q⟩ := h
    refine ⟨_, pss_cons (ps_asg (pv 0) (L2.pg_unl rfl (pgs_cons (pg_name (i := 2) sc29.nd rfl (.inl rfl)) (pgs_cons (pg_name (i := 3) sc29.nd rfl (.inl rfl)) (pgs_cons (pg_name (i := 4) sc29.nd rfl (.inl rfl)) pgs_nil)))))
      (pss_cons (ps_set (i := 5) sc29.nd rfl (.inl rfl) (pe_op op_mod (pv 3) (pe_callB call_len_seq (by rfl) M.len PySem.boot_len (pa_cons (pv 2) pa_nil))))
      (pss_cons (ps_asg (pe_op op_add (pv 3) pe_int) (pg_sub (pv 0) pe_int set_list))
      (pss_cons (ps_if (pt_cmpR op_gt (pe_ix ix_list (pv 4) (pv 5) (fun _ _ => rfl)) pe_int (nomark _))
        (pss_cons (ps_set (i := 6) sc29.nd rfl (.inl rfl) (pe_op op_mod (pe_ix ix_list (pv 4) (pv 5) (fun _ _ => rfl)) (pv 1)))
        (pss_cons (ps_asg (pe_op op_fdivW (pe_ix ix_list (pv 4) (pv 5) (fun _ _ => rfl)) (pv 1)) (pg_sub (pv 4) (pv 5) set_list))
        (pss_one (ps_ret (pv 6))))) pss_nil)
      (pss_cons (ps_set (i := 7) sc29.nd rfl (.inl rfl) (pe_op op_mod (pe_op op_pow (pe_op op_add (pe_op op_add (pe_op op_mod (pe_ix ix_list (pv 2) (pv 5) (fun _ _ => rfl)) pe_int) (pe_op op_mul pe_int (pv 3))) pe_int) pe_int) pe_int))
      (pss_cons (ps_set (i := 8) sc29.nd rfl (.inl rfl) (pe_op op_mod (pe_op op_pow (pe_op op_add (pe_op op_add (pv 7) (pe_op op_mul (pe_op op_mul pe_int (pv 3)) (pv 3))) pe_int) pe_int) pe_int))
      (pss_one (ps_ret (pe_op op_mod (pe_op op_mod (pe_op op_add (pe_op op_mul (pv 8) pe_int) (pv 7)) pe_int) (pv 1))))))))), ?_⟩
    obtain ⟨cells, rests, nth, h1, h2, h3, hlen, hpos, hle, n1, n2, n3⟩ := hd
    have hp' : (0 : Int) < ((many : Nat) : Int) := by omega
    refine ⟨_, rfl, d, _, rfl, SqL.of h1, rfl, _, _, rfl, _, _, rfl, _, _, rfl, rfl, ?_⟩
    obtain ⟨sp, hsp, esp⟩ := emod_v ((nth : Nat) : Int) hpos
    have hsp2 : sp < rests.length := by omega
    refine ⟨_, rfl, _, rfl, ca, _, rfl, .inl (SqL.of h2), _, _, rfl, rfl, ?_, ?_⟩
    · rw [List.length_map]
      omega
    have es : V.int (((nth : Nat) : Int) % (((cells.map V.int).length : Nat) : Int)) = iv sp := by
      rw [List.length_map, esp]
      rfl
    show tSeq _ _ _ (List.set _ 5 (some (V.int (((nth : Nat) : Int) % (((cells.map V.int).length : Nat) : Int))))) H
    rw [es]
    refine ⟨_, rfl, _, _, rfl, rfl, _, rfl, d, _, 1, 1, rfl, rfl, h1, rfl, ?_⟩
    show tSeq _ _ _ _ (upd H d (.lst [.ref ca, .int (((nth : Nat) : Int) + 1), .ref ra]))
    have x1 : Nx d ra H (upd H d (.lst [.ref ca, .int (((nth : Nat) : Int) + 1), .ref ra])) := ⟨fun b o e hb _ => by rw [upd_ne hb]; exact e, fun hs => simp_upd hs trivial⟩
    have h21 : (upd H d (.lst [.ref ca, .int (((nth : Nat) : Int) + 1), .ref ra])) ca = some (.lst (cells.map V.int)) := by
      rw [upd_ne n1.symm]
      exact h2
    have h31 : (upd H d (.lst [.ref ca, .int (((nth : Nat) : Int) + 1), .ref ra])) ra = some (.lst (rests.map V.int)) := by
      rw [upd_ne n2.symm]
      exact h3
    have h11 : (upd H d (.lst [.ref ca, .int (((nth : Nat) : Int) + 1), .ref ra])) d = some (.lst [.ref ca, .int ((nth + 1 : Nat) : Int), .ref ra]) := upd_same
    generalize upd H d (.lst [.ref ca, .int (((nth : Nat) : Int) + 1), .ref ra]) = H1 at x1 h21 h31 h11 ⊢
    have hr1 : (rests.map V.int)[sp]? = some (V.int rests[sp]) := by rw [List.getElem?_map, List.getElem?_eq_getElem hsp2]; rfl
    have hc1 : (cells.map V.int)[sp]? = some (V.int cells[sp]) := by rw [List.getElem?_map, List.getElem?_eq_getElem hsp]; rfl
    refine ⟨_, rfl, _, rfl, ra, _, _, _, rfl, rfl, SqL.of h31, atI_nat hr1, _, _, rfl, rfl, _, rfl, ite2 (fun hgt => ?_) fun hgt => ?_⟩
    · refine ⟨_, rfl, _, rfl, ra, _, _, _, rfl, rfl, SqL.of h31, atI_nat hr1, _, rfl, _, _, rfl, rfl, hp', ?_⟩
      refine ⟨_, rfl, _, rfl, ra, _, _, _, rfl, rfl, SqL.of h31, atI_nat hr1, _, rfl, _, _, rfl, rfl, wide_div hp' (b := 62) (by omega) (by decide) (by decide), ?_⟩
      refine ⟨_, rfl, _, rfl, ra, _, ((sp : Nat) : Int), sp, rfl, rfl, h31, ?_, ?_⟩
      · show L2.ixN _ _ = _
        unfold L2.ixN
        rw [if_pos (by omega), if_pos (by rw [List.length_map]; omega), Int.toNat_natCast]
      refine ⟨_, rfl, ?_⟩
      obtain ⟨k, hk, ek⟩ := emod_v rests[sp] hp
      have e : V.int (rests[sp] % ((many : Nat) : Int)) = iv k := by
        rw [ek]
        rfl
      show Q (V.int (rests[sp] % ((many : Nat) : Int))) _
      rw [e]
      refine q k _ hk (x1.trans ⟨fun b o e _ hb => by rw [upd_ne hb]; exact e, fun hs => simp_upd hs trivial⟩) ?_
      refine ⟨cells, rests.set sp (rests[sp] / ((many : Nat) : Int)), nth + 1, by rw [upd_ne n2]; exact h11, by rw [upd_ne n3]; exact h21, ?_, by rw [List.length_set]; exact hlen, hpos, by omega, n1, n2, n3⟩
      rw [upd_same, List.map_set]
    · have hn : ((nth : Nat) : Int) ≤ 100000 := by omega
      have hn0 : (0 : Int) ≤ ((nth : Nat) : Int) := by omega
      refine ⟨_, rfl, _, rfl, ca, _, _, _, rfl, rfl, SqL.of h21, atI_nat hc1, _, _, rfl, rfl, (by decide : (0 : Int) < 2147483647), _, rfl, _, _, rfl, rfl, .inl ⟨by decide, by decide⟩, _, _, rfl, rfl, _, _, rfl, rfl, _, _, rfl, rfl, ⟨by decide, by decide, ?_⟩, _, _, rfl, rfl, (by decide : (0 : Int) < 2147483629), ?_⟩
      · show (cells[sp] % 2147483647 + 69621 * ((nth : Nat) : Int) + 30269).natAbs < 2 ^ 64
        omega
      have hx0 : ∀ z : Int, 0 ≤ z % 2147483629 := fun z => Int.emod_nonneg z (by decide)
      have hx1 : ∀ z : Int, z % 2147483629 < 2147483629 := fun z => Int.emod_lt_of_pos z (by decide)
      show tSeq _ _ _ (List.set _ 7 (some (V.int ((cells[sp] % 2147483647 + 69621 * ((nth : Nat) : Int) + 30269) ^ (3 : Int).toNat % 2147483629)))) _
      have y0 := hx0 ((cells[sp] % 2147483647 + 69621 * ((nth : Nat) : Int) + 30269) ^ (3 : Int).toNat)
      have y1 := hx1 ((cells[sp] % 2147483647 + 69621 * ((nth : Nat) : Int) + 30269) ^ (3 : Int).toNat)
      generalize (cells[sp] % 2147483647 + 69621 * ((nth : Nat) : Int) + 30269) ^ (3 : Int).toNat % 2147483629 = mx at y0 y1 ⊢
      have sq0 : 0 ≤ 6007 * ((nth : Nat) : Int) * ((nth : Nat) : Int) := Int.mul_nonneg (by omega) hn0
      have sq1 : 6007 * ((nth : Nat) : Int) * ((nth : Nat) : Int) ≤ 600700000 * 100000 := Int.mul_le_mul (by omega) hn hn0 (by decide)
      refine ⟨_, rfl, _, rfl, _, _, rfl, rfl, .inl ⟨by decide, by decide⟩, _, rfl, _, _, rfl, rfl, .inl ⟨?_, ?_⟩, _, _, rfl, rfl, _, _, rfl, rfl, _, _, rfl, rfl, ⟨by decide, by decide, ?_⟩, _, _, rfl, rfl, (by decide : (0 : Int) < 2147483587), ?_⟩
      · show -(2 ^ 64) < 6007 * ((nth : Nat) : Int)
        omega
      · show 6007 * ((nth : Nat) : Int) < 2 ^ 64
        omega
      · show (mx + 6007 * ((nth : Nat) : Int) * ((nth : Nat) : Int) + 17).natAbs < 2 ^ 64
        generalize 6007 * ((nth : Nat) : Int) * ((nth : Nat) : Int) = sq at sq0 sq1 ⊢
        omega
      show gName 8 (V.int ((mx + 6007 * ((nth : Nat) : Int) * ((nth : Nat) : Int) + 17) ^ (3 : Int).toNat % 2147483587)) _ _ _
      have z0 := Int.emod_nonneg ((mx + 6007 * ((nth : Nat) : Int) * ((nth : Nat) : Int) + 17) ^ (3 : Int).toNat) (b := 2147483587) (by decide)
      have z1 := Int.emod_lt_of_pos ((mx + 6007 * ((nth : Nat) : Int) * ((nth : Nat) : Int) + 17) ^ (3 : Int).toNat) (b := 2147483587) (by decide)
      generalize (mx + 6007 * ((nth : Nat) : Int) * ((nth : Nat) : Int) + 17) ^ (3 : Int).toNat % 2147483587 = mo at z0 z1 ⊢
      refine ⟨_, rfl, _, _, rfl, rfl, .inl ⟨?_, ?_⟩, _, rfl, _, _, rfl, rfl, _, _, rfl, rfl, (by decide : (0 : Int) < 4611686018427387847), _, rfl, _, _, rfl, rfl, hp', ?_⟩
      · show -(2 ^ 64) < mo
        omega
      · show mo < 2 ^ 64
        omega
      obtain ⟨k, hk, ek⟩ := emod_v ((mo * 2147483423 + mx) % 4611686018427387847) hp
      show Q (V.int ((mo * 2147483423 + mx) % 4611686018427387847 % ((many : Nat) : Int))) _
      rw [ek]
      exact q k _ hk x1 ⟨cells, rests, nth + 1, h11, h21, h31, hlen, hpos, by omega, n1, n2, n3⟩
end
end KW

set_option Elab.async false
set_option linter.all false
set_option maxRecDepth 100000
set_option maxHeartbeats 1000000
/-! KW10: _law_one, _law_rate. -/
namespace KW
open PySem PySem.Spec PyProof.Rows L2 KG
section
variable {P : Program} {w : World} {K : PySem.W.Frag} {mg : Str → Option Value} {base : Heap}
def spOne : Sp := fun vs H Q _ => ∃ (d ca ra l : Addr) (m : Nat) (xs : List V), vs = [.ref d, .ref l] ∧ DrawAt H d ca ra m ∧ m ≤ 100000 ∧ H l = some (.lst xs) ∧ 0 < xs.length ∧ xs.length < 2 ^ 62 ∧ l ≠ d ∧ l ≠ ra ∧ ∀ (k : Nat) v H', xs[k]? = some v → Nx d ra H H' → DrawAt H' d ca ra (m + 1) → Q v H'
theorem sc30 : FnScope ["_law_drawn", "_law_items"] ["_law_drawn", "_law_items"] (C8.fnScope (st 30)) := C8.fnScope_by (by decide +kernel)
theorem c_one (M : BI mg) (D : DD K mg "_law_one" (st 30) ["_law_drawn", "_law_items"]) (c1 : C8.Cal P w K mg base 1 "_law_next" spNext []) : C8.Cal P w K mg base 2 "_law_one" spOne [] := by
  refine calD D sc30 (fun vs H Q E h => ?_) fun f cdv A outer s H vs Q E hr h => ?_
  · obtain ⟨_, _, _, _, _, _, rfl, _⟩ := h
    rfl
  · obtain ⟨d, ca, ra, l, m, xs, rfl, hd, hm, hl, h0, h2, n1, n2, q⟩ := h
    refine ⟨_, pss_one (ps_ret (pe_ix ix_list (pv 1) (C8.pe_c c1 hr (by decide) rfl (pa_cons (pv 0) (pa_cons (pe_callB call_len_seq (by rfl) M.len PySem.boot_len (pa_cons (pv 1) pa_nil)) pa_nil))) (fun _ _ => rfl))), ?_⟩
    refine ⟨_, rfl, _, rfl, _, rfl, l, _, rfl, .inl (SqL.of hl), d, ca, ra, m, xs.length, rfl, hd, hm, h0, h2, fun k H' hk nx hd' => ?_⟩
    exact ⟨l, xs, _, _, rfl, rfl, SqL.of (nx.lst hl n1 n2), atI_nat (List.getElem?_eq_getElem hk), q k _ H' (List.getElem?_eq_getElem hk) nx hd'⟩
def spRate : Sp := fun vs H Q _ => ∃ (d ca ra : Addr) (m : Nat), vs = [.ref d] ∧ DrawAt H d ca ra m ∧ m + 3 ≤ 100000 ∧ ∀ p a b H', 1 ≤ a → a ≤ 5 → 1 ≤ b → b ≤ 5 → Nx d ra H H' → DrawAt H' d ca ra (m + 3) → H' p = some (.tup [iv a, iv b]) → Q (.ref p) H'
theorem sc31 : FnScope ["_law_drawn", "_law_way", "_law_give"] ["_law_drawn"] (C8.fnScope (st 31)) := C8.fnScope_by (by decide +kernel)
theorem c_rate (M : BI mg) (D : DD K mg "_law_rate" (st 31) ["_law_drawn"]) (c1 : C8.Cal P w K mg base 1 "_law_next" spNext []) : C8.Cal P w K mg base 2 "_law_rate" spRate [] := by
  refine calD D sc31 (fun vs H Q E h => ?_) fun f cdv A outer s H vs Q E hr h => ?_
  · obtain ⟨_, _, _, _, rfl, _⟩ := h
    rfl
  · obtain ⟨d, ca, ra, m, rfl, hd, hm, q⟩ := h
    refine ⟨_, pss_cons (ps_set (i := 1) sc31.nd rfl (.inl rfl) (C8.pe_c c1 hr (by decide) rfl (pa_cons (pv 0) (pa_cons pe_int pa_nil))))
      (pss_cons (ps_set (i := 2) sc31.nd rfl (.inl rfl) (pe_op op_add pe_int (C8.pe_c c1 hr (by decide) rfl (pa_cons (pv 0) (pa_cons pe_int pa_nil)))))
      (pss_cons (ps_if (pt_cmpR op_eq (pv 1) pe_int (nomark _)) (pss_one (ps_ret (pe_tup (pa_cons (pv 2) (pa_cons (pe_callB (call_max2 rfl) (by rfl) M.max (by decide +kernel) (pa_cons pe_int (pa_cons (pe_callB (call_min2 rfl) (by rfl) M.min (by decide +kernel)
          (pa_cons pe_int (pa_cons (pe_op op_sub (pe_op op_add (pv 2) (C8.pe_c c1 hr (by decide) rfl (pa_cons (pv 0) (pa_cons pe_int pa_nil)))) pe_int) pa_nil))) pa_nil))) pa_nil))))) pss_nil)
      (pss_one (ps_ret (pe_tup (pa_cons (pv 2) (pa_cons (pe_ix ix_list (pe_lst (pa_cons (pe_op op_add pe_int (C8.pe_c c1 hr (by decide) rfl (pa_cons (pv 0) (pa_cons pe_int pa_nil)))) (pa_cons pe_int (pa_cons pe_int pa_nil)))) (pe_op op_sub (pv 1) pe_int) (fun _ _ => rfl)) pa_nil))))))), ?_⟩
    refine ⟨_, rfl, d, ca, ra, m, 4, rfl, hd, by omega, by decide, by decide, fun way H1 hw x1 d1 => ?_⟩
    refine ⟨_, rfl, d, ca, ra, m + 1, 5, rfl, d1, by omega, by decide, by decide, fun g H2 hg x2 d2 => ?_⟩
    refine ⟨_, _, rfl, rfl, ?_⟩
    have eg : V.int (1 + ((g : Nat) : Int)) = iv (1 + g) := by
      unfold iv
      rw [Int.natCast_add]
      rfl
    show tSeq _ _ _ (List.set _ 2 (some (V.int (1 + ((g : Nat) : Int))))) _
    rw [eg]
    refine ⟨_, rfl, rfl, _, rfl, ite2 (fun h => ?_) fun h => ?_⟩
    · refine ⟨_, rfl, _, rfl, _, rfl, d, ca, ra, m + 2, 3, rfl, d2, by omega, by decide, by decide, fun k H3 hk x3 d3 => ?_⟩
      refine ⟨_, _, rfl, rfl, _, _, rfl, rfl, _, _, rfl, _, _, rfl, by show 2 ≤ sizeLine; decide, fun t ht => ?_⟩
      have e : V.int (if (if ((1 + g : Nat) : Int) + ((k : Nat) : Int) - 1 < 5 then ((1 + g : Nat) : Int) + ((k : Nat) : Int) - 1 else 5) > 1 then (if ((1 + g : Nat) : Int) + ((k : Nat) : Int) - 1 < 5 then ((1 + g : Nat) : Int) + ((k : Nat) : Int) - 1 else 5) else 1) = iv (max 1 (min 5 (g + k))) := by
        unfold iv
        congr 1
        split <;> split <;> omega
      refine q t (1 + g) (max 1 (min 5 (g + k))) _ (by omega) (by omega) (by omega) (by omega) (((x1.trans x2).trans x3).trans (Nx.gr (Gr.tup ht))) (d3.gr (Gr.tup ht)) ?_
      rw [← e]
      exact upd_same
    · have hw0 : 0 < way := by
        rcases Nat.eq_zero_or_pos way with z | z
        · subst z
          exact absurd (decide_eq_true rfl) h
        · exact z
      refine ⟨_, rfl, _, rfl, d, ca, ra, m + 2, 5, rfl, d2, by omega, by decide, by decide, fun k H3 hk x3 d3 => ?_⟩
      refine ⟨_, _, rfl, rfl, by show 3 ≤ sizeLine; decide, fun l hl => ?_⟩
      obtain ⟨z, e1, e2⟩ : ∃ z : Nat, [V.int (1 + ((k : Nat) : Int)), V.int 1, V.int 5][way - 1]? = some (iv z) ∧ 1 ≤ z ∧ z ≤ 5 := by
        match way, hw, hw0 with
        | 1, _, _ =>
          refine ⟨1 + k, ?_, by omega, by omega⟩
          unfold iv
          rw [Int.natCast_add]
          rfl
        | 2, _, _ => exact ⟨1, rfl, by decide, by decide⟩
        | 3, _, _ => exact ⟨5, rfl, by decide, by decide⟩
      refine ⟨_, rfl, _, _, rfl, rfl, l, _, ((way - 1 : Nat) : Int), iv z, rfl, ?_, SqL.of upd_same, atI_nat e1, by show 2 ≤ sizeLine; decide, fun t ht => ?_⟩
      · refine congrArg V.int ?_
        show ((way : Nat) : Int) - 1 = _
        omega
      have gg := (Gr.lst (xs := [V.int (1 + ((k : Nat) : Int)), V.int 1, V.int 5]) hl).trans (Gr.tup (xs := [iv (1 + g), iv z]) ht)
      exact q t (1 + g) z _ (by omega) (by omega) (by omega) (by omega) (((x1.trans x2).trans x3).trans (Nx.gr gg)) (d3.gr gg) upd_same
end
end KW

set_option Elab.async false
set_option linter.all false
set_option maxRecDepth 100000
set_option maxHeartbeats 1000000
/-! KW11: _law_board. -/
namespace KW
open PySem PySem.Spec PyProof.Rows L2 KG
inductive Cs (H : Hp) : List V → List Ctr → Prop where
  | nil : Cs H [] []
  | cons {p : Addr} {vs : List V} {c : Ctr} {cs : List Ctr} : H p = some (.tup c.vs) → Cs H vs cs → Cs H (.ref p :: vs) (c :: cs)
theorem Cs.mono {H H' : Hp} {vs : List V} {cs : List Ctr} (h : Cs H vs cs) (k : Tk H H') : Cs H' vs cs := by
  induction h with
  | nil => exact .nil
  | cons e _ ih => exact .cons (k _ _ e) ih
theorem Cs.len {H : Hp} {vs : List V} {cs : List Ctr} (h : Cs H vs cs) : vs.length = cs.length := by
  induction h with
  | nil => rfl
  | cons e _ ih => rw [List.length_cons, List.length_cons, ih]
theorem Cs.insert {H : Hp} {vs : List V} {cs : List Ctr} {p : Addr} {c : Ctr} (h : Cs H vs cs) (e : H p = some (.tup c.vs)) : ∀ i : Nat, Cs H (vs.take i ++ [.ref p] ++ vs.drop i) (cs.take i ++ [c] ++ cs.drop i) := by
  induction h with
  | nil => intro i; simp only [List.take_nil, List.drop_nil, List.nil_append, List.append_nil]; exact .cons e .nil
  | cons e2 h2 ih =>
    intro i
    cases i with
    | zero => exact .cons e (.cons e2 h2)
    | succ i => exact .cons e2 (ih i)
theorem Cs.snoc {H : Hp} {vs : List V} {cs : List Ctr} {p : Addr} {c : Ctr} (h : Cs H vs cs) (e : H p = some (.tup c.vs)) : Cs H (vs ++ [.ref p]) (cs ++ [c]) := by
  induction h with
  | nil => exact .cons e .nil
  | cons e2 h2 ih => exact .cons e2 ih
theorem Cs.get {H : Hp} {vs : List V} {cs : List Ctr} (h : Cs H vs cs) : ∀ (i : Nat) (c : Ctr), cs[i]? = some c → ∃ p, vs[i]? = some (.ref p) ∧ H p = some (.tup c.vs) := by
  induction h with
  | nil => intro i c e; simp at e
  | cons e2 h2 ih =>
    intro i c e
    cases i with
    | zero =>
      have := Option.some.inj e
      subst this
      exact ⟨_, rfl, e2⟩
    | succ i => exact ih i c e
def COk (n : Nat) (cs : List Ctr) : Prop := ∀ c ∈ cs, c.s < n ∧ c.t < n ∧ 1 ≤ c.g ∧ c.g ≤ 5 ∧ 1 ≤ c.h ∧ c.h ≤ 5
theorem COk.add {n : Nat} {cs : List Ctr} {c : Ctr} {i : Nat} (h : COk n cs) (hc : c.s < n ∧ c.t < n ∧ 1 ≤ c.g ∧ c.g ≤ 5 ∧ 1 ≤ c.h ∧ c.h ≤ 5) : COk n (cs.take i ++ [c] ++ cs.drop i) := by
  intro x hx
  rcases List.mem_append.mp hx with hx | hx
  · rcases List.mem_append.mp hx with hx | hx
    · exact h x (List.mem_of_mem_take hx)
    · rw [List.mem_singleton.mp hx]
      exact hc
  · exact h x (List.mem_of_mem_drop hx)
section
variable {P : Program} {w : World} {K : PySem.W.Frag} {mg : Str → Option Value} {base : Heap}
def spBoard : Sp := fun vs H Q _ => ∃ (d ca ra : Addr) (m : Nat), vs = [.ref d] ∧ DrawAt H d ca ra m ∧ m + 100 ≤ 100000 ∧ ∀ b n cs H', 1 ≤ n → n ≤ 4 → cs.length ≤ 8 → COk n cs → Nx d ra H H' → DrawAt H' d ca ra (m + 100) → BrdAt H' b n cs → Q (.ref b) H'
theorem sc32 : FnScope ["_law_drawn", "_law_n", "_law_counters", "_law_ring", "_law_kind", "_law_k", "_law_source", "_law_to"] ["_law_drawn"] (C8.fnScope (st 32)) := C8.fnScope_by (by decide +kernel)
/-- what stands while the counters are gathered -/
structure Gath (d ca ra L : Addr) (H : Hp) (n m : Nat) (cs : List Ctr) (H' : Hp) : Prop where
  nx : Nx d ra H H'
  dr : DrawAt H' d ca ra m
  hl : ∃ vs, H' L = some (.lst vs) ∧ Cs H' vs cs
  ok : COk n cs
theorem Gath.step {d ca ra L : Addr} {H H1 H2 : Hp} {n m m2 : Nat} {cs : List Ctr} (g : Gath d ca ra L H n m cs H1) (nL : L ≠ d ∧ L ≠ ca ∧ L ≠ ra) (x : Nx d ra H1 H2) (dr : DrawAt H2 d ca ra m2) : Gath d ca ra L H n m2 cs H2 := by
  obtain ⟨vs, h1, h2⟩ := g.hl
  exact ⟨g.nx.trans x, dr, ⟨vs, x.lst h1 nL.1 nL.2.2, h2.mono (x.tk g.dr)⟩, g.ok⟩
theorem c_board (M : BI mg) (D : DD K mg "_law_board" (st 32) ["_law_drawn"]) (c1 : C8.Cal P w K mg base 1 "_law_next" spNext []) (c2 : C8.Cal P w K mg base 2 "_law_rate" spRate []) : C8.Cal P w K mg base 3 "_law_board" spBoard [] := by
  refine calD D sc32 (fun vs H Q E h => ?_) fun f cdv A outer s H vs Q E hr h => ?_
  · obtain ⟨_, _, _, _, rfl, _⟩ := h
    rfl
  · obtain ⟨d, ca, ra, m, rfl, hd, hm, q⟩ := h
    refine ⟨_, pss_cons (ps_par (i := 1) (j := 2) (by rfl) sc32.nd rfl rfl (by decide) rfl rfl (pa_cons (pe_ix ix_list (pe_lst (pa_cons pe_int (pa_cons pe_int (pa_cons pe_int (pa_cons pe_int (pa_cons pe_int (pa_cons pe_int (pa_cons pe_int (pa_cons pe_int pa_nil)))))))))
        (C8.pe_c c1 hr (by decide) rfl (pa_cons (pv 0) (pa_cons pe_int pa_nil))) (fun _ _ => rfl)) (pa_cons (pe_lst pa_nil) pa_nil)) (by rfl))
      (pss_cons (ps_set (i := 3) sc32.nd rfl (.inl rfl) (pe_op op_add pe_int (C8.pe_c c1 hr (by decide) rfl (pa_cons (pv 0) (pa_cons (pe_callB (call_max2 rfl) (by rfl) M.max (by decide +kernel) (pa_cons pe_int (pa_cons (pe_op op_sub (pv 1) pe_int) pa_nil))) pa_nil)))))
      (C8.pss_cut (ps_if (PW.pt (pw_and (pt_cmpR op_gt (pv 1) pe_int (nomark _)) (pw_and1 (pt_cmpR op_gt (C8.pe_c c1 hr (by decide) rfl (pa_cons (pv 0) (pa_cons pe_int pa_nil))) pe_int (nomark _)))))
        (pss_one (ps_for PassesOwn.never rfl (pi_range1 (by rfl) M.range (pa_cons (pv 3) pa_nil)) (pg_name (i := 4) sc32.nd rfl (.inl rfl))
          (pss_one (ps_expr (pe_bm PySem.F.plainAttrs_list PySem.F.slot_list_append PySem.F.type_list_append mt_append (pv 2)
            (pa_cons (pe_op op_catT (pe_tup (pa_cons (pv 4) (pa_cons (pe_op op_mod (pe_op op_add (pv 4) pe_int) (pv 3)) pa_nil))) (C8.pe_c c2 hr (by decide) rfl (pa_cons (pv 0) pa_nil))) pa_nil)))))) pss_nil)
      (pss_cons (ps_for PassesOwn.never rfl (pi_range1 (by rfl) M.range (pa_cons (pe_op op_mul (C8.pe_c c1 hr (by decide) rfl (pa_cons (pv 0) (pa_cons (pe_op op_sub pe_int (pe_callB call_len_seq (by rfl) M.len PySem.boot_len (pa_cons (pv 2) pa_nil))) pa_nil)))
            (pe_callTy call_int1 (by rfl) M.int (by decide +kernel) (pa_cons (pe_cmpR op_gt (pv 1) pe_int (nomark _)) pa_nil))) pa_nil)) (pg_name (i := 5) sc32.nd rfl (.inl rfl))
        (pss_cons (ps_set (i := 6) sc32.nd rfl (.inl rfl) (C8.pe_c c1 hr (by decide) rfl (pa_cons (pv 0) (pa_cons (pv 1) pa_nil))))
        (pss_cons (ps_set (i := 7) sc32.nd rfl (.inl rfl) (pe_op op_mod (pe_op op_add (pe_op op_add (pv 6) pe_int) (C8.pe_c c1 hr (by decide) rfl (pa_cons (pv 0) (pa_cons (pe_op op_sub (pv 1) pe_int) pa_nil)))) (pv 1)))
        (pss_one (ps_expr (pe_bm PySem.F.plainAttrs_list PySem.F.slot_list_insert PySem.F.type_list_insert mt_insert (pv 2)
          (pa_cons (C8.pe_c c1 hr (by decide) rfl (pa_cons (pv 0) (pa_cons (pe_op op_add (pe_callB call_len_seq (by rfl) M.len PySem.boot_len (pa_cons (pv 2) pa_nil)) pe_int) pa_nil)))
            (pa_cons (pe_op op_catT (pe_tup (pa_cons (pv 6) (pa_cons (pv 7) pa_nil))) (C8.pe_c c2 hr (by decide) rfl (pa_cons (pv 0) pa_nil))) pa_nil))))))))
      (pss_one (ps_ret (pe_tup (pa_cons (pv 1) (pa_cons (pe_callTy call_tuple_of (by rfl) M.tuple (by decide +kernel) (pa_cons (pv 2) pa_nil)) pa_nil)))))))), ?_⟩
    -- the number of kinds
    refine ⟨by show 8 ≤ sizeLine; decide, fun l hl => ?_⟩
    have g0 := Gr.lst (xs := [V.int 1, V.int 2, V.int 2, V.int 3, V.int 3, V.int 4, V.int 4, V.int 4]) hl
    obtain ⟨m1, m2, m3⟩ := hd.ne hl
    refine ⟨_, rfl, d, ca, ra, m, 8, rfl, hd.gr g0, by omega, by decide, by decide, fun k H1 hk x1 d1 => ?_⟩
    obtain ⟨n, en, n1, n4⟩ : ∃ n : Nat, [V.int 1, V.int 2, V.int 2, V.int 3, V.int 3, V.int 4, V.int 4, V.int 4][k]? = some (iv n) ∧ 1 ≤ n ∧ n ≤ 4 := by
      match k, hk with
      | 0, _ => exact ⟨1, rfl, by decide, by decide⟩
      | 1, _ => exact ⟨2, rfl, by decide, by decide⟩
      | 2, _ => exact ⟨2, rfl, by decide, by decide⟩
      | 3, _ => exact ⟨3, rfl, by decide, by decide⟩
      | 4, _ => exact ⟨3, rfl, by decide, by decide⟩
      | 5, _ => exact ⟨4, rfl, by decide, by decide⟩
      | 6, _ => exact ⟨4, rfl, by decide, by decide⟩
      | 7, _ => exact ⟨4, rfl, by decide, by decide⟩
    refine ⟨l, _, _, _, rfl, rfl, SqL.of (x1.lst upd_same m1 m3), atI_nat en, ?_⟩
    refine ⟨Nat.zero_le _, fun L hL => ⟨_, _, rfl, ?_⟩⟩
    have x2 : Nx d ra H (upd H1 L (.lst [])) := ((Nx.gr g0).trans x1).trans (Nx.gr (Gr.lst hL))
    have d2 := d1.gr (Gr.lst (xs := []) hL)
    have nL := d1.ne hL
    have hL0 : H L = none := by
      cases e : H L with
      | none => rfl
      | some o =>
        rw [((Nx.gr g0).trans x1).ex _ _ e nL.1 nL.2.2] at hL
        cases hL
    have ga : Gath d ca ra L H n (m + 1) [] (upd H1 L (.lst [])) := ⟨x2, d2, ⟨[], upd_same, .nil⟩, fun c hc => by cases hc⟩
    generalize upd H1 L (.lst []) = H2 at ga ⊢
    -- the ring
    refine ⟨_, rfl, _, rfl, _, _, rfl, rfl, _, _, rfl, d, ca, ra, m + 1, max 1 (n - 1), ?_, ga.dr, by omega, by omega, by omega, fun rg H3 hrg x3 d3 => ?_⟩
    · show [V.ref d, V.int (if ((n : Nat) : Int) - 1 > 1 then ((n : Nat) : Int) - 1 else 1)] = [V.ref d, iv (max 1 (n - 1))]
      have : (if ((n : Nat) : Int) - 1 > 1 then ((n : Nat) : Int) - 1 else 1) = ((max 1 (n - 1) : Nat) : Int) := by split <;> omega
      rw [this]
      rfl
    refine ⟨_, _, rfl, rfl, ?_⟩
    have erg : V.int (2 + ((rg : Nat) : Int)) = iv (2 + rg) := by
      unfold iv
      rw [Int.natCast_add]
      rfl
    show C8.tCut _ _ _ (List.set _ 3 (some (V.int (2 + ((rg : Nat) : Int))))) _
    rw [erg]
    have gb := ga.step nL x3 d3
    refine ⟨fun σ' H' => (∃ y4, σ' = [some (.ref d), some (iv n), some (.ref L), some (iv (2 + rg)), y4, none, none, none]) ∧ ∃ cs, cs.length ≤ 4 ∧ Gath d ca ra L H n (m + 15) cs H', ?_, ?_⟩
    · refine ⟨_, rfl, _, _, rfl, rfl, _, rfl, ite2 (fun h => ?_) fun h => ?_⟩
      · have h1 : 1 < n := Int.ofNat_lt.mp (of_decide_eq_true h)
        refine ⟨_, rfl, d, ca, ra, m + 1 + 1, 5, rfl, d3, by omega, by decide, by decide, fun k2 H4 hk2 x4 d4 => ?_⟩
        have gc := gb.step nL x4 d4
        refine ⟨_, _, rfl, rfl, _, rfl, ite2 (fun _ => ?_) fun _ => ?_⟩
        · refine ⟨_, rfl, ((2 + rg : Nat) : Int), rfl, by omega, by omega, for_range (lo := 0) (n := 2 + rg) (fun i σ' H' => (∃ y4, σ' = [some (.ref d), some (iv n), some (.ref L), some (iv (2 + rg)), y4, none, none, none]) ∧ ∃ cs, cs.length = i ∧ Gath d ca ra L H n (m + 3 + 3 * i) cs H')
            ⟨⟨none, rfl⟩, [], rfl, gc⟩ (fun i σ' H' hi hP => ?_) fun σ' H' hP => ?_⟩
          · obtain ⟨⟨y4, rfl⟩, cs, hcs, g⟩ := hP
            obtain ⟨vs, hvs, hC⟩ := g.hl
            rw [Int.zero_add]
            refine ⟨_, rfl, .inl ⟨rfl, _, SqL.of hvs⟩, _, rfl, _, rfl, _, _, rfl, rfl, _, rfl, _, _, rfl, rfl, ?_, by show 2 ≤ sizeLine; decide, fun t ht => ?_⟩
            · show (0 : Int) < ((2 + rg : Nat) : Int)
              omega
            have et : V.int ((((i : Nat) : Int) + 1) % ((2 + rg : Nat) : Int)) = iv ((i + 1) % (2 + rg)) := by
              unfold iv
              rw [Int.natCast_emod, Int.natCast_add]
              rfl
            have gt := Gr.tup (xs := [V.int (i : Nat), iv ((i + 1) % (2 + rg))]) ht
            rw [← et] at gt
            have dt := g.dr.gr gt
            refine ⟨_, rfl, d, ca, ra, m + 3 + 3 * i, rfl, dt, by omega, fun p a b H5 a1 a5 b1 b5 x5 d5 hp => ?_⟩
            have tk5 := x5.tk dt
            refine ⟨t, p, _, _, rfl, rfl, SqT.of (tk5 _ _ upd_same), SqT.of hp, by simp, by show 4 ≤ sizeLine; decide, (fun z => by cases z), fun _ z hz => ?_⟩
            have x6 : Nx d ra H' H5 := (Nx.gr gt).trans x5
            have gg := g.step nL x6 d5
            have gz := Gr.tup (xs := [V.int (i : Nat), V.int ((((i : Nat) : Int) + 1) % ((2 + rg : Nat) : Int))] ++ [iv a, iv b]) hz
            obtain ⟨vs6, hvs6, hC6⟩ := gg.hl
            have hL6 := gz.ex _ _ hvs6
            have hlen6 := hC6.len
            refine ⟨L, vs6, _, rfl, rfl, hL6, by rw [hlen6, sizeLine_eq]; omega, ⟨_, rfl⟩, cs ++ [⟨i, (i + 1) % (2 + rg), a, b⟩], by rw [List.length_append, hcs]; rfl, ?_⟩
            have hC7 : Cs (upd H5 z (.tup ([V.int (i : Nat), V.int ((((i : Nat) : Int) + 1) % ((2 + rg : Nat) : Int))] ++ [iv a, iv b]))) (vs6 ++ [.ref z]) (cs ++ [⟨i, (i + 1) % (2 + rg), a, b⟩]) := (hC6.mono (Gr.tk gz)).snoc (by rw [et]; exact upd_same)
            have hmod : (i + 1) % (2 + rg) < 2 + rg := Nat.mod_lt _ (by omega)
            refine ⟨?_, ?_, ⟨_, upd_same, hC7.mono (Tk.lst (Tk.refl _) hL6)⟩, ?_⟩
            · exact Nx.mut (gg.nx.trans (Nx.gr gz)) hL0 trivial
            · exact ((d5.gr gz).mut nL.1 nL.2.1 nL.2.2).le (by omega)
            · intro c hc
              rcases List.mem_append.mp hc with hc | hc
              · exact gg.ok c hc
              · rw [List.mem_singleton.mp hc]
                exact ⟨by show i < n; omega, by show (i + 1) % (2 + rg) < n; omega, a1, a5, b1, b5⟩
          · obtain ⟨⟨y4, rfl⟩, cs, hcs, g⟩ := hP
            exact ⟨⟨y4, rfl⟩, cs, by omega, g.nx, g.dr.le (by omega), g.hl, g.ok⟩
        · exact ⟨⟨none, rfl⟩, [], by decide, gc.nx, gc.dr.le (by omega), gc.hl, gc.ok⟩
      · exact iteF ⟨⟨none, rfl⟩, [], by decide, gb.nx, gb.dr.le (by omega), gb.hl, gb.ok⟩
    · rintro σ' H4 ⟨⟨y4, rfl⟩, cs, hcs, g⟩
      obtain ⟨vs, hvs, hC⟩ := g.hl
      have hlv := hC.len
      refine ⟨_, rfl, _, rfl, L, _, rfl, .inl (SqL.of hvs), _, _, rfl, rfl, d, ca, ra, m + 15, 9 - cs.length, ?_, g.dr, by omega, by omega, by omega, fun k H5 hk x5 d5 => ?_⟩
      · show [V.ref d, V.int (9 - ((vs.length : Nat) : Int))] = [V.ref d, iv (9 - cs.length)]
        rw [hlv]
        have : (9 : Int) - ((cs.length : Nat) : Int) = ((9 - cs.length : Nat) : Int) := by omega
        rw [this]
        rfl
      have g5 := g.step nL x5 d5
      refine ⟨_, rfl, _, _, rfl, rfl, .inr ⟨_, rfl, ?_⟩⟩
      obtain ⟨N, eN, hN, hn1⟩ : ∃ N : Nat, ((k : Nat) : Int) * (if decide ((1 : Int) < ((n : Nat) : Int)) = true then (1 : Int) else 0) = ((N : Nat) : Int) ∧ N ≤ k ∧ (0 < N → 1 < n) := by
        by_cases h : (1 : Int) < ((n : Nat) : Int)
        · rw [decide_eq_true h, if_pos rfl, Int.mul_one]
          exact ⟨k, rfl, Nat.le_refl _, fun _ => by omega⟩
        · rw [decide_eq_false h, if_neg (by decide), Int.mul_zero]
          exact ⟨0, rfl, Nat.zero_le _, fun z => absurd z (Nat.lt_irrefl _)⟩
      refine ⟨_, _, rfl, rfl, .inr ?_, ((N : Nat) : Int), congrArg (fun z => [V.int z]) eN, by omega, by omega, for_range (lo := 0) (n := N) (fun i σ' H' => (∃ y4 y5 y6 y7, σ' = [some (.ref d), some (iv n), some (.ref L), some (iv (2 + rg)), y4, y5, y6, y7]) ∧ ∃ cs', cs'.length = cs.length + i ∧ Gath d ca ra L H n (m + 16 + 6 * i) cs' H')
        ⟨⟨_, none, none, none, rfl⟩, cs, rfl, g5⟩ (fun i σ' H' hi hP => ?_) fun σ' H' hP => ?_⟩
      · split <;> decide
      · obtain ⟨⟨y4', y5, y6, y7, rfl⟩, cs', hcs', g⟩ := hP
        have h1n : 1 < n := hn1 (by omega)
        rw [Int.zero_add]
        -- source, to
        refine ⟨_, rfl, _, rfl, d, ca, ra, m + 16 + 6 * i, n, rfl, g.dr, by omega, by omega, by omega, fun so H6 hso x6 d6 => ?_⟩
        have g6 := g.step nL x6 d6
        refine ⟨_, rfl, _, _, rfl, rfl, _, rfl, _, rfl, _, _, rfl, rfl, d, ca, ra, m + 16 + 6 * i + 1, n - 1, ?_, g6.dr, by omega, by omega, by omega, fun tt H7 htt x7 d7 => ?_⟩
        · show [V.ref d, V.int (((n : Nat) : Int) - 1)] = [V.ref d, iv (n - 1)]
          have : ((n : Nat) : Int) - 1 = ((n - 1 : Nat) : Int) := by omega
          rw [this]
          rfl
        have g7 := g6.step nL x7 d7
        refine ⟨_, _, rfl, rfl, _, rfl, _, _, rfl, rfl, (by show (0 : Int) < ((n : Nat) : Int); omega), ?_⟩
        have eto : V.int ((((so : Nat) : Int) + 1 + ((tt : Nat) : Int)) % ((n : Nat) : Int)) = iv ((so + 1 + tt) % n) := by
          unfold iv
          rw [Int.natCast_emod, Int.natCast_add, Int.natCast_add]
          rfl
        show gName 7 (V.int ((((so : Nat) : Int) + 1 + ((tt : Nat) : Int)) % ((n : Nat) : Int))) _ _ _
        rw [eto]
        obtain ⟨vs7, hvs7, hC7⟩ := g7.hl
        have hlen7 := hC7.len
        refine ⟨_, rfl, .inl ⟨rfl, _, SqL.of hvs7⟩, _, rfl, _, rfl, L, _, rfl, .inl (SqL.of hvs7), _, _, rfl, rfl, d, ca, ra, m + 16 + 6 * i + 1 + 1, cs'.length + 1, ?_, g7.dr, by omega, by omega, by omega, fun ix H8 hix x8 d8 => ?_⟩
        · show [V.ref d, V.int (((vs7.length : Nat) : Int) + 1)] = [V.ref d, iv (cs'.length + 1)]
          rw [hlen7]
          rfl
        have g8 := g7.step nL x8 d8
        refine ⟨_, rfl, _, rfl, by show 2 ≤ sizeLine; decide, fun t ht => ?_⟩
        have gt := Gr.tup (xs := [iv so, iv ((so + 1 + tt) % n)]) ht
        have dt := d8.gr gt
        refine ⟨_, rfl, d, ca, ra, m + 16 + 6 * i + 1 + 1 + 1, rfl, dt, by omega, fun p a b H9 a1 a5 b1 b5 x9 d9 hp => ?_⟩
        have tk9 := x9.tk dt
        refine ⟨t, p, _, _, rfl, rfl, SqT.of (tk9 _ _ upd_same), SqT.of hp, by simp, by show 4 ≤ sizeLine; decide, (fun z => by cases z), fun _ z hz => ?_⟩
        have gg := g8.step nL ((Nx.gr gt).trans x9) d9
        have gz := Gr.tup (xs := [iv so, iv ((so + 1 + tt) % n)] ++ [iv a, iv b]) hz
        obtain ⟨vs9, hvs9, hC9⟩ := gg.hl
        have hL9 := gz.ex _ _ hvs9
        have hlen9 := hC9.len
        have hmod : (so + 1 + tt) % n < n := Nat.mod_lt _ (by omega)
        refine ⟨L, vs9, ((ix : Nat) : Int), .ref z, rfl, rfl, hL9, by rw [hlen9, sizeLine_eq]; omega, by omega, by omega, ?_⟩
        have hC10 : Cs (upd H9 z (.tup ([iv so, iv ((so + 1 + tt) % n)] ++ [iv a, iv b]))) (vs9.take ix ++ [.ref z] ++ vs9.drop ix) (cs'.take ix ++ [⟨so, (so + 1 + tt) % n, a, b⟩] ++ cs'.drop ix) := (hC9.mono (Gr.tk gz)).insert upd_same ix
        refine ⟨⟨_, _, _, _, rfl⟩, cs'.take ix ++ [⟨so, (so + 1 + tt) % n, a, b⟩] ++ cs'.drop ix, ?_, Nx.mut (gg.nx.trans (Nx.gr gz)) hL0 trivial, ((d9.gr gz).mut nL.1 nL.2.1 nL.2.2).le (by omega), ⟨_, upd_same, hC10.mono (Tk.lst (Tk.refl _) hL9)⟩, gg.ok.add ⟨hso, hmod, a1, a5, b1, b5⟩⟩
        rw [List.length_append, List.length_append, List.length_take, List.length_drop, List.length_singleton]
        omega
      · obtain ⟨⟨y4', y5, y6, y7, rfl⟩, cs', hcs', g⟩ := hP
        obtain ⟨vs', hvs', hC'⟩ := g.hl
        refine ⟨_, rfl, _, rfl, L, vs', rfl, .inl ⟨SqL.of hvs', fun t ht => ⟨by show 2 ≤ sizeLine; decide, fun b hb => ?_⟩⟩⟩
        have ne : t ≠ b := fun z => by
          rw [← z, upd_same] at hb
          cases hb
        have gg := (Gr.tup (xs := vs') ht).trans (Gr.tup (xs := [iv n, .ref t]) hb)
        exact q b n cs' _ n1 n4 (by omega) g.ok (g.nx.trans (Nx.gr gg)) ((g.dr.gr gg).le (by omega)) ⟨t, vs', upd_same, by rw [upd_ne ne]; exact upd_same, hC'.len, (hC'.mono (Gr.tk gg)).get⟩
end
end KW

set_option Elab.async false
set_option linter.all false
set_option maxRecDepth 100000
set_option maxHeartbeats 1000000
/-! KW12: _law_loops. -/
namespace KW
open PySem PySem.Spec PyProof.Rows L2 KG
/-- one counter hands on to the next -/
def Path (cs : List Ctr) (ls : List Nat) : Prop := ls ≠ [] ∧ Ixs cs ls ∧ ∀ i j k : Nat, ls[i]? = some j → ls[i + 1]? = some k → (cs.getD j default).t = (cs.getD k default).s
/-- a whole loop of one to four -/
def Ring (cs : List Ctr) (ls : List Nat) : Prop := ls ≠ [] ∧ ls.length ≤ 4 ∧ Ixs cs ls ∧ Closed cs ls
theorem ring_of {cs : List Ctr} {l0 : List Nat} {z a : Nat} (h : Path cs (l0 ++ [z])) (hl : (l0 ++ [z]).length ≤ 4) (ha : (l0 ++ [z])[0]? = some a) (hc : (cs.getD z default).t = (cs.getD a default).s) : Ring cs (l0 ++ [z]) := by
  obtain ⟨h1, h2, h3⟩ := h
  refine ⟨h1, hl, h2, fun i j k hj hk => ?_⟩
  have hi : i < (l0 ++ [z]).length := (List.getElem?_eq_some_iff.mp hj).1
  have hll : (l0 ++ [z]).length = l0.length + 1 := by simp
  unfold nxt at hk
  by_cases hlt : i < l0.length
  · rw [List.getElem?_append_left (by rw [List.length_drop]; omega), List.getElem?_drop, Nat.add_comm 1 i] at hk
    exact h3 i j k hj hk
  · have ei : i = l0.length := by omega
    subst ei
    rw [List.getElem?_append_right (by rw [List.length_drop]; omega), List.length_drop, hll, Nat.add_sub_cancel, Nat.sub_self] at hk
    have ej : z = j := by
      rw [List.getElem?_append_right (Nat.le_refl _), Nat.sub_self] at hj
      exact Option.some.inj hj
    have ek : a = k := by
      rw [List.getElem?_take, if_pos (by decide), ha] at hk
      exact Option.some.inj hk
    rw [← ej, ← ek]
    exact hc
theorem path_add {cs : List Ctr} {l0 : List Nat} {z k : Nat} (h : Path cs (l0 ++ [z])) (hk : k < cs.length) (hc : (cs.getD k default).s = (cs.getD z default).t) : Path cs (l0 ++ [z] ++ [k]) := by
  obtain ⟨h1, h2, h3⟩ := h
  refine ⟨by simp, fun x hx => ?_, fun i j m hj hm => ?_⟩
  · rcases List.mem_append.mp hx with q | q
    · exact h2 x q
    · rw [List.mem_singleton.mp q]
      exact hk
  · have hll : (l0 ++ [z]).length = l0.length + 1 := by simp
    by_cases hlt : i + 1 < (l0 ++ [z]).length
    · rw [List.getElem?_append_left (by omega)] at hj
      rw [List.getElem?_append_left hlt] at hm
      exact h3 i j m hj hm
    · have hm2 : i + 1 < (l0 ++ [z] ++ [k]).length := (List.getElem?_eq_some_iff.mp hm).1
      rw [List.length_append, List.length_singleton] at hm2
      have ei : i = l0.length := by omega
      subst ei
      rw [List.getElem?_append_left (by omega), List.getElem?_append_right (Nat.le_refl _), Nat.sub_self] at hj
      rw [List.getElem?_append_right (by omega), hll, Nat.sub_self] at hm
      have ej : z = j := Option.some.inj hj
      have em : k = m := Option.some.inj hm
      rw [← ej, ← em]
      exact hc.symm
theorem path_one {cs : List Ctr} {k : Nat} (hk : k < cs.length) : Path cs [k] := by
  refine ⟨by simp, fun x hx => by rw [List.mem_singleton.mp hx]; exact hk, fun i j m hj hm => ?_⟩
  have := (List.getElem?_eq_some_iff.mp hm).1
  rw [List.length_singleton] at this
  omega
theorem last_of {ls : List Nat} (h : ls ≠ []) : ∃ l0 z, ls = l0 ++ [z] := ⟨ls.dropLast, ls.getLast h, (List.dropLast_concat_getLast h).symm⟩
theorem head_of {ls : List Nat} (h : ls ≠ []) : ∃ a, ls[0]? = some a := by
  cases ls with
  | nil => exact absurd rfl h
  | cons a r => exact ⟨a, rfl⟩
/-- all of them are routes of this kind -/
def RtAll (H : Hp) (Pr : List Nat → Prop) (vs : List V) : Prop := ∀ v ∈ vs, ∃ p ls, v = .ref p ∧ LpAt H p ls ∧ Pr ls
theorem RtAll.mono {H H' : Hp} {Pr : List Nat → Prop} {vs : List V} (h : RtAll H Pr vs) (k : Tk H H') : RtAll H' Pr vs := fun v hv => by
  obtain ⟨p, ls, e, hl, hp⟩ := h v hv
  exact ⟨p, ls, e, hl.mono k, hp⟩
theorem RtAll.snoc {H : Hp} {Pr : List Nat → Prop} {vs : List V} {p : Addr} {ls : List Nat} (h : RtAll H Pr vs) (hl : LpAt H p ls) (hp : Pr ls) : RtAll H Pr (vs ++ [.ref p]) := fun v hv => by
  rcases List.mem_append.mp hv with q | q
  · exact h v q
  · exact ⟨p, ls, List.mem_singleton.mp q, hl, hp⟩
/-- the two lists while the routes grow -/
structure Grow (H H' : Hp) (cs : List Ctr) (F R G : Addr) (rs : List V) (i bf bg : Nat) : Prop where
  gr : Gr H H'
  r : H' R = some (.lst rs)
  rr : RtAll H' (fun ls => ls.length = i + 1 ∧ Path cs ls) rs
  f : ∃ fs, H' F = some (.lst fs) ∧ RtAll H' (Ring cs) fs ∧ fs.length ≤ bf
  g : ∃ gs, H' G = some (.lst gs) ∧ RtAll H' (fun ls => ls.length = i + 2 ∧ Path cs ls) gs ∧ gs.length ≤ bg
theorem Grow.up {H H1 H2 : Hp} {cs : List Ctr} {F R G : Addr} {rs : List V} {i bf bg : Nat} (g : Grow H H1 cs F R G rs i bf bg) (x : Gr H1 H2) : Grow H H2 cs F R G rs i bf bg := by
  obtain ⟨fs, f1, f2, f3⟩ := g.f
  obtain ⟨gs, g1, g2, g3⟩ := g.g
  exact ⟨g.gr.trans x, x.ex _ _ g.r, g.rr.mono (Gr.tk x), ⟨fs, x.ex _ _ f1, f2.mono (Gr.tk x), f3⟩, ⟨gs, x.ex _ _ g1, g2.mono (Gr.tk x), g3⟩⟩
theorem Grow.le {H H1 : Hp} {cs : List Ctr} {F R G : Addr} {rs : List V} {i bf bg bf' bg' : Nat} (g : Grow H H1 cs F R G rs i bf bg) (h1 : bf ≤ bf') (h2 : bg ≤ bg') : Grow H H1 cs F R G rs i bf' bg' := by
  obtain ⟨fs, f1, f2, f3⟩ := g.f
  obtain ⟨gs, g1, g2, g3⟩ := g.g
  exact ⟨g.gr, g.r, g.rr, ⟨fs, f1, f2, Nat.le_trans f3 h1⟩, ⟨gs, g1, g2, Nat.le_trans g3 h2⟩⟩
theorem Grow.addF {H H1 : Hp} {cs : List Ctr} {F R G : Addr} {rs : List V} {i bf bg : Nat} (g : Grow H H1 cs F R G rs i bf bg) (hF : H F = none) (n1 : F ≠ R) (n2 : F ≠ G) {fs : List V} (hf : H1 F = some (.lst fs)) {p : Addr} {ls : List Nat} (hl : LpAt H1 p ls) (hp : Ring cs ls) :
    Grow H (upd H1 F (.lst (fs ++ [.ref p]))) cs F R G rs i (bf + 1) bg := by
  have tk : Tk H1 (upd H1 F (.lst (fs ++ [.ref p]))) := Tk.lst (Tk.refl _) hf
  obtain ⟨fs', f1, f2, f3⟩ := g.f
  rw [hf] at f1
  cases f1
  obtain ⟨gs, g1, g2, g3⟩ := g.g
  exact ⟨g.gr.mut hF trivial, by rw [upd_ne n1.symm]; exact g.r, g.rr.mono tk, ⟨_, upd_same, (f2.mono tk).snoc (hl.mono tk) hp, by rw [List.length_append, List.length_singleton]; omega⟩, ⟨gs, by rw [upd_ne n2.symm]; exact g1, g2.mono tk, g3⟩⟩
theorem Grow.addG {H H1 : Hp} {cs : List Ctr} {F R G : Addr} {rs : List V} {i bf bg : Nat} (g : Grow H H1 cs F R G rs i bf bg) (hG : H G = none) (n1 : G ≠ R) (n2 : F ≠ G) {gs : List V} (hg : H1 G = some (.lst gs)) {p : Addr} {ls : List Nat} (hl : LpAt H1 p ls) (hp : ls.length = i + 2 ∧ Path cs ls) :
    Grow H (upd H1 G (.lst (gs ++ [.ref p]))) cs F R G rs i bf (bg + 1) := by
  have tk : Tk H1 (upd H1 G (.lst (gs ++ [.ref p]))) := Tk.lst (Tk.refl _) hg
  obtain ⟨gs', g1, g2, g3⟩ := g.g
  rw [hg] at g1
  cases g1
  obtain ⟨fs, f1, f2, f3⟩ := g.f
  exact ⟨g.gr.mut hG trivial, by rw [upd_ne n1.symm]; exact g.r, g.rr.mono tk, ⟨fs, by rw [upd_ne n2]; exact f1, f2.mono tk, f3⟩, ⟨_, upd_same, (g2.mono tk).snoc (hl.mono tk) hp, by rw [List.length_append, List.length_singleton]; omega⟩⟩
section
variable {P : Program} {w : World} {K : PySem.W.Frag} {mg : Str → Option Value} {base : Heap}
def spLoops : Sp := fun vs H Q _ => ∃ (b : Addr) (n : Nat) (cs : List Ctr), vs = [.ref b] ∧ BrdAt H b n cs ∧ cs.length ≤ 8 ∧ ∀ F fs H', Gr H H' → H F = none → H' F = some (.lst fs) → RtAll H' (Ring cs) fs → fs.length ≤ 20000 → Q (.ref F) H'
theorem sc33 : FnScope ["_law_board_here", "_law_counters", "_law_found", "_law_index", "_law_routes", "_law_length", "_law_longer", "_law_route", "_law_last"] ["_law_board_here"] (C8.fnScope (st 33)) := C8.fnScope_by (by decide +kernel)
theorem c_loops (M : BI mg) (D : DD K mg "_law_loops" (st 33) ["_law_board_here"]) : C8.Cal P w K mg base 1 "_law_loops" spLoops [] := by
  refine calD D sc33 (fun vs H Q E h => ?_) fun f cdv A outer s H vs Q E hr h => ?_
  · obtain ⟨_, _, _, rfl, _⟩ := h
    rfl
  · obtain ⟨b, n, cs, rfl, hb, h8, q⟩ := h
    refine ⟨_, pss_cons (ps_par (i := 1) (j := 2) (by rfl) sc33.nd rfl rfl (by decide) rfl rfl (pa_cons (pe_ix ix_tup (pv 0) pe_int (fun _ _ => rfl)) (pa_cons (pe_lst pa_nil) pa_nil)) (by rfl))
      (pss_cons (ps_setLc (i := 4) (own := [("_law_index", 3)]) (g := gName 3) (tt := tYes) rfl sc33.nd rfl rfl (sw_true rfl rfl rfl (by decide +kernel)) (pi_range1 (by rfl) M.range (pa_cons (pe_callB call_len_seq (by rfl) M.len PySem.boot_len (pa_cons (pv 1) pa_nil)) pa_nil))
          (blkOk_by (N := ["_law_board_here", "_law_counters", "_law_found", "_law_index", "_law_routes", "_law_length", "_law_longer", "_law_route", "_law_last"]) (sc := C8.fnScope (st 33)) (by decide +kernel))
          (fun _ _ _ _ _ => pg_name (i := 3) sc33.nd rfl (Or.inl rfl)) (fun _ _ _ _ _ => pts_nil) (fun _ _ _ _ _ => pe_tup (pa_cons (pv 3) pa_nil)))
      (pss_cons (ps_for PassesOwn.never rfl (pi_range1 (by rfl) M.range (pa_cons pe_int pa_nil)) (pg_name (i := 5) sc33.nd rfl (.inl rfl))
        (pss_cons (ps_set (i := 6) sc33.nd rfl (.inl rfl) (pe_lst pa_nil))
        (pss_cons (ps_for PassesOwn.never rfl (pi_list (pv 4)) (pg_name (i := 7) sc33.nd rfl (.inl rfl))
          (pss_cons (ps_set (i := 8) sc33.nd rfl (.inl rfl) (pe_ix ix_tup (pe_ix ix_tup (pv 1) (pe_ix ix_tup (pv 7) (pe_un un_neg pe_int) (fun _ _ => rfl)) (fun _ _ => rfl)) pe_int (fun _ _ => rfl)))
          (C8.pss_cut (ps_if (pt_cmpR op_eq (pv 8) (pe_ix ix_tup (pe_ix ix_tup (pv 1) (pe_ix ix_tup (pv 7) pe_int (fun _ _ => rfl)) (fun _ _ => rfl)) pe_int (fun _ _ => rfl)) (nomark _))
              (pss_one (ps_expr (pe_bm PySem.F.plainAttrs_list PySem.F.slot_list_append PySem.F.type_list_append mt_append (pv 2) (pa_cons (pv 7) pa_nil)))) pss_nil)
          (pss_one (ps_for PassesOwn.never rfl (pi_range1 (by rfl) M.range (pa_cons (pe_callB call_len_seq (by rfl) M.len PySem.boot_len (pa_cons (pv 1) pa_nil)) pa_nil)) (pg_name (i := 3) sc33.nd rfl (.inl rfl))
            (pss_one (ps_if (pt_cmpR op_eq (pe_ix ix_tup (pe_ix ix_tup (pv 1) (pv 3) (fun _ _ => rfl)) pe_int (fun _ _ => rfl)) (pv 8) (nomark _))
              (pss_one (ps_expr (pe_bm PySem.F.plainAttrs_list PySem.F.slot_list_append PySem.F.type_list_append mt_append (pv 6) (pa_cons (pe_op op_catT (pv 7) (pe_tup (pa_cons (pv 3) pa_nil))) pa_nil)))) pss_nil)))))))
        (pss_one (ps_set (i := 4) sc33.nd rfl (.inl rfl) (pv 6))))))
      (pss_one (ps_ret (pv 2))))), ?_⟩
    obtain ⟨ca, vs, h1, h2, h3, h4⟩ := hb.at
    refine ⟨_, rfl, _, _, _, _, rfl, rfl, SqT.of h1, atI_nat (j := 1) rfl, Nat.zero_le _, fun F hF => ⟨_, _, rfl, ?_⟩⟩
    have gF := Gr.lst (xs := []) hF
    refine ⟨_, rfl, ca, _, rfl, .inr (SqT.of (gF.ex _ _ h2)), ((vs.length : Nat) : Int), rfl, by omega, by omega, fun L hL => ?_⟩
    refine lc_rngG (n := vs.length) (fun H' i y => ∃ p, y = .ref p ∧ LpAt H' p [i]) hL (by rw [h3, sizeLine_eq]; omega) (fun H1 H2 i y tk r => ?_) (fun i H1 Kq Nq hi g1 kq => ?_) fun ys H1 hyl g1 hL1 hR => ?_
    · obtain ⟨p, r1, r2⟩ := r
      exact ⟨p, r1, r2.mono tk⟩
    · refine ⟨rfl, ?_⟩
      refine iteT (B := Nq H1) ?_
      exact ⟨_, rfl, by show 1 ≤ sizeLine; decide, fun t ht => kq _ _ (Gr.tup ht) ⟨t, rfl, upd_same⟩⟩
    have hF1 : H1 F = some (.lst []) := g1.ex _ _ upd_same
    have nFL : F ≠ L := fun z => by
      rw [← z, upd_same] at hL
      cases hL
    have hL0 : H L = none := gF.back hL
    have g01 := gF.trans g1
    have rr1 : RtAll H1 (fun ls => ls.length = 0 + 1 ∧ Path cs ls) ys := fun v hv => by
      obtain ⟨i, hi⟩ := List.getElem?_of_mem hv
      obtain ⟨p, r1, r2⟩ := hR i v hi
      have hil : i < cs.length := by
        have := (List.getElem?_eq_some_iff.mp hi).1
        omega
      exact ⟨p, [i], r1, r2, rfl, path_one hil⟩
    refine ⟨4, rfl, by decide, by decide, for_range (lo := 0) (n := 4) (fun i σ' H' => ∃ y3 R y5 y6 y7 y8 rs, σ' = [some (.ref b), some (.ref ca), some (.ref F), y3, some (.ref R), y5, y6, y7, y8] ∧ Gr H H' ∧ H R = none ∧ F ≠ R ∧ H' R = some (.lst rs) ∧ RtAll H' (fun ls => ls.length = i + 1 ∧ Path cs ls) rs ∧ rs.length ≤ 8 ^ (i + 1) ∧ ∃ fs, H' F = some (.lst fs) ∧ RtAll H' (Ring cs) fs ∧ fs.length ≤ 4096 * i)
      ⟨none, L, none, none, none, none, ys, rfl, g01, hL0, nFL, hL1, rr1, by omega, [], hF1, (fun v hv => by cases hv), Nat.zero_le _⟩ (fun i σ' H' hi hP => ?_) fun σ' H' hP => ?_⟩
    · obtain ⟨y3, R, y5, y6, y7, y8, rs, rfl, gr, hR0, nFR, hRl, rr, hrs, fs, hFl, ff, hfs⟩ := hP
      refine ⟨Nat.zero_le _, fun G hG => ?_⟩
      have gG := Gr.lst (xs := []) hG
      have nGR : G ≠ R := (ne_of_none hRl hG).symm
      have nFG : F ≠ G := ne_of_none hFl hG
      have hG0 : H G = none := gr.back hG
      have h8 : 8 ^ (i + 1) ≤ 4096 := by
        calc 8 ^ (i + 1) ≤ 8 ^ 4 := Nat.pow_le_pow_right (by decide) (by omega)
          _ = 4096 := by decide
      refine ⟨_, rfl, R, rfl, ⟨_, SqL.of (gG.ex _ _ hRl)⟩, for_list (K := K) (a := R) (xs := rs) (fun j σ2 H2 => ∃ y3 y5 y7 y8, σ2 = [some (.ref b), some (.ref ca), some (.ref F), y3, some (.ref R), y5, some (.ref G), y7, y8] ∧ Grow H H2 cs F R G rs i (4096 * i + j) (8 * j))
        ⟨_, _, _, _, rfl, gr.trans gG, gG.ex _ _ hRl, rr.mono (Gr.tk gG), ⟨fs, gG.ex _ _ hFl, ff.mono (Gr.tk gG), hfs⟩, ⟨[], upd_same, (fun v hv => by cases hv), Nat.le_refl _⟩⟩ (fun j σ2 H2 _ hP => ?_) (fun j x σ2 H2 hj hP => ?_) fun σ2 H2 hP => ?_⟩
      · obtain ⟨_, _, _, _, _, g⟩ := hP
        exact SqL.of g.r
      · obtain ⟨y3', y5', y7', y8', rfl, g⟩ := hP
        have hjl : j < rs.length := (List.getElem?_eq_some_iff.mp hj).1
        obtain ⟨p, ls, rfl, hls, hll, hpath⟩ := g.rr x (List.mem_of_getElem? hj)
        obtain ⟨l0, z, rfl⟩ := last_of hpath.1
        obtain ⟨a, ha⟩ := head_of hpath.1
        have hzl : z < cs.length := hpath.2.1 z (by simp)
        have hal : a < cs.length := hpath.2.1 a (List.mem_of_getElem? ha)
        obtain ⟨pz, z1, z2⟩ := h4 z hzl
        obtain ⟨pa, a1, a2⟩ := h4 a hal
        have hls' : H2 p = some (.tup (l0.map iv ++ [iv z])) := by
          have e : H2 p = some (.tup ((l0 ++ [z]).map iv)) := hls
          rw [List.map_append] at e
          exact e
        have hav : ((l0 ++ [z]).map iv)[0]? = some (iv a) := by
          rw [List.getElem?_map, ha]
          rfl
        refine ⟨_, rfl, _, rfl, 1, rfl, p, _, -1, iv z, rfl, rfl, SqT.of hls', atI_last _ _, ca, _, _, _, rfl, rfl, SqT.of (g.gr.ex _ _ h2), atI_nat z1, pz, _, _, _, rfl, rfl, SqT.of (g.gr.ex _ _ z2), atI_nat (j := 1) rfl, ?_⟩
        refine ⟨fun σ3 H3 => ∃ y3 y5, σ3 = [some (.ref b), some (.ref ca), some (.ref F), y3, some (.ref R), y5, some (.ref G), some (.ref p), some (iv (cs.getD z default).t)] ∧ LpAt H3 p (l0 ++ [z]) ∧ Grow H H3 cs F R G rs i (4096 * i + j + 1) (8 * j), ?_, ?_⟩
        · refine ⟨_, rfl, _, rfl, _, rfl, p, _, 0, iv a, rfl, rfl, SqT.of hls, atI_nat (j := 0) hav, ca, _, _, _, rfl, rfl, SqT.of (g.gr.ex _ _ h2), atI_nat a1, pa, _, _, _, rfl, rfl, SqT.of (g.gr.ex _ _ a2), atI_nat (j := 0) rfl, rfl, _, rfl, ite2 (fun h => ?_) fun h => ?_⟩
          · have e : (cs.getD z default).t = (cs.getD a default).s := Int.ofNat.inj (V.int.inj (of_decide_eq_true h))
            have hring : Ring cs (l0 ++ [z]) := ring_of hpath (by omega) ha e
            obtain ⟨fs', f1, f2, f3⟩ := g.f
            refine ⟨_, rfl, .inl ⟨rfl, _, SqL.of f1⟩, _, rfl, F, fs', _, rfl, rfl, f1, by rw [sizeLine_eq]; omega, _, _, rfl, ?_, g.addF hF nFR nFG f1 hls hring⟩
            exact hls.mono (Tk.lst (Tk.refl _) f1)
          · exact ⟨_, _, rfl, hls, g.le (by omega) (Nat.le_refl _)⟩
        · rintro σ3 H3 ⟨y3, y5, rfl, hls3, g3⟩
          refine ⟨_, rfl, ca, _, rfl, .inr (SqT.of (g3.gr.ex _ _ h2)), ((vs.length : Nat) : Int), rfl, by omega, by omega, for_range (lo := 0) (n := vs.length) (fun k σ4 H4 => ∃ y3 y5, σ4 = [some (.ref b), some (.ref ca), some (.ref F), y3, some (.ref R), y5, some (.ref G), some (.ref p), some (iv (cs.getD z default).t)] ∧ LpAt H4 p (l0 ++ [z]) ∧ Grow H H4 cs F R G rs i (4096 * i + j + 1) (8 * j + k))
            ⟨_, _, rfl, hls3, g3⟩ (fun k σ4 H4 hk hP => ?_) fun σ4 H4 hP => ?_⟩
          · obtain ⟨y3, y5, rfl, hls4, g4⟩ := hP
            have hkl : k < cs.length := by omega
            obtain ⟨pk, k1, k2⟩ := h4 k hkl
            rw [Int.zero_add]
            refine ⟨_, rfl, _, rfl, ca, _, _, _, rfl, rfl, SqT.of (g4.gr.ex _ _ h2), atI_nat k1, pk, _, _, _, rfl, rfl, SqT.of (g4.gr.ex _ _ k2), atI_nat (j := 0) rfl, _, rfl, rfl, _, rfl, ite2 (fun h => ?_) fun h => ?_⟩
            · have e : (cs.getD k default).s = (cs.getD z default).t := Int.ofNat.inj (V.int.inj (of_decide_eq_true h))
              have hp5 := path_add hpath hkl e
              obtain ⟨gs, e1, e2, e3⟩ := g4.g
              refine ⟨_, rfl, .inl ⟨rfl, _, SqL.of e1⟩, _, rfl, _, rfl, by show 1 ≤ sizeLine; decide, fun t ht => ?_⟩
              have gt := Gr.tup (xs := [iv k]) ht
              have hls5 := hls4.mono (Gr.tk gt)
              refine ⟨p, t, _, _, rfl, rfl, SqT.of hls5, SqT.of upd_same, by simp, ?_, (fun z => by cases z), fun _ u hu => ?_⟩
              · rw [List.length_map, hll, sizeLine_eq]
                show i + 1 + 1 ≤ _
                omega
              have gu := Gr.tup (xs := (l0 ++ [z]).map iv ++ [iv k]) hu
              have g5 := g4.up (gt.trans gu)
              have hu5 : LpAt (upd (upd H4 t (.tup [iv k])) u (.tup ((l0 ++ [z]).map iv ++ [iv k]))) u (l0 ++ [z] ++ [k]) := by
                unfold LpAt
                rw [upd_same, List.map_append (l₁ := l0 ++ [z])]
                rfl
              refine ⟨G, gs, _, rfl, rfl, gu.ex _ _ (gt.ex _ _ e1), by rw [sizeLine_eq]; omega, _, _, rfl, ?_, g5.addG hG0 nGR nFG (gu.ex _ _ (gt.ex _ _ e1)) hu5 ⟨by rw [List.length_append, hll]; rfl, hp5⟩⟩
              exact (hls5.mono (Gr.tk gu)).mono (Tk.lst (Tk.refl _) (gu.ex _ _ (gt.ex _ _ e1)))
            · exact ⟨_, _, rfl, hls4, g4.le (Nat.le_refl _) (by omega)⟩
          · obtain ⟨y3, y5, rfl, hls4, g4⟩ := hP
            exact ⟨_, _, _, _, rfl, g4.le (by omega) (by omega)⟩
      · obtain ⟨y3', y5', y7', y8', rfl, g⟩ := hP
        obtain ⟨gs, e1, e2, e3⟩ := g.g
        obtain ⟨fs', f1, f2, f3⟩ := g.f
        refine ⟨_, rfl, _, G, _, _, _, _, gs, rfl, g.gr, hG0, nFG, e1, e2, ?_, fs', f1, f2, by omega⟩
        rw [Nat.pow_succ]
        omega
    · obtain ⟨y3, R, y5, y6, y7, y8, rs, rfl, gr, hR0, nFR, hRl, rr, hrs, fs, hFl, ff, hfs⟩ := hP
      exact ⟨_, rfl, q F fs _ gr hF hFl ff (by omega)⟩
end
end KW

set_option Elab.async false
set_option linter.all false
set_option maxRecDepth 100000
set_option maxHeartbeats 1000000
/-! KW13: _law_end_told, _law_shown. -/
namespace KW
open PySem PySem.Spec PyProof.Rows L2 KG
/-! ### what is shown, as data -/
def fateD : Fate → PyData
  | (w, none) => .tuple [.str w]
  | (w, some y) => .tuple [.str w, .int (y : Nat)]
def oD : Option Nat → PyData
  | none => .none
  | some n => .int (n : Nat)
noncomputable def shownD (rs : List (Nat × Nat)) (xs : List Nat) : PyData := .list ([oD (growL rs), oD (topL rs), .list ((fixL rs 40).map fun n => .int (n : Nat))] ++ xs.map fun x => fateD (fateL rs x))
theorem fate_form (rs : List (Nat × Nat)) (x : Nat) : fateL rs x = (cGROWS, none) ∨ ∃ wd y, fateL rs x = (wd, some y) ∧ (wd = cSTAYS ∨ wd = cFALLS ∨ wd = cRISES) := by
  unfold fateL
  split
  · exact .inr ⟨_, _, rfl, .inl rfl⟩
  · split
    · exact .inl rfl
    · refine .inr ⟨_, _, rfl, ?_⟩
      split
      · exact .inr (.inr rfl)
      · exact .inr (.inl rfl)
theorem strOk_w {wd : Str} (h : wd = cSTAYS ∨ wd = cFALLS ∨ wd = cRISES) : PyData.canLay0 (.str wd) = true := by
  rcases h with rfl | rfl | rfl <;> decide +kernel
theorem depth_w (wd : Str) (y : Nat) : PyData.depth (.tuple [.str wd, .int (y : Nat)]) = 1 := by
  simp [PyData.depth, PyData.depthAll]
theorem depth_w1 (wd : Str) : PyData.depth (.tuple [.str wd]) = 1 := by
  simp [PyData.depth, PyData.depthAll]
theorem fate_can (rs : List (Nat × Nat)) (x : Nat) : PyData.canLay0 (fateD (fateL rs x)) = true ∧ PyData.depth (fateD (fateL rs x)) = 1 := by
  rcases fate_form rs x with e | ⟨wd, y, e, h⟩
  · rw [e]
    exact ⟨by decide +kernel, depth_w1 _⟩
  · rw [e]
    refine ⟨?_, depth_w _ _⟩
    show PyData.canLayAll0 [.str wd, .int (y : Nat)] = true
    have := strOk_w h
    simp only [PyData.canLayAll0, PyData.canLay0] at this ⊢
    simp [this]
theorem canAll_of {l : List PyData} (h : ∀ d ∈ l, PyData.canLay0 d = true) : PyData.canLayAll0 l = true := by
  induction l with
  | nil => rfl
  | cons d l ih =>
    show (PyData.canLay0 d && PyData.canLayAll0 l) = true
    rw [h d (List.mem_cons_self ..), ih fun q hq => h q (List.mem_cons_of_mem _ hq)]
    rfl
theorem depthAll_of {l : List PyData} {k : Nat} (h : ∀ d ∈ l, PyData.depth d ≤ k) : PyData.depthAll l ≤ k := by
  induction l with
  | nil => exact Nat.zero_le _
  | cons d l ih =>
    show max (PyData.depth d) (PyData.depthAll l) ≤ k
    have h1 := h d (List.mem_cons_self ..)
    have h2 := ih fun q hq => h q (List.mem_cons_of_mem _ hq)
    omega
theorem oD_can (o : Option Nat) : PyData.canLay0 (oD o) = true ∧ PyData.depth (oD o) ≤ 0 := by
  cases o with
  | none => exact ⟨rfl, Nat.le_refl _⟩
  | some n => exact ⟨rfl, Nat.le_refl _⟩
theorem ints_can (l : List Nat) : PyData.canLay0 (.list (l.map fun n => .int (n : Nat))) = true ∧ PyData.depth (.list (l.map fun n => .int (n : Nat))) ≤ 1 := by
  constructor
  · refine canAll_of fun d hd => ?_
    obtain ⟨n, _, rfl⟩ := List.mem_map.mp hd
    rfl
  · show PyData.depthAll _ + 1 ≤ 1
    have : PyData.depthAll (l.map fun n => PyData.int (n : Nat)) ≤ 0 := depthAll_of fun d hd => by
      obtain ⟨n, _, rfl⟩ := List.mem_map.mp hd
      exact Nat.le_refl _
    omega
theorem shown_parts (rs : List (Nat × Nat)) (xs : List Nat) : ∀ d ∈ ([oD (growL rs), oD (topL rs), .list ((fixL rs 40).map fun n => .int (n : Nat))] ++ xs.map fun x => fateD (fateL rs x)), PyData.canLay0 d = true ∧ PyData.depth d ≤ 1 := by
  intro d hd
  rcases List.mem_append.mp hd with hd | hd
  · rcases List.mem_cons.mp hd with rfl | hd
    · exact ⟨(oD_can _).1, Nat.le_succ_of_le (oD_can _).2⟩
    · rcases List.mem_cons.mp hd with rfl | hd
      · exact ⟨(oD_can _).1, Nat.le_succ_of_le (oD_can _).2⟩
      · rw [List.mem_singleton.mp hd]
        exact ints_can _
  · obtain ⟨x, _, rfl⟩ := List.mem_map.mp hd
    exact ⟨(fate_can rs x).1, Nat.le_of_eq (fate_can rs x).2⟩
theorem shown_can (rs : List (Nat × Nat)) (xs : List Nat) : PyData.canLay0 (shownD rs xs) = true := canAll_of fun d hd => (shown_parts rs xs d hd).1
theorem shown_shaped (rs : List (Nat × Nat)) (xs : List Nat) : SeqAt.shaped (shownD rs xs) = true := by
  unfold SeqAt.shaped
  rw [shown_can, Bool.true_and]
  refine decide_eq_true ?_
  show PyData.depthAll _ + 1 ≤ 64
  have := depthAll_of fun d hd => (shown_parts rs xs d hd).2
  omega
section
variable {P : Program} {w : World} {K : PySem.W.Frag} {mg : Str → Option Value} {base : Heap}
theorem dp_fate {H : Hp} {p : Addr} {fa : Fate} (h : H p = some (.tup (fateVs fa))) : Dp K H (.ref p) (fateD fa) := by
  obtain ⟨wd, o⟩ := fa
  cases o with
  | none => exact .tup (SqT.of h) (.cons (.str _) .nil)
  | some y => exact .tup (SqT.of h) (.cons (.str _) (.cons (.int _) .nil))
theorem dp_o (H : Hp) (o : Option Nat) : Dp K H (oV o) (oD o) := by
  cases o with
  | none => exact .non
  | some n => exact .int _
theorem dp_ints (H : Hp) (l : List Nat) : DpAll K H (l.map iv) (l.map fun n => .int (n : Nat)) := by
  induction l with
  | nil => exact .nil
  | cons n l ih => exact .cons (.int _) ih
/-! ### _law_end_told -/
def spEnd : Sp := fun vs H Q _ => ∃ (b la : Addr) (n x : Nat) (cs : List Ctr) (ls : List Nat), vs = [.ref b, .ref la, iv x] ∧ BrdAt H b n cs ∧ LpAt H la ls ∧ LOk cs ls ∧ ∀ H', Gr H H' → Q (oV (fateL (rates cs ls) x).2) H'
theorem sc34 : FnScope ["_law_board_here", "_law_loop", "_law_amount", "_law_fate"] ["_law_board_here", "_law_loop", "_law_amount"] (C8.fnScope (st 34)) := C8.fnScope_by (by decide +kernel)
theorem c_end (D : DD K mg "_law_end_told" (st 34) ["_law_board_here", "_law_loop", "_law_amount"]) (c1 : C8.Cal P w K mg base 4 "fate_of" (spFate K) []) : C8.Cal P w K mg base 5 "_law_end_told" spEnd [] := by
  refine calD D sc34 (fun vs H Q E h => ?_) fun f cdv A outer s H vs Q E hr h => ?_
  · obtain ⟨_, _, _, _, _, _, rfl, _⟩ := h
    rfl
  · obtain ⟨b, la, n, x, cs, ls, rfl, hb, hl, o, q⟩ := h
    refine ⟨_, pss_cons (ps_set (i := 3) sc34.nd rfl (.inl rfl) (C8.pe_c c1 hr (by decide) rfl (pa_cons (pv 0) (pa_cons (pv 1) (pa_cons (pv 2) pa_nil)))))
      (pss_one (ps_ret (pe_ifExp (pt_cmpR (op_eqD hr.units) (pv 3) (pe_tup (pa_cons pe_str pa_nil)) (nomark _)) pe_non (pe_ix ix_tup (pv 3) pe_int (fun _ _ => rfl))))), ?_⟩
    refine ⟨_, rfl, _, rfl, _, rfl, b, la, n, x, cs, ls, rfl, hb, hl, o, fun p H1 g1 hp => ?_⟩
    refine ⟨_, rfl, by show 1 ≤ sizeLine; decide, fun t ht => ?_⟩
    have gt := Gr.tup (xs := [V.str cGROWS]) ht
    have hp2 := gt.ex _ _ hp
    refine ⟨fateD (fateL (rates cs ls) x), fateD (cGROWS, none), dp_fate hp2, dp_fate (fa := (cGROWS, none)) upd_same, ?_, ?_, _, rfl, ?_⟩
    · unfold SeqAt.shaped
      rw [(fate_can _ _).1, Bool.true_and]
      refine decide_eq_true ?_
      rw [(fate_can _ _).2]
      decide
    · decide +kernel
    rcases fate_form (rates cs ls) x with e | ⟨wd, y, e, h⟩
    · have q' := q _ (g1.trans gt)
      rw [e] at q' ⊢
      have ee : PyData.eqv (fateD (cGROWS, none)) (fateD (cGROWS, none)) = true := by decide +kernel
      rw [ee]
      exact iteT q'
    · have q' := q _ (g1.trans gt)
      rw [e] at q' hp2 ⊢
      have ee : PyData.eqv (fateD (wd, some y)) (fateD (cGROWS, none)) = false := by
        show PyData.eqvAll [.str wd, .int (y : Nat)] [.str cGROWS] = false
        simp [PyData.eqvAll]
      rw [ee]
      exact iteF ⟨_, rfl, p, _, 1, iv y, rfl, rfl, SqT.of hp2, atI_nat (j := 1) rfl, q'⟩
/-! ### _law_shown -/
def spShown (K : PySem.W.Frag) : Sp := fun vs H Q _ => ∃ (b la am : Addr) (n : Nat) (cs : List Ctr) (ls : List Nat) (xs : List Nat), vs = [.ref b, .ref la, .ref am] ∧ BrdAt H b n cs ∧ LpAt H la ls ∧ LOk cs ls ∧ H am = some (.lst (xs.map iv)) ∧ xs.length ≤ 100 ∧
  ∀ p H', Gr H H' → Dp K H' (.ref p) (shownD (rates cs ls) xs) → Q (.ref p) H'
theorem sc36 : FnScope ["_law_board_here", "_law_loop", "_law_amounts", "_law_found", "_law_amount"] ["_law_board_here", "_law_loop", "_law_amounts"] (C8.fnScope (st 36)) := C8.fnScope_by (by decide +kernel)
theorem fix_len (rs : List (Nat × Nat)) (m : Nat) : (fixL rs m).length ≤ m + 1 := by
  unfold fixL
  refine Nat.le_trans (List.length_filter_le _ _) ?_
  rw [List.length_range]
  exact Nat.le_refl _
theorem c_shown (M : BI mg) (D : DD K mg "_law_shown" (st 36) ["_law_board_here", "_law_loop", "_law_amounts"]) (c1 : C8.Cal P w K mg base 3 "growth_start" (spOf fun rs => oV (growL rs)) []) (c2 : C8.Cal P w K mg base 3 "greatest_fixed" (spOf fun rs => oV (topL rs)) [])
    (c3 : GDef P w K mg base 2 "fixed_amounts" spFix) (c4 : C8.Cal P w K mg base 4 "fate_of" (spFate K) []) : C8.Cal P w K mg base 7 "_law_shown" (spShown K) [] := by
  refine calD D sc36 (fun vs H Q E h => ?_) fun f cdv A outer s H vs Q E hr h => ?_
  · obtain ⟨_, _, _, _, _, _, _, rfl, _⟩ := h
    rfl
  · obtain ⟨b, la, am, n, cs, ls, xs, rfl, hb, hl, o, ham, hxs, q⟩ := h
    refine ⟨_, pss_cons (ps_set (i := 3) sc36.nd rfl (.inl rfl) (pe_lst (pa_cons (C8.pe_c c1 hr (by decide) rfl (pa_cons (pv 0) (pa_cons (pv 1) pa_nil))) (pa_cons (C8.pe_c c2 hr (by decide) rfl (pa_cons (pv 0) (pa_cons (pv 1) pa_nil))) pa_nil))))
      (pss_cons (ps_expr (pe_bm PySem.F.plainAttrs_list PySem.F.slot_list_append PySem.F.type_list_append mt_append (pv 3) (pa_cons (pe_listF c3 hr (by rfl) (by rfl) M.list (by decide +kernel) (pa_cons (pv 0) (pa_cons (pv 1) (pa_cons pe_int pa_nil)))) pa_nil)))
      (pss_one (ps_ret (pe_op op_cat (pv 3) (pe_lc (own := [("_law_amount", 4)]) (g := gName 4) (tt := tYes) rfl sc36.nd (pi_list (pv 2)) (blkOk_by (N := ["_law_board_here", "_law_loop", "_law_amounts", "_law_found", "_law_amount"]) (sc := C8.fnScope (st 36)) (by decide +kernel))
          (fun _ _ _ _ _ => pg_name (i := 4) sc36.nd rfl (Or.inl rfl)) (fun _ _ _ _ _ => pts_nil) (fun _ _ _ _ _ => C8.pe_c c4 hr (by decide) rfl (pa_cons (pv 0) (pa_cons (pv 1) (pa_cons (pv 4) pa_nil))))))))), ?_⟩
    refine ⟨_, rfl, _, rfl, b, la, n, cs, ls, rfl, hb, hl, o, fun H1 g1 => ?_⟩
    refine ⟨_, rfl, _, rfl, b, la, n, cs, ls, rfl, hb.mono (Gr.tk g1), hl.mono (Gr.tk g1), o, fun H2 g2 => ?_⟩
    refine ⟨by show 2 ≤ sizeLine; decide, fun L hL => ?_⟩
    have gL := Gr.lst (xs := [oV (growL (rates cs ls)), oV (topL (rates cs ls))]) hL
    have g12 := g1.trans g2
    have hL0 : H L = none := g12.back hL
    have g3 := g12.trans gL
    refine ⟨_, rfl, .inl ⟨rfl, _, SqL.of upd_same⟩, _, rfl, _, rfl, (fixL (rates cs ls) 40).map iv, ⟨b, la, n, 40, cs, ls, rfl, hb.mono (Gr.tk g3), hl.mono (Gr.tk g3), o, by decide, rfl⟩, ?_, fun H3 g4 p3 hp3 => ?_⟩
    · rw [List.length_map, sizeLine_eq]
      have := fix_len (rates cs ls) 40
      omega
    have hL3 : H3 L = some (.lst [oV (growL (rates cs ls)), oV (topL (rates cs ls))]) := g4.ex _ _ upd_same
    have g5 := Gr.lst (xs := (fixL (rates cs ls) 40).map iv) hp3
    refine ⟨L, _, _, rfl, rfl, g5.ex _ _ hL3, by show 2 < sizeLine; decide, ?_⟩
    have nLp : L ≠ p3 := ne_of_none hL3 hp3
    have g6 : Gr H (upd (upd H3 p3 (.lst ((fixL (rates cs ls) 40).map iv))) L (.lst ([oV (growL (rates cs ls)), oV (topL (rates cs ls))] ++ [.ref p3]))) := Gr.mut ((g3.trans g4).trans g5) hL0 trivial
    have hLx : (upd (upd H3 p3 (.lst ((fixL (rates cs ls) 40).map iv))) L (.lst ([oV (growL (rates cs ls)), oV (topL (rates cs ls))] ++ [.ref p3]))) L = some (.lst ([oV (growL (rates cs ls)), oV (topL (rates cs ls))] ++ [.ref p3])) := upd_same
    have hpx : (upd (upd H3 p3 (.lst ((fixL (rates cs ls) 40).map iv))) L (.lst ([oV (growL (rates cs ls)), oV (topL (rates cs ls))] ++ [.ref p3]))) p3 = some (.lst ((fixL (rates cs ls) 40).map iv)) := by
      rw [upd_ne nLp.symm]
      exact upd_same
    generalize upd (upd H3 p3 (.lst ((fixL (rates cs ls) 40).map iv))) L (.lst ([oV (growL (rates cs ls)), oV (topL (rates cs ls))] ++ [.ref p3])) = H4 at g6 hLx hpx ⊢
    refine ⟨_, rfl, _, rfl, am, rfl, ⟨_, SqL.of (g6.ex _ _ ham)⟩, fun C hC => ?_⟩
    refine lc_listG (K := K) (xs := xs.map iv) (fun H' i y => ∃ p x, xs[i]? = some x ∧ y = .ref p ∧ H' p = some (.tup (fateVs (fateL (rates cs ls) x)))) (g6.ex _ _ ham) hC (by rw [List.length_map, sizeLine_eq]; omega) (fun Ha Hb i y tk r => ?_) (fun i x H5 Kq Nq hi gx kq => ?_) fun ys H5 hyl gx hC1 hR => ?_
    · obtain ⟨p, x, r1, r2, r3⟩ := r
      exact ⟨p, x, r1, r2, tk _ _ r3⟩
    · obtain ⟨x, hx, rfl⟩ := lp_at hi
      have gg := g6.trans gx
      refine ⟨rfl, ?_⟩
      refine iteT (B := Nq H5) ?_
      exact ⟨_, rfl, _, rfl, _, rfl, b, la, n, x, cs, ls, rfl, hb.mono (Gr.tk gg), hl.mono (Gr.tk gg), o, fun p H6 g7 hp => kq _ _ g7 ⟨p, x, hx, rfl, hp⟩⟩
    · have hL5 := gx.ex _ _ hLx
      have hp5 := gx.ex _ _ hpx
      rw [List.length_map] at hyl
      refine ⟨L, C, _, _, rfl, rfl, hL5, hC1, ?_, fun p hp => ?_⟩
      · rw [hyl, sizeLine_eq]
        show 3 + xs.length ≤ _
        omega
      have gp := Gr.lst (xs := [oV (growL (rates cs ls)), oV (topL (rates cs ls))] ++ [.ref p3] ++ ys) hp
      refine q p _ ((g6.trans gx).trans gp) (.lst (SqL.of upd_same) ?_)
      have tail : ∀ (ws : List Nat) (zs : List V), zs.length = ws.length → (∀ (i : Nat) (y : V), zs[i]? = some y → ∃ p x, ws[i]? = some x ∧ y = .ref p ∧ H5 p = some (.tup (fateVs (fateL (rates cs ls) x)))) → DpAll K (upd H5 p (.lst ([oV (growL (rates cs ls)), oV (topL (rates cs ls))] ++ [.ref p3] ++ ys))) zs (ws.map fun x => fateD (fateL (rates cs ls) x)) := by
        generalize [oV (growL (rates cs ls)), oV (topL (rates cs ls))] ++ [V.ref p3] ++ ys = whole at gp ⊢
        clear hyl hR hC1
        intro xs
        induction xs with
        | nil =>
          intro ys h1 _
          cases ys with
          | nil => exact .nil
          | cons y r => cases h1
        | cons x xs ih =>
          intro ys h1 h2
          cases ys with
          | nil => cases h1
          | cons y r =>
            obtain ⟨pp, x', e1, rfl, e3⟩ := h2 0 y rfl
            cases e1
            exact .cons (dp_fate (gp.ex _ _ e3)) (ih r (by simpa using h1) fun i z hz => h2 (i + 1) z hz)
      exact .cons (dp_o _ _) (.cons (dp_o _ _) (.cons (.lst (SqL.of (gp.ex _ _ hp5)) (dp_ints _ _)) (tail xs ys hyl hR)))
end
end KW

set_option Elab.async false
set_option linter.all false
set_option maxRecDepth 100000
set_option maxHeartbeats 1000000
/-! KW14: a loop begun elsewhere; what the walk asks of the plain law. -/
namespace KW
open PySem PySem.Spec PyProof.Rows L2 KG
theorem nxt_cons (a : Nat) (r : List Nat) : nxt (a :: r) = r ++ [a] := rfl
theorem closed_rot1 {cs : List Ctr} {a : Nat} {r : List Nat} (h : Closed cs (a :: r)) : Closed cs (r ++ [a]) := by
  intro i j k hj hk
  have hi : i < (r ++ [a]).length := (List.getElem?_eq_some_iff.mp hj).1
  rw [List.length_append, List.length_singleton] at hi
  by_cases hlt : i < r.length
  · refine h (i + 1) j k ?_ ?_
    · rw [List.getElem?_append_left hlt] at hj
      exact hj
    · rw [nxt_cons]
      unfold nxt at hk
      rw [List.getElem?_append_left (by rw [List.length_drop, List.length_append, List.length_singleton]; omega), List.getElem?_drop, Nat.add_comm 1 i] at hk
      exact hk
  · have ei : i = r.length := by omega
    subst ei
    have ej : a = j := by
      rw [List.getElem?_append_right (Nat.le_refl _), Nat.sub_self] at hj
      exact Option.some.inj hj
    subst ej
    refine h 0 a k rfl ?_
    rw [nxt_cons]
    unfold nxt at hk
    rw [List.getElem?_append_right (by rw [List.length_drop, List.length_append, List.length_singleton]; omega), List.length_drop, List.length_append, List.length_singleton, Nat.add_sub_cancel, Nat.sub_self, List.getElem?_take, if_pos (by decide)] at hk
    exact hk
theorem closed_rot {cs : List Ctr} {ls : List Nat} (h : Closed cs ls) : ∀ c, c ≤ ls.length → Closed cs (ls.drop c ++ ls.take c) := by
  intro c
  induction c with
  | zero =>
    intro _
    rw [List.drop_zero, List.take_zero, List.append_nil]
    exact h
  | succ c ih =>
    intro hc
    have h1 := ih (by omega)
    have e : ls.drop c = ls[c] :: ls.drop (c + 1) := List.drop_eq_getElem_cons (by omega)
    have e2 : ls.take (c + 1) = ls.take c ++ [ls[c]] := (List.take_append_getElem (by omega)).symm
    rw [e, List.cons_append] at h1
    have h2 := closed_rot1 h1
    rw [e2, ← List.append_assoc]
    exact h2
theorem ring_rot {cs : List Ctr} {ls : List Nat} (h : Ring cs ls) {c : Nat} (hc : c < ls.length) : Ring cs (ls.drop c ++ ls.take c) := by
  obtain ⟨h1, h2, h3, h4⟩ := h
  refine ⟨fun z => ?_, ?_, fun x hx => ?_, closed_rot h4 c (by omega)⟩
  · have := congrArg List.length z
    rw [List.length_append, List.length_drop, List.length_take, List.length_nil] at this
    omega
  · rw [List.length_append, List.length_drop, List.length_take]
    omega
  · rcases List.mem_append.mp hx with q | q
    · exact h3 x (List.mem_of_mem_drop q)
    · exact h3 x (List.mem_of_mem_take q)
theorem ring_chn {cs : List Ctr} {ls : List Nat} {l0 : Nat} (h : Ring cs ls) (h0 : ls[0]? = some l0) {c : Nat} (hc : c < ls.length) : Chn cs (cs.getD l0 default).s (ls.take c) := by
  obtain ⟨h1, h2, h3, h4⟩ := h
  intro i j hj
  have hi : i < (ls.take c).length := (List.getElem?_eq_some_iff.mp hj).1
  rw [List.length_take] at hi
  have hj2 : ls[i]? = some j := by
    rw [List.getElem?_take, if_pos (by omega)] at hj
    exact hj
  refine ⟨h3 j (List.mem_of_getElem? hj2), ?_⟩
  cases i with
  | zero =>
    rw [h0] at hj2
    have := Option.some.inj hj2
    subst this
    rfl
  | succ i =>
    have hil : i < ls.length := by omega
    show _ = (cs.getD ((ls.take c).getD i 0) default).t
    have e : (ls.take c).getD i 0 = ls[i] := by
      rw [List.getD_eq_getElem?_getD, List.getElem?_take, if_pos (by omega), List.getElem?_eq_getElem hil]
      rfl
    rw [e]
    refine (h4 i ls[i] j (List.getElem?_eq_getElem hil) ?_).symm
    unfold nxt
    rw [List.getElem?_append_left (by rw [List.length_drop]; omega), List.getElem?_drop, Nat.add_comm 1 i]
    exact hj2
theorem LOk.sub {cs : List Ctr} {ls ms : List Nat} (o : LOk cs ls) (h : ∀ x ∈ ms, x ∈ ls) (hl : ms.length ≤ 4) : LOk cs ms := ⟨o.rts, fun i hi => o.ix i (h i hi), hl⟩
theorem rates_take (cs : List Ctr) (ls : List Nat) (c : Nat) : rates cs (ls.take c) = (rates cs ls).take c := by
  unfold rates
  rw [List.map_take]
theorem rates_drop (cs : List Ctr) (ls : List Nat) (c : Nat) : rates cs (ls.drop c) = (rates cs ls).drop c := by
  unfold rates
  rw [List.map_drop]
theorem rates_app (cs : List Ctr) (ls ms : List Nat) : rates cs (ls ++ ms) = rates cs ls ++ rates cs ms := by
  unfold rates
  rw [List.map_append]
theorem cutFrom (xs : List V) (n : Nat) : cutV xs (some (n : Int)) none = xs.drop n := by
  unfold cutV
  rw [show HT.sIx xs.length 0 (some (n : Int)) = min n xs.length from HT.sIx_nat xs.length _ n, HT.sIx_none]
  by_cases h : n ≤ xs.length
  · rw [Nat.min_eq_left h, List.take_of_length_le (by rw [List.length_drop]; exact Nat.le_refl _)]
  · rw [Nat.min_eq_right (by omega), Nat.sub_self, List.take_zero, List.drop_of_length_le (by omega)]
/-- the plain law: begun at B's end, the loop's growth, fixed amounts, ends and tops are A's turn of the first's -/
structure Math : Prop where
  rests : Rests
  start : ∀ A B, R5 (A ++ B) → (growL (A ++ B) = none ↔ growL (B ++ A) = none)
  incr : ∀ A B, R5 (A ++ B) → ((fixL (A ++ B) 60).map (turnL A)).Pairwise (· < ·)
  fixed : ∀ A B, R5 (A ++ B) → ∀ x, turnL (A ++ B) x = x → turnL (B ++ A) (turnL A x) = turnL A x
  ends : ∀ A B, R5 (A ++ B) → ∀ x, (fateL (B ++ A) (turnL A x)).2 = ((fateL (A ++ B) x).2).map (turnL A)
  tops : ∀ A B, R5 (A ++ B) → topL (B ++ A) = (topL (A ++ B)).map (turnL A)
  twice : ∀ A, R5 A → growL (A ++ A) = growL A ∧ topL (A ++ A) = topL A ∧ fixL (A ++ A) 40 = fixL A 40 ∧ ∀ x, fateL (A ++ A) x = fateL A x
end KW

set_option Elab.async false
set_option linter.all false
set_option maxRecDepth 100000
set_option maxHeartbeats 2000000
/-! KW15: _law_begun_right. -/
namespace KW
open PySem PySem.Spec PyProof.Rows L2 KG
theorem notWhole_to (K : PySem.W.Frag) {ls : List Nat} {c : Nat} (h : c < ls.length) : ¬ (HT.sIx (ls.map iv).length 0 none = 0 ∧ HT.sIx (ls.map iv).length (ls.map iv).length (some (c : Int)) = (ls.map iv).length) := by
  rw [show HT.sIx (ls.map iv).length (ls.map iv).length (some (c : Int)) = min c (ls.map iv).length from HT.sIx_nat _ _ c, List.length_map]
  intro z
  have := z.2
  omega
theorem notWhole_from (K : PySem.W.Frag) {ls : List Nat} {c : Nat} (h1 : 1 ≤ c) (h : c < ls.length) : ¬ (HT.sIx (ls.map iv).length 0 (some (c : Int)) = 0 ∧ HT.sIx (ls.map iv).length (ls.map iv).length none = (ls.map iv).length) := by
  rw [show HT.sIx (ls.map iv).length 0 (some (c : Int)) = min c (ls.map iv).length from HT.sIx_nat _ _ c, List.length_map]
  intro z
  have := z.1
  omega
/-- run(board, kind, .., loop[:cut])[1] -/
abbrev tRunE (K : PySem.W.Frag) (ta : TE) : TE := tOp (rIxT K) (tCall spRun [] C8.E0 (tCons (tVar 1) (tCons (tVar 5) (tCons ta (tCons (tSl (rSlT K) (tVar 2) tNoPart (tPart (tVar 3))) tNil))))) (tC (.int 1))
theorem run_rd {K : PySem.W.Frag} {ta : TE} {σ : L2.St} {H : Hp} {Q : VK} {b la : Addr} {n c kind x : Nat} {cs : List Ctr} {ls : List Nat} (s1 : σ[1]? = some (some (.ref b))) (s2 : σ[2]? = some (some (.ref la))) (s3 : σ[3]? = some (some (iv c))) (s5 : σ[5]? = some (some (iv kind)))
    (hta : ∀ R : VK, R (iv x) H → ta σ H R) (hb : BrdAt H b n cs) (hl : LpAt H la ls) (hc2 : c < ls.length) (chn : Chn cs kind (ls.take c)) (o : LOk cs ls) (q : ∀ H', Gr H H' → Q (iv (turnL (rates cs (ls.take c)) x)) H') : tRunE K ta σ H Q := by
  refine ⟨_, s1, _, s5, hta _ ⟨_, s2, _, s3, _, rfl, la, _, rfl, SqT.of hl, notWhole_to K hc2, fun pc hpc => ?_⟩⟩
  rw [show cutV (ls.map iv) none (some (c : Int)) = (ls.take c).map iv by rw [cutTo, List.map_take]]
  have g1 := Gr.tup (xs := (ls.take c).map iv) hpc
  have o2 : LOk cs (ls.take c) := o.sub (fun x hx => List.mem_of_mem_take hx) (by rw [List.length_take]; have := o.len; omega)
  exact ⟨b, pc, n, kind, x, cs, ls.take c, rfl, hb.mono (Gr.tk g1), upd_same, chn, o2, fun p kd H' g2 hp => ⟨p, _, 1, _, rfl, rfl, SqT.of hp, atI_nat (j := 1) rfl, q H' (g1.trans g2)⟩⟩
theorem sorted_uniq : ∀ {l m : List Int}, l.Pairwise (· < ·) → m.Pairwise (· < ·) → (∀ k, k ∈ l ↔ k ∈ m) → l = m
  | [], [], _, _, _ => rfl
  | [], b :: m, _, _, h => absurd ((h b).mpr (List.mem_cons_self ..)) (by simp)
  | a :: l, [], _, _, h => absurd ((h a).mp (List.mem_cons_self ..)) (by simp)
  | a :: l, b :: m, hl, hm, h => by
    obtain ⟨l1, l2⟩ := List.pairwise_cons.mp hl
    obtain ⟨m1, m2⟩ := List.pairwise_cons.mp hm
    have e : a = b := by
      rcases List.mem_cons.mp ((h a).mp (List.mem_cons_self ..)) with q | q
      · exact q
      · rcases List.mem_cons.mp ((h b).mpr (List.mem_cons_self ..)) with q2 | q2
        · exact q2.symm
        · have z1 := m1 a q
          have z2 := l1 b q2
          omega
    subst e
    rw [sorted_uniq l2 m2 fun k => ⟨fun hk => ?_, fun hk => ?_⟩]
    · rcases List.mem_cons.mp ((h k).mp (List.mem_cons_of_mem _ hk)) with q | q
      · have := l1 k hk
        omega
      · exact q
    · rcases List.mem_cons.mp ((h k).mpr (List.mem_cons_of_mem _ hk)) with q | q
      · have := m1 k hk
        omega
      · exact q
theorem dp_intsL {K : PySem.W.Frag} {H : Hp} {p : Addr} {l : List Nat} (h : H p = some (.lst (l.map iv))) : Dp K H (.ref p) (.list (l.map fun n => .int (n : Nat))) := .lst (SqL.of h) (dp_ints H l)
theorem ints_shaped (l : List Nat) : SeqAt.shaped (.list (l.map fun n => .int (n : Nat))) = true := by
  unfold SeqAt.shaped
  rw [(ints_can l).1, Bool.true_and]
  refine decide_eq_true ?_
  have := (ints_can l).2
  omega
theorem ints_refl (l : List Nat) : PyData.eqv (.list (l.map fun n => .int (n : Nat))) (.list (l.map fun n => .int (n : Nat))) = true := SeqAt.eqv_refl _ (ints_can l).1
section
variable {P : Program} {w : World} {K : PySem.W.Frag} {mg : Str → Option Value} {base : Heap}
def spBegun : Sp := fun vs H Q _ => ∃ (d ca ra : Addr) (m : Nat) (b la : Addr) (n c : Nat) (cs : List Ctr) (ls : List Nat), vs = [.ref d, .ref b, .ref la, iv c] ∧ DrawAt H d ca ra m ∧ m + 3 ≤ 100000 ∧ BrdAt H b n cs ∧ LpAt H la ls ∧ Rts cs ∧ Ring cs ls ∧ 1 ≤ c ∧ c < ls.length ∧ Simp H ∧
  ∀ H', Nx d ra H H' → Simp H' → DrawAt H' d ca ra (m + 3) → Q (.bl true) H'
theorem sc35 : FnScope ["_law_drawn", "_law_board_here", "_law_loop", "_law_cut", "_law_other", "_law_kind", "_law_starts", "_law_fixed", "_law_amount", "_law_there", "_law_end", "_law_due", "_law_tops", "_law_one_here"] ["_law_drawn", "_law_board_here", "_law_loop", "_law_cut"] (C8.fnScope (st 35)) := C8.fnScope_by (by decide +kernel)
theorem c_begun (Mt : Math) (M : BI mg) (D : DD K mg "_law_begun_right" (st 35) ["_law_drawn", "_law_board_here", "_law_loop", "_law_cut"]) (cN : C8.Cal P w K mg base 1 "_law_next" spNext []) (cG : C8.Cal P w K mg base 3 "growth_start" (spOf fun rs => oV (growL rs)) []) (cT : C8.Cal P w K mg base 3 "greatest_fixed" (spOf fun rs => oV (topL rs)) [])
    (cF : GDef P w K mg base 2 "fixed_amounts" spFix) (cL : C8.Cal P w K mg base 2 "is_loop" spLoop []) (cR : C8.Cal P w K mg base 3 "run" spRun []) (cU : C8.Cal P w K mg base 2 "turn_of" spTurn []) (cE : C8.Cal P w K mg base 5 "_law_end_told" spEnd []) : C8.Cal P w K mg base 7 "_law_begun_right" spBegun [] := by
  refine calD D sc35 (fun vs H Q E h => ?_) fun f cdv A0 outer s H vs Q E hr h => ?_
  · obtain ⟨_, _, _, _, _, _, _, _, _, _, rfl, _⟩ := h
    rfl
  · obtain ⟨d, ca, ra, m, b, la, n, c, cs, ls, rfl, hd, hm, hb, hl, hrt, ring, hc1, hc2, hsim, q⟩ := h
    refine ⟨_, pss_cons (ps_asg (pe_tup (pa_cons (pe_op op_catT (pe_slice sl_tup (pv 2) (po_some (pv 3)) po_none) (pe_slice sl_tup (pv 2) po_none (po_some (pv 3)))) (pa_cons (pe_ix ix_tup (pe_ix ix_tup (pe_ix ix_tup (pv 1) pe_int (fun _ _ => rfl)) (pe_ix ix_tup (pv 2) pe_int (fun _ _ => rfl)) (fun _ _ => rfl)) pe_int (fun _ _ => rfl)) pa_nil)))
          (pg_tup rfl (pgs_cons (pg_name (i := 4) sc35.nd rfl (.inr rfl)) (pgs_cons (pg_name (i := 5) sc35.nd rfl (.inl rfl)) pgs_nil))))
      (pss_cons (ps_set (i := 6) sc35.nd rfl (.inl rfl) (pe_lst (pa_cons (C8.pe_c cG hr (by decide) rfl (pa_cons (pv 1) (pa_cons (pv 2) pa_nil))) (pa_cons (C8.pe_c cG hr (by decide) rfl (pa_cons (pv 1) (pa_cons (pv 4) pa_nil))) pa_nil))))
      (pss_cons (ps_if (PW.pt (pw_or (pt_not (pt_val (C8.pe_c cL hr (by decide) rfl (pa_cons (pv 1) (pa_cons (pv 4) pa_nil)))))
          (pw_or1 (pt_cmpR op_ne (pe_cmpR op_isN (pe_ix ix_list (pv 6) pe_int (fun _ _ => rfl)) pe_non (nomark _)) (pe_cmpR op_isN (pe_ix ix_list (pv 6) pe_int (fun _ _ => rfl)) pe_non (nomark _)) (nomark _))))) (pss_one (ps_ret pe_bl)) pss_nil)
      (pss_cons (ps_set (i := 7) sc35.nd rfl (.inl rfl) (pe_lst pa_nil))
      (pss_cons (ps_forG cF (hr.mono (by decide)) (by rfl) rfl (pa_cons (pv 1) (pa_cons (pv 2) (pa_cons pe_int pa_nil))) (pg_name (i := 8) sc35.nd rfl (.inl rfl))
        (pss_one (ps_expr (pe_bm PySem.F.plainAttrs_list PySem.F.slot_list_append PySem.F.type_list_append mt_append (pv 7)
          (pa_cons (pe_ix ix_tup (C8.pe_c cR hr (by decide) rfl (pa_cons (pv 1) (pa_cons (pv 5) (pa_cons (pv 8) (pa_cons (pe_slice sl_tup (pv 2) po_none (po_some (pv 3))) pa_nil))))) pe_int (fun _ _ => rfl)) pa_nil)))))
      (pss_cons (ps_if (pt_cmpR (op_neD hr.units) (pv 7) (pe_sortedSet (by rfl) M.sorted (by rfl) M.set (pv 7)) (nomark _)) (pss_one (ps_ret pe_bl)) pss_nil)
      (pss_cons (ps_if (pt_cmpR (op_neD hr.units) (pe_lc (own := [("_law_one_here", 13)]) (g := gName 13) (tt := tYes) rfl sc35.nd (pi_list (pv 7)) (blkOk_by (N := ["_law_drawn", "_law_board_here", "_law_loop", "_law_cut", "_law_other", "_law_kind", "_law_starts", "_law_fixed", "_law_amount", "_law_there", "_law_end", "_law_due", "_law_tops", "_law_one_here"]) (sc := C8.fnScope (st 35)) (by decide +kernel))
            (fun _ _ _ _ _ => pg_name (i := 13) sc35.nd rfl (Or.inl rfl)) (fun _ _ _ _ _ => pts_nil) (fun _ _ _ _ _ => C8.pe_c cU hr (by decide) rfl (pa_cons (pv 1) (pa_cons (pv 4) (pa_cons (pv 13) pa_nil))))) (pv 7) (nomark _)) (pss_one (ps_ret pe_bl)) pss_nil)
      (pss_cons (ps_for PassesOwn.never rfl (pi_list (pe_lst (pa_cons pe_int (pa_cons pe_int (pa_cons pe_int (pa_cons pe_int (pa_cons (C8.pe_c cN hr (by decide) rfl (pa_cons (pv 0) (pa_cons pe_int pa_nil))) (pa_cons (C8.pe_c cN hr (by decide) rfl (pa_cons (pv 0) (pa_cons pe_int pa_nil)))
            (pa_cons (C8.pe_c cN hr (by decide) rfl (pa_cons (pv 0) (pa_cons (pe_op op_pow pe_int pe_int) pa_nil))) pa_nil))))))))) (pg_name (i := 8) sc35.nd rfl (.inl rfl))
        (pss_cons (ps_set (i := 9) sc35.nd rfl (.inl rfl) (pe_ix ix_tup (C8.pe_c cR hr (by decide) rfl (pa_cons (pv 1) (pa_cons (pv 5) (pa_cons (pv 8) (pa_cons (pe_slice sl_tup (pv 2) po_none (po_some (pv 3))) pa_nil))))) pe_int (fun _ _ => rfl)))
        (pss_cons (ps_set (i := 10) sc35.nd rfl (.inl rfl) (C8.pe_c cE hr (by decide) rfl (pa_cons (pv 1) (pa_cons (pv 2) (pa_cons (pv 8) pa_nil)))))
        (pss_cons (ps_set (i := 11) sc35.nd rfl (.inl rfl) (pe_ifExp (pt_cmpR op_isN (pv 10) pe_non (nomark _)) pe_non (pe_ix ix_tup (C8.pe_c cR hr (by decide) rfl (pa_cons (pv 1) (pa_cons (pv 5) (pa_cons (pv 10) (pa_cons (pe_slice sl_tup (pv 2) po_none (po_some (pv 3))) pa_nil))))) pe_int (fun _ _ => rfl))))
        (pss_one (ps_if (pt_cmpR op_ne (C8.pe_c cE hr (by decide) rfl (pa_cons (pv 1) (pa_cons (pv 4) (pa_cons (pv 9) pa_nil)))) (pv 11) (nomark _)) (pss_one (ps_ret pe_bl)) pss_nil))))))
      (pss_cons (ps_set (i := 12) sc35.nd rfl (.inl rfl) (pe_lst (pa_cons (C8.pe_c cT hr (by decide) rfl (pa_cons (pv 1) (pa_cons (pv 2) pa_nil))) (pa_cons (C8.pe_c cT hr (by decide) rfl (pa_cons (pv 1) (pa_cons (pv 4) pa_nil))) pa_nil))))
      (pss_cons (ps_if (pt_cmpR op_in_seq pe_non (pv 12) (by rfl)) (pss_one (ps_ret (pe_cmpR (op_eqD hr.units) (pv 12) (pe_lst (pa_cons pe_non (pa_cons pe_non pa_nil))) (nomark _)))) pss_nil)
      (pss_one (ps_ret (pe_cmpR op_eq (pe_ix ix_tup (C8.pe_c cR hr (by decide) rfl (pa_cons (pv 1) (pa_cons (pv 5) (pa_cons (pe_ix ix_list (pv 12) pe_int (fun _ _ => rfl)) (pa_cons (pe_slice sl_tup (pv 2) po_none (po_some (pv 3))) pa_nil))))) pe_int (fun _ _ => rfl)) (pe_ix ix_list (pv 12) pe_int (fun _ _ => rfl)) (nomark _))))))))))))), ?_⟩
    obtain ⟨l0, hl0⟩ := head_of ring.1
    have hlen4 : ls.length ≤ 4 := ring.2.1
    have o1 : LOk cs ls := ⟨hrt, ring.2.2.1, hlen4⟩
    have ring2 := ring_rot ring hc2
    have o2 : LOk cs (ls.drop c ++ ls.take c) := ⟨hrt, ring2.2.2.1, ring2.2.1⟩
    have chn := ring_chn ring hl0 hc2
    have eA : rates cs ls = rates cs (ls.take c) ++ rates cs (ls.drop c) := by rw [← rates_app, List.take_append_drop]
    have eB : rates cs (ls.drop c ++ ls.take c) = rates cs (ls.drop c) ++ rates cs (ls.take c) := rates_app _ _ _
    have r5 : R5 (rates cs (ls.take c) ++ rates cs (ls.drop c)) := eA ▸ o1.r5
    generalize hA : rates cs (ls.take c) = A at eA eB r5
    generalize rates cs (ls.drop c) = B at eA eB r5
    -- other, kind
    obtain ⟨ba, bvs, b1, b2, b3, b4⟩ := hb.at
    have hl0l : l0 < cs.length := ring.2.2.1 l0 (List.mem_of_getElem? hl0)
    obtain ⟨p0, v1, v2⟩ := b4 l0 hl0l
    have hlv : (ls.map iv)[0]? = some (iv l0) := by
      rw [List.getElem?_map, hl0]
      rfl
    refine ⟨_, rfl, _, rfl, _, rfl, la, _, rfl, SqT.of hl, notWhole_from K hc1 hc2, fun q1 hq1 => ?_⟩
    rw [show cutV (ls.map iv) (some (c : Int)) none = (ls.drop c).map iv by rw [cutFrom, List.map_drop]]
    have g1 := Gr.tup (xs := (ls.drop c).map iv) hq1
    refine ⟨_, rfl, _, rfl, _, rfl, la, _, rfl, SqT.of (g1.ex _ _ hl), notWhole_to K hc2, fun q2 hq2 => ?_⟩
    rw [show cutV (ls.map iv) none (some (c : Int)) = (ls.take c).map iv by rw [cutTo, List.map_take]]
    have g2 := Gr.tup (xs := (ls.take c).map iv) hq2
    have hdl : (ls.drop c).length = ls.length - c := List.length_drop
    have htl : (ls.take c).length = c := by rw [List.length_take]; omega
    refine ⟨q1, q2, _, _, rfl, rfl, SqT.of (g2.ex _ _ upd_same), SqT.of upd_same, ?_, ?_, fun z => ?_, fun _ q3 hq3 => ?_⟩
    · intro z
      have := congrArg List.length z
      rw [List.length_map, hdl, List.length_nil] at this
      omega
    · rw [List.length_map, List.length_map, hdl, htl, sizeLine_eq]
      omega
    · have := congrArg List.length z
      rw [List.length_map, htl, List.length_nil] at this
      omega
    have g3 := (g1.trans g2).trans (Gr.tup (xs := (ls.drop c).map iv ++ (ls.take c).map iv) hq3)
    refine ⟨_, rfl, _, _, _, _, rfl, rfl, SqT.of (g3.ex _ _ b1), atI_nat (j := 1) rfl, _, rfl, la, _, 0, iv l0, rfl, rfl, SqT.of (g3.ex _ _ hl), atI_nat (j := 0) hlv, ba, _, _, _, rfl, rfl, SqT.of (g3.ex _ _ b2), atI_nat v1, p0, _, _, _, rfl, rfl, SqT.of (g3.ex _ _ v2), atI_nat (j := 0) rfl, by show 2 ≤ sizeLine; decide, fun q4 hq4 => ?_⟩
    have g4 := g3.trans (Gr.tup (xs := [.ref q3, V.int ((cs.getD l0 default).s : Nat)]) hq4)
    refine ⟨q4, _, rfl, SqT.of upd_same, rfl, _, _, rfl, _, _, rfl, rfl, ?_⟩
    have hlo0 : LpAt (upd (upd (upd (upd H q1 (.tup ((ls.drop c).map iv))) q2 (.tup ((ls.take c).map iv))) q3 (.tup ((ls.drop c).map iv ++ (ls.take c).map iv))) q4 (.tup [.ref q3, V.int ((cs.getD l0 default).s : Nat)])) q3 (ls.drop c ++ ls.take c) := by
      unfold LpAt
      rw [List.map_append]
      exact (Gr.tup (xs := [.ref q3, V.int ((cs.getD l0 default).s : Nat)]) hq4).ex _ _ upd_same
    generalize upd (upd (upd (upd H q1 (.tup ((ls.drop c).map iv))) q2 (.tup ((ls.take c).map iv))) q3 (.tup ((ls.drop c).map iv ++ (ls.take c).map iv))) q4 (.tup [.ref q3, V.int ((cs.getD l0 default).s : Nat)]) = H1 at g4 hlo0 ⊢
    -- the starts
    refine ⟨_, rfl, _, rfl, b, la, n, cs, ls, rfl, hb.mono (Gr.tk g4), hl.mono (Gr.tk g4), o1, fun H2 x2 => ?_⟩
    refine ⟨_, rfl, _, rfl, b, q3, n, cs, _, rfl, hb.mono (Gr.tk (g4.trans x2)), hlo0.mono (Gr.tk x2), o2, fun H3 x3 => ?_⟩
    rw [eA, eB]
    refine ⟨by show 2 ≤ sizeLine; decide, fun L6 hL6 => ?_⟩
    have x6 := Gr.lst (xs := [oV (growL (A ++ B)), oV (growL (B ++ A))]) hL6
    have g6 := ((g4.trans x2).trans x3).trans x6
    have hlo6 := hlo0.mono (Gr.tk ((x2.trans x3).trans x6))
    have hL6' : (upd H3 L6 (.lst [oV (growL (A ++ B)), oV (growL (B ++ A))])) L6 = some (.lst [oV (growL (A ++ B)), oV (growL (B ++ A))]) := upd_same
    generalize upd H3 L6 (.lst [oV (growL (A ++ B)), oV (growL (B ++ A))]) = H4 at g6 hlo6 hL6' ⊢
    have est : decide (oV (growL (A ++ B)) = V.non) = decide (oV (growL (B ++ A)) = V.non) := by
      have key : ∀ o : Option Nat, oV o = V.non ↔ o = none := fun o => by
        cases o with
        | none => exact ⟨fun _ => rfl, fun _ => rfl⟩
        | some n => exact ⟨fun z => (by cases z), fun z => (by cases z)⟩
      have := Mt.start A B r5
      rw [Bool.eq_iff_iff, decide_eq_true_iff, decide_eq_true_iff, key, key]
      exact this
    refine ⟨_, rfl, _, rfl, b, q3, n, cs, _, rfl, hb.mono (Gr.tk g6), hlo6, ring2.2.2.1, ring2.1, ring2.2.1, ring2.2.2.2, fun H5 x5 => ⟨true, rfl, iteF ?_⟩⟩
    have hL65 := x5.ex _ _ hL6'
    refine ⟨_, rfl, L6, _, 0, _, rfl, rfl, SqL.of hL65, atI_nat (j := 0) rfl, rfl, _, rfl, L6, _, 1, _, rfl, rfl, SqL.of hL65, atI_nat (j := 1) rfl, rfl, rfl, false, ?_, iteF ?_⟩
    · rw [est, decide_eq_true rfl]
      rfl
    have g7 := g6.trans x5
    have hlo7 := hlo6.mono (Gr.tk x5)
    -- the fixed amounts
    refine ⟨Nat.zero_le _, fun L7 hL7 => ?_⟩
    have x8 := Gr.lst (xs := []) hL7
    have g8 := g7.trans x8
    have hlo8 := hlo7.mono (Gr.tk x8)
    have hL70 : H L7 = none := g7.back hL7
    have hL78 : (upd H5 L7 (.lst [])) L7 = some (.lst []) := upd_same
    have nLo : ∀ us, (upd H5 L7 (.lst [])) q3 = some (.tup us) → q3 ≠ L7 := fun us e z => by
      rw [z, upd_same] at e
      cases e
    generalize upd H5 L7 (.lst []) = H8 at g8 hlo8 hL78 nLo ⊢
    have s8 : Simp H8 := g8.sm hsim
    refine ⟨_, rfl, _, rfl, (fixL (rates cs ls) 60).map iv, ⟨b, la, n, 60, cs, ls, rfl, (hb.mono (Gr.tk g8)).mono (Tk.tups _), (hl.mono (Gr.tk g8)).mono (Tk.tups _), o1, by decide, rfl⟩, s8,
      fun i σ' H' => (∃ y, σ' = [some (.ref d), some (.ref b), some (.ref la), some (iv c), some (.ref q3), some (iv (cs.getD l0 default).s), some (.ref L6), some (.ref L7), y, none, none, none, none, none]) ∧ (∀ b' o', H8 b' = some o' → b' ≠ L7 → H' b' = some o') ∧ H' L7 = some (.lst ((((fixL (A ++ B) 60).take i).map (turnL A)).map iv)) ∧ Simp H',
      ⟨⟨none, rfl⟩, fun _ _ e _ => e, hL78, s8⟩, fun i x σ' H' hx hW lo => ?_, fun σ' H' hW lo => ?_⟩
    · obtain ⟨⟨y, rfl⟩, kp, hL7', s'⟩ := hW
      obtain ⟨j, hj, rfl⟩ := lp_at hx
      rw [eA] at hj
      have tkk : Tk H H' := fun b' us e => kp _ _ (g8.ex _ _ e) fun z => by rw [z, hL70] at e; cases e
      refine ⟨_, rfl, .inl ⟨rfl, _, SqL.of hL7'⟩, ?_⟩
      refine run_rd (x := j) rfl rfl rfl rfl (fun R h => ⟨_, rfl, h⟩) (hb.mono tkk) (hl.mono tkk) hc2 chn o1 fun H2 g2 => ?_
      rw [hA]
      refine ⟨L7, _, _, rfl, rfl, g2.ex _ _ hL7', ?_, fun b' o' e => ?_, ⟨_, rfl⟩, fun b' o' e nb => ?_, ?_, fun b' o' e => ?_⟩
      · rw [List.length_map, List.length_map, sizeLine_eq]
        have := fix_len (A ++ B) 60
        have h2 : ((fixL (A ++ B) 60).take i).length ≤ (fixL (A ++ B) 60).length := by rw [List.length_take]; exact Nat.min_le_right _ _
        omega
      · by_cases z : b' = L7
        · rw [z, hL78] at e
          cases e
          rw [z]
          exact .inr ⟨_, _, rfl, upd_same⟩
        · rw [upd_ne z]
          exact .inl (g2.ex _ _ (kp _ _ e z))
      · rw [only_some e, upd_ne nb]
        exact g2.ex _ _ (kp _ _ e nb)
      · rw [only_some hL78, upd_same, List.take_add_one, hj]
        simp
      · exact simp_upd (o := .lst _) (g2.sm s') trivial b' o' (only_at e).1
    obtain ⟨⟨y8, rfl⟩, kp, hL7', s9⟩ := hW
    rw [List.length_map, eA, List.take_length] at hL7'
    have g9 : Gr H H' := ⟨fun b' o' e => kp _ _ (g8.ex _ _ e) fun z => (by rw [z, hL70] at e; cases e), fun _ => s9⟩
    have hlo9 : LpAt H' q3 (ls.drop c ++ ls.take c) := kp _ _ hlo8 (nLo _ hlo8)
    clear kp lo hL78 nLo hlo8 s8 g8
    have hfl := fix_len (A ++ B) 60
    -- in order, each once
    refine ⟨_, rfl, _, rfl, L7, (((fixL (A ++ B) 60).map (turnL A)).map fun n => ((n : Nat) : Int)), rfl, ?_, ?_, fun ms pm hms hmem hpm => ?_⟩
    · rw [List.map_map]
      exact SqL.of hL7'
    · rw [List.length_map, List.length_map]
      omega
    have incr : (((fixL (A ++ B) 60).map (turnL A)).map fun n => ((n : Nat) : Int)).Pairwise (· < ·) := (Mt.incr A B r5).map _ fun a b h => Int.ofNat_lt.mpr h
    have ems := sorted_uniq hms incr hmem
    subst ems
    have xm := Gr.lst (xs := (((fixL (A ++ B) 60).map (turnL A)).map fun n => ((n : Nat) : Int)).map V.int) hpm
    have hpm2 : (upd H' pm (.lst ((((fixL (A ++ B) 60).map (turnL A)).map fun n => ((n : Nat) : Int)).map V.int))) pm = some (.lst (((fixL (A ++ B) 60).map (turnL A)).map iv)) := by
      rw [upd_same, List.map_map]
      rfl
    refine ⟨_, _, dp_intsL (xm.ex _ _ hL7'), dp_intsL hpm2, ints_shaped _, ints_shaped _, false, ?_, iteF ?_⟩
    · rw [ints_refl]
      rfl
    have g10 := g9.trans xm
    have hL10 := xm.ex _ _ hL7'
    have hlo10 := hlo9.mono (Gr.tk xm)
    generalize upd H' pm (.lst ((((fixL (A ++ B) 60).map (turnL A)).map fun n => ((n : Nat) : Int)).map V.int)) = H10 at g10 hL10 hlo10 ⊢
    -- fixed there
    refine ⟨_, rfl, L7, rfl, ⟨_, SqL.of hL10⟩, fun C hC => ?_⟩
    refine lc_listG (K := K) (xs := ((fixL (A ++ B) 60).map (turnL A)).map iv) (fun _ i y => (((fixL (A ++ B) 60).map (turnL A)).map iv)[i]? = some y) hL10 hC (by rw [List.length_map, List.length_map, sizeLine_eq]; omega) (fun _ _ _ _ _ r => r) (fun i x H11 Kq Nq hi gx kq => ?_) fun ys H11 hyl gx hC1 hR => ?_
    · obtain ⟨z, hz, rfl⟩ := lp_at hi
      obtain ⟨a, ha, rfl⟩ : ∃ a, a ∈ fixL (A ++ B) 60 ∧ z = turnL A a := by
        obtain ⟨a, ha, e⟩ := List.mem_map.mp (List.mem_of_getElem? hz)
        exact ⟨a, ha, e.symm⟩
      have hfa : turnL (A ++ B) a = a := by
        have := (List.mem_filter.mp ha).2
        exact beq_iff_eq.mp this
      refine ⟨rfl, ?_⟩
      refine iteT (B := Nq H11) ?_
      refine ⟨_, rfl, _, rfl, _, rfl, b, q3, n, turnL A a, cs, _, rfl, hb.mono (Gr.tk (g10.trans gx)), hlo10.mono (Gr.tk gx), o2, kq _ _ (Gr.refl _) ?_⟩
      rw [eB, Mt.fixed A B r5 a hfa]
      exact hi
    have eys : ys = ((fixL (A ++ B) 60).map (turnL A)).map iv := by
      refine List.ext_getElem? fun i => ?_
      by_cases hi : i < ys.length
      · rw [List.getElem?_eq_getElem hi]
        exact (hR i _ (List.getElem?_eq_getElem hi)).symm
      · rw [List.getElem?_eq_none (by omega), List.getElem?_eq_none (by omega)]
    rw [eys] at hC1
    have hL11 := gx.ex _ _ hL10
    refine ⟨_, rfl, _, _, dp_intsL hC1, dp_intsL hL11, ints_shaped _, ints_shaped _, false, ?_, iteF ?_⟩
    · rw [ints_refl]
      rfl
    have g11 := g10.trans gx
    have hlo11 := hlo10.mono (Gr.tk gx)
    -- the ends
    have d11 := hd.gr g11
    refine ⟨_, rfl, d, ca, ra, m, 30, rfl, d11, by omega, by decide, by decide, fun k1 H12 hk1 x12 d12 => ?_⟩
    refine ⟨_, rfl, d, ca, ra, m + 1, 2000, rfl, d12, by omega, by decide, by decide, fun k2 H13 hk2 x13 d13 => ?_⟩
    refine ⟨_, rfl, _, _, rfl, rfl, ⟨by decide, by decide, by decide⟩, d, ca, ra, m + 2, 1000000000, rfl, d13, by omega, by decide, by decide, fun k3 H14 hk3 x14 d14 => ?_⟩
    refine ⟨by show 7 ≤ sizeLine; decide, fun L8 hL8 => ?_⟩
    have x15 := Gr.lst (xs := [0, 1, 2, 3, k1, k2, k3].map iv) hL8
    have n15 := ((Nx.gr g11).trans ((x12.trans x13).trans x14)).trans (Nx.gr x15)
    have d15 := d14.gr x15
    have tk15 : Tk H _ := n15.tk hd
    have hlo15 := hlo11.mono ((((x12.trans x13).trans x14).trans (Nx.gr x15)).tk d11)
    have hL15 : (upd H14 L8 (.lst ([0, 1, 2, 3, k1, k2, k3].map iv))) L8 = some (.lst ([0, 1, 2, 3, k1, k2, k3].map iv)) := upd_same
    refine ⟨L8, rfl, ⟨_, SqL.of hL15⟩, ?_⟩
    show ∃ W : Nat → Nat → L2.St → Hp → Prop, (∃ m, W 0 m _ (upd H14 L8 (.lst ([0, 1, 2, 3, k1, k2, k3].map iv)))) ∧ _
    generalize [0, 1, 2, 3, k1, k2, k3] = am at n15 d15 tk15 hlo15 hL15 ⊢
    generalize upd H14 L8 (.lst (am.map iv)) = Hs at n15 d15 tk15 hlo15 hL15 ⊢
    refine for_list (K := K) (a := L8) (xs := am.map iv) (fun i σ' H' => (∃ y8 y9 y10 y11, σ' = [some (.ref d), some (.ref b), some (.ref la), some (iv c), some (.ref q3), some (iv (cs.getD l0 default).s), some (.ref L6), some (.ref L7), y8, y9, y10, y11, none, none]) ∧ Gr Hs H')
      ⟨⟨_, _, _, _, rfl⟩, Gr.refl _⟩ (fun i σ' H' _ hP => SqL.of (hP.2.ex _ _ hL15)) (fun i x σ' H' hi hP => ?_) fun σ' H' hP => ?_
    · obtain ⟨⟨y8, y9, y10, y11, rfl⟩, gs⟩ := hP
      obtain ⟨a, ha, rfl⟩ := lp_at hi
      have hb1 := (hb.mono tk15).mono (Gr.tk gs)
      have hl1 := (hl.mono tk15).mono (Gr.tk gs)
      refine run_rd (x := a) rfl rfl rfl rfl (fun R h => ⟨_, rfl, h⟩) hb1 hl1 hc2 chn o1 fun H16 g16 => ?_
      rw [hA]
      refine ⟨_, rfl, _, rfl, _, rfl, b, la, n, a, cs, ls, rfl, hb1.mono (Gr.tk g16), hl1.mono (Gr.tk g16), o1, fun H17 g17 => ?_⟩
      rw [eA]
      have g1617 := g16.trans g17
      have last : ∀ H18, Gr H17 H18 → Gr Hs H18 ∧ BrdAt H18 b n cs ∧ LpAt H18 q3 (ls.drop c ++ ls.take c) := fun H18 g18 => ⟨(gs.trans g1617).trans g18, hb1.mono (Gr.tk (g1617.trans g18)), hlo15.mono (Gr.tk ((gs.trans g1617).trans g18))⟩
      have ends := Mt.ends A B r5 a
      have eo : (fateL (A ++ B) a).2 = none ∨ ∃ e, (fateL (A ++ B) a).2 = some e := by
        cases (fateL (A ++ B) a).2 with
        | none => exact .inl rfl
        | some e => exact .inr ⟨e, rfl⟩
      rcases eo with eo | ⟨e, eo⟩
      · rw [eo] at ends
        rw [eo]
        refine ⟨_, rfl, rfl, true, rfl, iteT ?_⟩
        obtain ⟨gl, hbl, hll⟩ := last H17 (Gr.refl _)
        refine ⟨_, rfl, _, rfl, _, rfl, b, q3, n, turnL A a, cs, _, rfl, hbl, hll, o2, fun H18 g18 => ⟨_, rfl, ?_⟩⟩
        rw [eB, ends]
        exact ⟨rfl, false, rfl, iteF ⟨⟨_, _, _, _, rfl⟩, gl.trans g18⟩⟩
      · rw [eo] at ends
        rw [eo]
        refine ⟨_, rfl, rfl, false, rfl, iteF ?_⟩
        refine run_rd (x := e) rfl rfl rfl rfl (fun R h => ⟨_, rfl, h⟩) (hb1.mono (Gr.tk g1617)) (hl1.mono (Gr.tk g1617)) hc2 chn o1 fun H19 g19 => ?_
        rw [hA]
        obtain ⟨gl, hbl, hll⟩ := last H19 g19
        refine ⟨_, rfl, _, rfl, _, rfl, b, q3, n, turnL A a, cs, _, rfl, hbl, hll, o2, fun H18 g18 => ⟨_, rfl, ?_⟩⟩
        rw [eB, ends]
        refine ⟨rfl, false, ?_, iteF ⟨⟨_, _, _, _, rfl⟩, gl.trans g18⟩⟩
        have ed : decide (iv (turnL A e) = iv (turnL A e)) = true := decide_eq_true rfl
        show V.bl (!decide (iv (turnL A e) = iv (turnL A e))) = V.bl false
        rw [ed]
        rfl
    obtain ⟨⟨y8', y9, y10, y11, rfl⟩, gs⟩ := hP
    have hb1 := (hb.mono tk15).mono (Gr.tk gs)
    have hl1 := (hl.mono tk15).mono (Gr.tk gs)
    have hlo1 := hlo15.mono (Gr.tk gs)
    -- the tops
    refine ⟨_, rfl, _, rfl, b, la, n, cs, ls, rfl, hb1, hl1, o1, fun H16 g16 => ?_⟩
    refine ⟨_, rfl, _, rfl, b, q3, n, cs, _, rfl, hb1.mono (Gr.tk g16), hlo1.mono (Gr.tk g16), o2, fun H17 g17 => ?_⟩
    rw [eA, eB]
    dsimp only
    rw [Mt.tops A B r5]
    refine ⟨by show 2 ≤ sizeLine; decide, fun L9 hL9 => ?_⟩
    have done : ∀ H20, Gr (upd H17 L9 (.lst [oV (topL (A ++ B)), oV ((topL (A ++ B)).map (turnL A))])) H20 → Q (.bl true) H20 := fun H20 g20 => by
      have gx := (((gs.trans g16).trans g17).trans (Gr.lst hL9)).trans g20
      exact q H20 (n15.trans (Nx.gr gx)) (gx.sm (n15.sm hsim)) (d15.gr gx)
    have eo : topL (A ++ B) = none ∨ ∃ e, topL (A ++ B) = some e := by
      cases topL (A ++ B) with
      | none => exact .inl rfl
      | some e => exact .inr ⟨e, rfl⟩
    rcases eo with eo | ⟨t, eo⟩
    · rw [eo] at done ⊢
      refine ⟨_, rfl, L9, _, rfl, .inl (SqL.of upd_same), rfl, rfl, true, rfl, iteT ?_⟩
      refine ⟨_, rfl, by show 2 ≤ sizeLine; decide, fun L10 hL10 => ?_⟩
      have gl := Gr.lst (xs := [V.non, V.non]) hL10
      refine ⟨.list [.none, .none], .list [.none, .none], .lst (SqL.of (gl.ex _ _ upd_same)) (.cons .non (.cons .non .nil)), .lst (SqL.of upd_same) (.cons .non (.cons .non .nil)), by decide, by decide, ?_⟩
      exact done _ gl
    · rw [eo] at done ⊢
      refine ⟨_, rfl, L9, _, rfl, .inl (SqL.of upd_same), rfl, rfl, false, rfl, iteF ?_⟩
      have gl := (g16.trans g17).trans (Gr.lst (xs := [oV (some t), oV ((some t).map (turnL A))]) hL9)
      refine run_rd (x := t) rfl rfl rfl rfl (fun R h => ⟨_, rfl, L9, _, 0, _, rfl, rfl, SqL.of upd_same, atI_nat (j := 0) rfl, h⟩) (hb1.mono (Gr.tk gl)) (hl1.mono (Gr.tk gl)) hc2 chn o1 fun H20 g20 => ?_
      rw [hA]
      refine ⟨_, rfl, L9, _, 1, _, rfl, rfl, SqL.of (g20.ex _ _ upd_same), atI_nat (j := 1) rfl, rfl, ?_⟩
      have ed : decide (iv (turnL A t) = iv (turnL A t)) = true := decide_eq_true rfl
      show Q (V.bl (decide (iv (turnL A t) = iv (turnL A t)))) H20
      rw [ed]
      exact done _ g20
end
end KW

set_option Elab.async false
set_option linter.all false
set_option maxRecDepth 100000
set_option maxHeartbeats 2000000
/-! KW16: _law_twice_right. -/
namespace KW
open PySem PySem.Spec PyProof.Rows L2 KG
mutual
theorem dp_grow {K : PySem.W.Frag} {H H' : Hp} (g : ∀ b o, H b = some o → H' b = some o) : ∀ (d : PyData) (v : V), Dp K H v d → Dp K H' v d
  | .none, _, h => by cases h; exact .non
  | .bool _, _, h => by cases h; exact .bl _
  | .int _, _, h => by cases h; exact .int _
  | .str _, _, h => by cases h; exact .str _
  | .list ds, _, h => by
    cases h with
    | lst hs ha => exact .lst (Same.seq g hs) (dpAll_grow g ds _ ha)
  | .tuple ds, _, h => by
    cases h with
    | tup hs ha =>
      refine .tup ?_ (dpAll_grow g ds _ ha)
      rcases hs with hs | hs
      · exact .inl (hs.imp (g _ _) fun ⟨o, q⟩ => ⟨o, g _ _ q⟩)
      · exact .inr hs
  | .dict _, _, h => by cases h
theorem dpAll_grow {K : PySem.W.Frag} {H H' : Hp} (g : ∀ b o, H b = some o → H' b = some o) : ∀ (ds : List PyData) (vs : List V), DpAll K H vs ds → DpAll K H' vs ds
  | [], _, h => by cases h; exact .nil
  | d :: ds, _, h => by
    cases h with
    | cons h1 h2 => exact .cons (dp_grow g d _ h1) (dpAll_grow g ds _ h2)
end
section
variable {X : Cx} (K : PySem.W.Frag)
theorem neK (hu : X.A.units + 64 < cLine) (h : X.K = K := by rfl) : OpR X (compareOp .NotEq) (rNeD K) := by
  subst h
  exact op_neD hu
end
theorem rate_ren (cs : List Ctr) (ns : List Nat) (i : Nat) : rate (cs.map (ren ns)) i = rate cs i := by
  unfold rate
  rw [List.getD_eq_getElem?_getD, List.getD_eq_getElem?_getD, List.getElem?_map]
  cases cs[i]? with
  | none => rfl
  | some c => rfl
theorem rates_ren (cs : List Ctr) (ns ls : List Nat) : rates (cs.map (ren ns)) ls = rates cs ls := by
  unfold rates
  exact List.map_congr_left fun i _ => rate_ren cs ns i
theorem COk.rts {n : Nat} {cs : List Ctr} (h : COk n cs) : Rts cs := fun c hc => (h c hc).2.2
def RowOk (A : List (Nat × Nat)) (H : Hp) (v : V) : Prop := ∃ (p bb ll : Addr) (n : Nat) (cs : List Ctr) (ls : List Nat), v = .ref p ∧ H p = some (.tup [.ref bb, .ref ll]) ∧ BrdAt H bb n cs ∧ LpAt H ll ls ∧ LOk cs ls ∧ ∀ xs, shownD (rates cs ls) xs = shownD A xs
theorem RowOk.mono {A : List (Nat × Nat)} {H H' : Hp} {v : V} (h : RowOk A H v) (k : Tk H H') : RowOk A H' v := by
  obtain ⟨p, bb, ll, n, cs, ls, e, h1, h2, h3, h4⟩ := h
  exact ⟨p, bb, ll, n, cs, ls, e, k _ _ h1, h2.mono k, h3.mono k, h4⟩
section
variable {P : Program} {w : World} {K : PySem.W.Frag} {mg : Str → Option Value} {base : Heap}
def spTwice : Sp := fun vs H Q _ => ∃ (d ca ra : Addr) (m : Nat) (b la : Addr) (n : Nat) (cs : List Ctr) (ls : List Nat), vs = [.ref d, .ref b, .ref la] ∧ DrawAt H d ca ra m ∧ m + 2 ≤ 100000 ∧ BrdAt H b n cs ∧ 1 ≤ n ∧ n ≤ 4 ∧ COk n cs ∧ cs.length ≤ 8 ∧ LpAt H la ls ∧ Ring cs ls ∧
  ∀ H', Nx d ra H H' → DrawAt H' d ca ra (m + 2) → Q (.bl true) H'
theorem sc37 : FnScope ["_law_drawn", "_law_board_here", "_law_loop", "_law_names", "_law_rows", "_law_amounts", "_law_due", "_law_kind", "_law_row"] ["_law_drawn", "_law_board_here", "_law_loop"] (C8.fnScope (st 37)) := C8.fnScope_by (by decide +kernel)
theorem c_twice (Mt : Math) (M : BI mg) (D : DD K mg "_law_twice_right" (st 37) ["_law_drawn", "_law_board_here", "_law_loop"]) (cN : C8.Cal P w K mg base 1 "_law_next" spNext []) (cR : C8.Cal P w K mg base 2 "renamed" spRen []) (cS : C8.Cal P w K mg base 7 "_law_shown" (spShown K) []) : C8.Cal P w K mg base 8 "_law_twice_right" spTwice [] := by
  refine calD D sc37 (fun vs H Q E h => ?_) fun f cdv A0 outer s H vs Q E hr h => ?_
  · obtain ⟨_, _, _, _, _, _, _, _, _, rfl, _⟩ := h
    rfl
  · obtain ⟨d, ca, ra, m, b, la, n, cs, ls, rfl, hd, hm, hb, n1, n4, cok, h8, hl, ring, q⟩ := h
    refine ⟨_, pss_cons (ps_set (i := 3) sc37.nd rfl (.inl rfl) (pe_callTy call_tuple_of (by rfl) M.tuple (by decide +kernel) (pa_cons
          (pe_lc (own := [("_law_kind", 7)]) (g := gName 7) (tt := tYes) rfl sc37.nd (pi_range1 (by rfl) M.range (pa_cons (pe_ix ix_tup (pv 1) pe_int (fun _ _ => rfl)) pa_nil)) (blkOk_by (N := ["_law_drawn", "_law_board_here", "_law_loop", "_law_names", "_law_rows", "_law_amounts", "_law_due", "_law_kind", "_law_row"]) (sc := C8.fnScope (st 37)) (by decide +kernel))
            (fun _ _ _ _ _ => pg_name (i := 7) sc37.nd rfl (Or.inl rfl)) (fun _ _ _ _ _ => pts_nil) (fun _ _ _ _ _ => pe_op op_mod (pe_op op_add (pv 7) pe_int) (pe_ix (ixT K) (pv 1) pe_int (fun _ _ => rfl)))) pa_nil)))
      (pss_cons (ps_set (i := 4) sc37.nd rfl (.inl rfl) (pe_lst (pa_cons (pe_tup (pa_cons (C8.pe_c cR hr (by decide) rfl (pa_cons (pv 1) (pa_cons (pv 3) pa_nil))) (pa_cons (pv 2) pa_nil))) pa_nil)))
      (C8.pss_cut (ps_if (pt_cmpR op_lt (pe_callB call_len_seq (by rfl) M.len PySem.boot_len (pa_cons (pv 2) pa_nil)) pe_int (nomark _))
        (pss_one (ps_expr (pe_bm PySem.F.plainAttrs_list PySem.F.slot_list_append PySem.F.type_list_append mt_append (pv 4) (pa_cons (pe_tup (pa_cons (pv 1) (pa_cons (pe_op op_catT (pv 2) (pv 2)) pa_nil))) pa_nil)))) pss_nil)
      (pss_cons (ps_set (i := 5) sc37.nd rfl (.inr rfl) (pe_lst (pa_cons pe_int (pa_cons pe_int (pa_cons pe_int (pa_cons (C8.pe_c cN hr (by decide) rfl (pa_cons (pv 0) (pa_cons pe_int pa_nil))) (pa_cons (C8.pe_c cN hr (by decide) rfl (pa_cons (pv 0) (pa_cons (pe_op op_pow pe_int pe_int) pa_nil))) pa_nil)))))))
      (pss_cons (ps_set (i := 6) sc37.nd rfl (.inr rfl) (C8.pe_c cS hr (by decide) rfl (pa_cons (pv 1) (pa_cons (pv 2) (pa_cons (pv 5) pa_nil)))))
      (pss_one (ps_ret (pe_cmpR (op_eqD hr.units)
          (pe_lc (own := [("_law_row", 8)]) (g := gName 8) rfl sc37.nd (pi_list (pv 4)) (blkOk_by (N := ["_law_drawn", "_law_board_here", "_law_loop", "_law_names", "_law_rows", "_law_amounts", "_law_due", "_law_kind", "_law_row"]) (sc := C8.fnScope (st 37)) (by decide +kernel))
            (fun _ _ _ _ _ => pg_name (i := 8) sc37.nd rfl (Or.inl rfl))
            (fun _ _ _ _ _ => pts_one (pt_cmpR (neK K hr.units) (C8.pe_c cS hr (by decide) rfl (pa_cons (pe_ix (ixT K) (pv 8) pe_int (fun _ _ => rfl)) (pa_cons (pe_ix (ixT K) (pv 8) pe_int (fun _ _ => rfl)) (pa_cons (pv 5) pa_nil)))) (pv 6) (nomark _)))
            (fun _ _ _ _ _ => pv 8)) (pe_lst pa_nil) (nomark _)))))))), ?_⟩
    obtain ⟨ba, bvs, b1, b2, b3, b4⟩ := hb.at
    obtain ⟨l0, hl0⟩ := head_of ring.1
    have hlen4 : ls.length ≤ 4 := ring.2.1
    have hpos : 0 < ls.length := List.length_pos_iff.mpr ring.1
    have o1 : LOk cs ls := ⟨cok.rts, ring.2.2.1, hlen4⟩
    -- the names
    refine ⟨_, rfl, b, _, 0, _, rfl, rfl, SqT.of b1, atI_nat (j := 0) rfl, ((n : Nat) : Int), rfl, by omega, by omega, fun C hC => ?_⟩
    refine lc_rngG (n := n) (fun _ i y => y = iv ((i + 1) % n)) hC (by rw [sizeLine_eq]; omega) (fun _ _ _ _ _ r => r) (fun i H1 Kq Nq hi g1 kq => ?_) fun ys H1 hyl g1 hC1 hR => ?_
    · refine ⟨rfl, ?_⟩
      refine iteT (B := Nq H1) ?_
      refine ⟨_, rfl, _, _, rfl, rfl, _, rfl, b, _, 0, _, rfl, rfl, SqT.of (g1.ex _ _ b1), atI_nat (j := 0) rfl, _, _, rfl, rfl, (by show (0 : Int) < ((n : Nat) : Int); omega), kq _ _ (Gr.refl _) ?_⟩
      unfold iv
      rw [Int.natCast_emod, Int.natCast_add]
      rfl
    have eys : ys = ((List.range n).map fun i => (i + 1) % n).map iv := by
      refine List.ext_getElem? fun i => ?_
      by_cases hi : i < n
      · rw [List.getElem?_eq_getElem (by omega), hR i _ (List.getElem?_eq_getElem (by omega)), List.getElem?_map, List.getElem?_map, List.getElem?_range hi]
        rfl
      · rw [List.getElem?_eq_none (by omega), List.getElem?_eq_none (by simp; omega)]
    subst eys
    generalize hns : (List.range n).map (fun i => (i + 1) % n) = ns at hC1
    have hnl : ns.length = n := by rw [← hns]; simp
    refine ⟨C, _, rfl, .inl ⟨SqL.of hC1, fun nt hnt => ?_⟩⟩
    have g2 := g1.trans (Gr.tup (xs := ns.map iv) hnt)
    have hnt2 : (upd H1 nt (.tup (ns.map iv))) nt = some (.tup (ns.map iv)) := upd_same
    generalize upd H1 nt (.tup (ns.map iv)) = H2 at g2 hnt2 ⊢
    -- the rows
    refine ⟨_, rfl, _, rfl, b, nt, n, cs, ns, rfl, hb.mono (Gr.tk g2), hnt2, fun c hc => by rw [hnl]; exact ⟨(cok c hc).1, (cok c hc).2.1⟩, by omega, fun rb H3 g3 hrb => ?_⟩
    refine ⟨_, rfl, by show 2 ≤ sizeLine; decide, fun rt hrt => ?_⟩
    have g4 := Gr.tup (xs := [V.ref rb, V.ref la]) hrt
    refine ⟨by show 1 ≤ sizeLine; decide, fun R hR0 => ?_⟩
    have g5 := Gr.lst (xs := [V.ref rt]) hR0
    have g05 := (((g2.trans g3).trans g4).trans g5)
    have row1 : RowOk (rates cs ls) (upd (upd H3 rt (.tup [.ref rb, .ref la])) R (.lst [.ref rt])) (.ref rt) := by
      refine ⟨rt, rb, la, n, cs.map (ren ns), ls, rfl, g5.ex _ _ upd_same, hrb.mono (Gr.tk (g4.trans g5)), hl.mono (Gr.tk g05), ⟨fun c hc => ?_, fun i hi => ?_, hlen4⟩, fun xs => by rw [rates_ren]⟩
      · obtain ⟨c0, hc0, rfl⟩ := List.mem_map.mp hc
        exact (cok c0 hc0).2.2
      · rw [List.length_map]
        exact ring.2.2.1 i hi
    have hRl : (upd (upd H3 rt (.tup [.ref rb, .ref la])) R (.lst [.ref rt])) R = some (.lst [.ref rt]) := upd_same
    have hRn : H R = none := ((g2.trans g3).trans g4).back hR0
    generalize upd (upd H3 rt (.tup [.ref rb, .ref la])) R (.lst [.ref rt]) = H4 at g05 row1 hRl ⊢
    refine ⟨fun σ' H' => σ' = [some (.ref d), some (.ref b), some (.ref la), some (.ref nt), some (.ref R), none, none, none, none] ∧ Gr H H' ∧ ∃ rvs : List V, H' R = some (.lst rvs) ∧ rvs.length ≤ 2 ∧ ∀ v ∈ rvs, RowOk (rates cs ls) H' v, ?_, ?_⟩
    · refine ⟨_, rfl, la, _, rfl, .inr (SqT.of (hl.mono (Gr.tk g05))), _, _, rfl, rfl, _, rfl, ite2 (fun h => ?_) fun h => ?_⟩
      · have h3 : ls.length < 3 := by
          have : (((ls.map iv).length : Nat) : Int) < 3 := of_decide_eq_true h
          rw [List.length_map] at this
          omega
        have hl4 := hl.mono (Gr.tk g05)
        have hne : ls.map iv ≠ [] := fun z => by
          have := congrArg List.length z
          rw [List.length_map, List.length_nil] at this
          omega
        refine ⟨_, rfl, .inl ⟨rfl, _, SqL.of hRl⟩, _, rfl, _, rfl, _, rfl, la, la, _, _, rfl, rfl, SqT.of hl4, SqT.of hl4, hne, ?_, fun z => absurd z hne, fun _ dl hdl => ?_⟩
        · rw [List.length_map, sizeLine_eq]
          omega
        have g6 := Gr.tup (xs := ls.map iv ++ ls.map iv) hdl
        refine ⟨by show 2 ≤ sizeLine; decide, fun r2 hr2 => ?_⟩
        have g7 := Gr.tup (xs := [V.ref b, V.ref dl]) hr2
        have hRl7 := (g6.trans g7).ex _ _ hRl
        refine ⟨R, _, _, rfl, rfl, hRl7, by show 1 < sizeLine; decide, rfl, Gr.mut ((g05.trans g6).trans g7) hRn trivial, _, upd_same, Nat.le_refl _, fun v hv => ?_⟩
        have tk : Tk (upd (upd H4 dl (.tup (ls.map iv ++ ls.map iv))) r2 (.tup [.ref b, .ref dl])) (upd (upd (upd H4 dl (.tup (ls.map iv ++ ls.map iv))) r2 (.tup [.ref b, .ref dl])) R (.lst ([.ref rt] ++ [.ref r2]))) := Tk.lst (Tk.refl _) hRl7
        rcases List.mem_append.mp hv with hv | hv
        · rw [List.mem_singleton.mp hv]
          exact (row1.mono (Gr.tk (g6.trans g7))).mono tk
        · rw [List.mem_singleton.mp hv]
          refine RowOk.mono ⟨r2, b, dl, n, cs, ls ++ ls, rfl, upd_same, hb.mono (Gr.tk ((g05.trans g6).trans g7)), ?_, ⟨cok.rts, fun i hi => ?_, ?_⟩, fun xs => ?_⟩ tk
          · unfold LpAt
            rw [List.map_append]
            exact g7.ex _ _ upd_same
          · rcases List.mem_append.mp hi with q | q
            · exact ring.2.2.1 i q
            · exact ring.2.2.1 i q
          · rw [List.length_append]
            omega
          · rw [rates_app]
            obtain ⟨t1, t2, t3, t4⟩ := Mt.twice _ o1.r5
            unfold shownD
            rw [t1, t2, t3]
            simp only [t4]
      · exact ⟨rfl, g05, _, hRl, by show 1 ≤ 2; decide, fun v hv => by rw [List.mem_singleton.mp hv]; exact row1⟩
    rintro σ' H5 ⟨rfl, g5', rvs, hR5, hrl, rows⟩
    -- what is shown
    have d5 := hd.gr g5'
    refine ⟨_, rfl, d, ca, ra, m, 60, rfl, d5, by omega, by decide, by decide, fun k1 H6 hk1 x6 d6 => ?_⟩
    refine ⟨_, rfl, _, _, rfl, rfl, ⟨by decide, by decide, by decide⟩, d, ca, ra, m + 1, 1000000000000, rfl, d6, by omega, by decide, by decide, fun k2 H7 hk2 x7 d7 => ?_⟩
    refine ⟨by show 5 ≤ sizeLine; decide, fun L8 hL8 => ?_⟩
    have x8 := Gr.lst (xs := [1, 2, 5, k1, k2].map iv) hL8
    have nR : R ≠ d ∧ R ≠ ca ∧ R ≠ ra := hd.ne hRn
    have n8 := ((Nx.gr g5').trans (x6.trans x7)).trans (Nx.gr x8)
    have d8 := d7.gr x8
    have tk58 : Tk H5 _ := ((x6.trans x7).trans (Nx.gr x8)).tk d5
    have tk8 : Tk H _ := n8.tk hd
    have hR8 := x8.ex _ _ ((x6.trans x7).lst hR5 nR.1 nR.2.2)
    have hL88 : (upd H7 L8 (.lst ([1, 2, 5, k1, k2].map iv))) L8 = some (.lst ([1, 2, 5, k1, k2].map iv)) := upd_same
    have rows8 : ∀ v ∈ rvs, RowOk (rates cs ls) (upd H7 L8 (.lst ([1, 2, 5, k1, k2].map iv))) v := fun v hv => (rows v hv).mono tk58
    show tSeq _ _ _ _ (upd H7 L8 (.lst ([1, 2, 5, k1, k2].map iv)))
    have hal : [1, 2, 5, k1, k2].length ≤ 100 := by show 5 ≤ 100; decide
    generalize [1, 2, 5, k1, k2] = am at n8 d8 tk8 hR8 hL88 rows8 hal ⊢
    generalize upd H7 L8 (.lst (am.map iv)) = H8 at n8 d8 tk8 hR8 hL88 rows8 ⊢
    refine ⟨_, rfl, _, rfl, _, rfl, b, la, L8, n, cs, ls, am, rfl, hb.mono tk8, hl.mono tk8, o1, hL88, hal, fun pd H9 g9 hdp => ?_⟩
    refine ⟨_, rfl, R, rfl, ⟨_, SqL.of (g9.ex _ _ hR8)⟩, fun C9 hC9 => ?_⟩
    have gC := Gr.lst (xs := []) hC9
    refine lc_list (K := K) (a := R) (xs := rvs) (fun i H' => Gr (upd H9 C9 (.lst [])) H' ∧ H' C9 = some (.lst [])) ⟨Gr.refl _, upd_same⟩ (fun i H' _ hP => SqL.of (hP.1.ex _ _ (gC.ex _ _ (g9.ex _ _ hR8)))) (fun i x H' hi hP => ?_) fun H' hP => ?_
    · obtain ⟨gP, hC'⟩ := hP
      have g10 := gC.trans gP
      have tkr := Gr.tk (g9.trans g10)
      obtain ⟨pr, bb, ll, n', cs', ls', rfl, r1, r2, r3, r4, r5⟩ := (rows8 x (List.mem_of_getElem? hi)).mono tkr
      refine ⟨rfl, ?_⟩
      refine ⟨_, rfl, pr, _, 0, _, rfl, rfl, SqT.of r1, atI_nat (j := 0) rfl, _, rfl, pr, _, 1, _, rfl, rfl, SqT.of r1, atI_nat (j := 1) rfl, _, rfl, bb, ll, L8, n', cs', ls', am, rfl, r2, r3, r4, (g9.trans g10).ex _ _ hL88, hal, fun pd2 H11 g11 hdp2 => ?_⟩
      refine ⟨_, rfl, shownD (rates cs' ls') am, shownD (rates cs ls) am, hdp2, dp_grow (g10.trans g11).ex _ _ hdp, shown_shaped _ _, shown_shaped _ _, false, ?_, ?_⟩
      · rw [r5, SeqAt.eqv_refl _ (shown_can _ _)]
        rfl
      · exact iteF ⟨gP.trans g11, g11.ex _ _ hC'⟩
    obtain ⟨gP, hC'⟩ := hP
    refine ⟨Nat.zero_le _, fun e he => ?_⟩
    have ge := Gr.lst (xs := []) he
    refine ⟨.list [], .list [], .lst (SqL.of (ge.ex _ _ hC')) .nil, .lst (SqL.of upd_same) .nil, by decide, by decide, ?_⟩
    have gall := ((g9.trans gC).trans gP).trans ge
    exact q _ (n8.trans (Nx.gr gall)) (d8.gr gall)
end
end KW

set_option Elab.async false
set_option linter.all false
set_option maxRecDepth 100000
set_option maxHeartbeats 2000000
/-! KW17: law. -/
namespace KW
open PySem PySem.Spec PyProof.Rows L2 KG
theorem rt_data {K : PySem.W.Frag} {H : Hp} {Pr : List Nat → Prop} : ∀ {vs : List V}, RtAll H Pr vs → ∃ ds : List PyData, DpAll K H vs ds ∧ ds.length = vs.length ∧ ∀ d ∈ ds, PyData.canLay0 d = true ∧ PyData.depth d ≤ 1
  | [], _ => ⟨[], .nil, rfl, fun d hd => by cases hd⟩
  | v :: vs, h => by
    obtain ⟨p, ls, rfl, hl, _⟩ := h v (List.mem_cons_self ..)
    obtain ⟨ds, h1, h2, h3⟩ := rt_data (K := K) fun u hu => h u (List.mem_cons_of_mem _ hu)
    refine ⟨.tuple (ls.map fun n => .int (n : Nat)) :: ds, .cons (.tup (SqT.of hl) (dp_ints H ls)) h1, by rw [List.length_cons, List.length_cons, h2], fun d hd => ?_⟩
    rcases List.mem_cons.mp hd with q | q
    · rw [q]
      exact ints_can ls
    · exact h3 d q
section
variable {P : Program} {w : World} {K : PySem.W.Frag} {mg : Str → Option Value} {base : Heap}
def spLaw (K : PySem.W.Frag) : Sp := fun vs H Q _ => ∃ (a : Addr) (ns : List Int), vs = [.ref a] ∧ SqL K H a (ns.map V.int) ∧ ns.length ≤ 63 ∧ Simp H ∧ ∀ H', Q (.bl true) H'
theorem sc38 : FnScope ["_law_script", "_law_drawn", "_law_turn", "_law_board_here", "_law_loops_here", "_law_k", "_law_loop", "_law_cut"] ["_law_script"] (C8.fnScope (st 38)) := C8.fnScope_by (by decide +kernel)
theorem law_body (M : BI mg) (cD : C8.Cal P w K mg base 1 "_law_draws" (spDraws K) []) (cB : C8.Cal P w K mg base 3 "_law_board" spBoard []) (cL : C8.Cal P w K mg base 1 "_law_loops" spLoops []) (cO : C8.Cal P w K mg base 2 "_law_one" spOne []) (cG : C8.Cal P w K mg base 7 "_law_begun_right" spBegun []) (cT : C8.Cal P w K mg base 8 "_law_twice_right" spTwice []) :
    ∀ (f : Addr) (cdv : Value) (A0 : Around) (outer : List Env) (s : Shared) (H : Hp) (vs : List V) (Q : VK) (E : XK), Room 8 (A0.deeper (envOfC "law" (C8.fnScope (st 38)) s.heap.objs.size f cdv)) → spLaw K vs H Q E →
      ∃ t, PSs (cxOf C8.CX0 P w K mg base ["_law_script", "_law_drawn", "_law_turn", "_law_board_here", "_law_loops_here", "_law_k", "_law_loop", "_law_cut"] "law" (C8.fnScope (st 38)) f cdv A0 outer s H E).nox (C8.fnBody (st 38)) t ∧ t { nx := fun _ H' => Q .non H', rt := Q } (start ["_law_script", "_law_drawn", "_law_turn", "_law_board_here", "_law_loops_here", "_law_k", "_law_loop", "_law_cut"] vs) H := by
  intro f cdv A0 outer s H vs Q E hr h
  obtain ⟨a, ns, rfl, hS, hlen, hsim, q⟩ := h
  refine ⟨_, pss_cons (ps_set (i := 1) sc38.nd rfl (.inl rfl) (C8.pe_c cD hr (by decide) rfl (pa_cons (pv 0) pa_nil)))
    (pss_cons (ps_for PassesOwn.never rfl (pi_range1 (by rfl) M.range (pa_cons pe_int pa_nil)) (pg_name (i := 2) sc38.nd rfl (.inl rfl))
      (pss_cons (ps_set (i := 3) sc38.nd rfl (.inl rfl) (C8.pe_c cB hr (by decide) rfl (pa_cons (pv 1) pa_nil)))
      (pss_cons (ps_set (i := 4) sc38.nd rfl (.inl rfl) (C8.pe_c cL hr (by decide) rfl (pa_cons (pv 3) pa_nil)))
      (pss_one (ps_for PassesOwn.never rfl (pi_range1 (by rfl) M.range (pa_cons (pe_op op_mul pe_int (pe_callTy call_int1 (by rfl) M.int (by decide +kernel) (pa_cons (pe_cmpR (op_neD hr.units) (pv 4) (pe_lst pa_nil) (nomark _)) pa_nil))) pa_nil)) (pg_name (i := 5) sc38.nd rfl (.inl rfl))
        (pss_cons (ps_set (i := 6) sc38.nd rfl (.inl rfl) (C8.pe_c cO hr (by decide) rfl (pa_cons (pv 1) (pa_cons (pv 4) pa_nil))))
        (pss_cons (ps_for PassesOwn.never rfl (pi_range2 (by rfl) M.range (pa_cons pe_int (pa_cons (pe_callB call_len_seq (by rfl) M.len PySem.boot_len (pa_cons (pv 6) pa_nil)) pa_nil))) (pg_name (i := 7) sc38.nd rfl (.inl rfl))
          (pss_one (ps_if (pt_not (pt_val (C8.pe_c cG hr (by decide) rfl (pa_cons (pv 1) (pa_cons (pv 3) (pa_cons (pv 6) (pa_cons (pv 7) pa_nil))))))) (pss_one (ps_ret pe_bl)) pss_nil)))
        (pss_one (ps_if (pt_not (pt_val (C8.pe_c cT hr (by decide) rfl (pa_cons (pv 1) (pa_cons (pv 3) (pa_cons (pv 6) pa_nil)))))) (pss_one (ps_ret pe_bl)) pss_nil)))))))))
    (pss_one (ps_ret pe_bl))), ?_⟩
  refine ⟨_, rfl, a, ns, rfl, hS, hlen, fun d ca ra H1 g1 d1 => ?_⟩
  refine ⟨4, rfl, by decide, by decide, for_range (lo := 0) (n := 4) (fun i σ' H' => (∃ y2 y3 y4 y5 y6 y7, σ' = [some (.ref a), some (.ref d), y2, y3, y4, y5, y6, y7]) ∧ DrawAt H' d ca ra (200 * i) ∧ Simp H')
    ⟨⟨_, _, _, _, _, _, rfl⟩, d1, g1.sm hsim⟩ (fun i σ' H' hi hP => ?_) fun σ' H' hP => ?_⟩
  · obtain ⟨⟨y2, y3, y4, y5, y6, y7, rfl⟩, dr, sm⟩ := hP
    refine ⟨_, rfl, d, ca, ra, 200 * i, rfl, dr, by omega, fun b n cs H2 n1 n4 h8 cok x2 d2 hb => ?_⟩
    refine ⟨_, rfl, b, n, cs, rfl, hb, h8, fun F fs H3 g3 hF0 hF rt hfl => ?_⟩
    have nF := d2.ne hF0
    have d3 := d2.gr g3
    have s3 := g3.sm (x2.sm sm)
    have hb3 := hb.mono (Gr.tk g3)
    refine ⟨_, rfl, Nat.zero_le _, fun e he => ?_⟩
    have ge := Gr.lst (xs := []) he
    obtain ⟨ds, e1, e2, e3⟩ := rt_data (K := K) (rt.mono (Gr.tk ge))
    have can : PyData.canLay0 (.list ds) = true := canAll_of fun z hz => (e3 z hz).1
    have shp : SeqAt.shaped (.list ds) = true := by
      unfold SeqAt.shaped
      rw [can, Bool.true_and]
      refine decide_eq_true ?_
      show PyData.depthAll ds + 1 ≤ 64
      have := depthAll_of fun z hz => (e3 z hz).2
      omega
    refine ⟨.list ds, .list [], .lst (SqL.of (ge.ex _ _ hF)) e1, .lst (SqL.of upd_same) .nil, shp, by decide, .inr ⟨_, rfl, ?_⟩⟩
    obtain ⟨N, eN, hN2, hNf⟩ : ∃ N : Nat, (2 : Int) * (if (!PyData.eqv (.list ds) (.list [])) = true then (1 : Int) else 0) = ((N : Nat) : Int) ∧ N ≤ 2 ∧ (0 < N → 0 < fs.length) := by
      cases ds with
      | nil => exact ⟨0, by decide, by decide, fun z => absurd z (Nat.lt_irrefl _)⟩
      | cons z zs =>
        refine ⟨2, ?_, by decide, fun _ => by rw [← e2, List.length_cons]; omega⟩
        have : PyData.eqv (.list (z :: zs)) (.list []) = false := by
          show PyData.eqvAll (z :: zs) [] = false
          simp [PyData.eqvAll]
        rw [this]
        decide
    have s4 := ge.sm s3
    have d4 := d3.gr ge
    have hb4 := hb3.mono (Gr.tk ge)
    have hF4 := ge.ex _ _ hF
    have rt4 := rt.mono (Gr.tk ge)
    refine ⟨2, _, rfl, rfl, .inl ⟨by decide, by decide⟩, ((N : Nat) : Int), congrArg (fun z => [V.int z]) eN, by omega, by omega, for_range (lo := 0) (n := N) (fun k σ' H' => (∃ y2 y5 y6 y7, σ' = [some (.ref a), some (.ref d), y2, some (.ref b), some (.ref F), y5, y6, y7]) ∧ DrawAt H' d ca ra (200 * i + 100 + 20 * k) ∧ Simp H' ∧ BrdAt H' b n cs ∧ H' F = some (.lst fs) ∧ RtAll H' (Ring cs) fs)
      ⟨⟨_, _, _, _, rfl⟩, d4, s4, hb4, hF4, rt4⟩ (fun k σ' H5 hk hP => ?_) fun σ' H5 hP => ?_⟩
    · obtain ⟨⟨y2', y5', y6', y7', rfl⟩, d5, s5, hb5, hF5, rt5⟩ := hP
      refine ⟨_, rfl, _, rfl, d, ca, ra, F, _, fs, rfl, d5, by omega, hF5, hNf (by omega), by omega, nF.1, nF.2.2, fun j v H6 hj x6 d6 => ?_⟩
      have s6 := x6.sm s5
      have tk6 := x6.tk d5
      obtain ⟨la, ls, rfl, hl6, ring⟩ := (rt5.mono tk6) v (List.mem_of_getElem? hj)
      have hpos : 0 < ls.length := List.length_pos_iff.mpr ring.1
      have hlen4 := ring.2.1
      refine ⟨_, rfl, la, _, rfl, .inr (SqT.of hl6), 1, (((ls.map iv).length : Nat) : Int), rfl, ⟨by decide, by decide, by omega, ?_⟩, ?_⟩
      · rw [List.length_map]
        omega
      have en : ((((ls.map iv).length : Nat) : Int) - 1).toNat = ls.length - 1 := by
        rw [List.length_map]
        omega
      rw [en]
      refine for_range (lo := 1) (n := ls.length - 1) (fun j σ' H' => (∃ y2 y5 y7, σ' = [some (.ref a), some (.ref d), y2, some (.ref b), some (.ref F), y5, some (.ref la), y7]) ∧ DrawAt H' d ca ra (200 * i + 100 + 20 * k + 1 + 3 * j) ∧ Simp H' ∧ BrdAt H' b n cs ∧ H' F = some (.lst fs) ∧ RtAll H' (Ring cs) fs ∧ LpAt H' la ls)
        ⟨⟨_, _, _, rfl⟩, d6, s6, hb5.mono tk6, x6.lst hF5 nF.1 nF.2.2, rt5.mono tk6, hl6⟩ (fun j σ' H7 hj hP => ?_) fun σ' H7 hP => ?_
      · obtain ⟨⟨y2'', y5'', y7'', rfl⟩, d7, s7, hb7, hF7, rt7, hl7⟩ := hP
        have ec : V.int (1 + ((j : Nat) : Int)) = iv (1 + j) := by
          unfold iv
          rw [Int.natCast_add]
          rfl
        rw [ec]
        refine ⟨_, rfl, _, rfl, _, rfl, _, rfl, d, ca, ra, _, b, la, n, 1 + j, cs, ls, rfl, d7, by omega, hb7, hl7, cok.rts, ring, by omega, by omega, s7, fun H8 x8 s8 d8 => ⟨true, rfl, iteF ?_⟩⟩
        have tk8 := x8.tk d7
        exact ⟨⟨_, _, _, rfl⟩, d8.le (by omega), s8, hb7.mono tk8, x8.lst hF7 nF.1 nF.2.2, rt7.mono tk8, hl7.mono tk8⟩
      · obtain ⟨⟨y2'', y5'', y7'', rfl⟩, d7, s7, hb7, hF7, rt7, hl7⟩ := hP
        refine ⟨_, rfl, _, rfl, _, rfl, d, ca, ra, _, b, la, n, cs, ls, rfl, d7, by omega, hb7, n1, n4, cok, h8, hl7, ring, fun H8 x8 d8 => ⟨true, rfl, iteF ?_⟩⟩
        have tk8 := x8.tk d7
        exact ⟨⟨_, _, _, _, rfl⟩, d8.le (by omega), x8.sm s7, hb7.mono tk8, x8.lst hF7 nF.1 nF.2.2, rt7.mono tk8⟩
    · obtain ⟨⟨y2', y5', y6', y7', rfl⟩, d5, s5, hb5, hF5, rt5⟩ := hP
      exact ⟨⟨_, _, _, _, _, _, rfl⟩, d5.le (by omega), s5⟩
  · exact q _
end
end KW

set_option Elab.async false
set_option linter.all false
set_option maxRecDepth 100000
set_option maxHeartbeats 1000000
/-! KMath: the plain law. -/
namespace KW
abbrev Rs := List (Nat × Nat)
/-! ### products -/
theorem pG_acc : ∀ (l : Rs) (a : Nat), l.foldl (fun a r => a * r.1) a = a * pG l
  | [], a => (Nat.mul_one a).symm
  | r :: l, a => by
    have h1 := pG_acc l (a * r.1)
    have h2 := pG_acc l (1 * r.1)
    show l.foldl _ (a * r.1) = a * (l.foldl _ (1 * r.1))
    rw [h1, h2, Nat.one_mul, Nat.mul_assoc]
theorem pH_acc : ∀ (l : Rs) (a : Nat), l.foldl (fun a r => a * r.2) a = a * pH l
  | [], a => (Nat.mul_one a).symm
  | r :: l, a => by
    have h1 := pH_acc l (a * r.2)
    have h2 := pH_acc l (1 * r.2)
    show l.foldl _ (a * r.2) = a * (l.foldl _ (1 * r.2))
    rw [h1, h2, Nat.one_mul, Nat.mul_assoc]
theorem pG_cons (r : Nat × Nat) (l : Rs) : pG (r :: l) = r.1 * pG l := by
  have := pG_acc l (1 * r.1)
  rw [Nat.one_mul] at this
  show l.foldl _ (1 * r.1) = _
  rw [Nat.one_mul]
  exact this
theorem pH_cons (r : Nat × Nat) (l : Rs) : pH (r :: l) = r.2 * pH l := by
  have := pH_acc l (1 * r.2)
  rw [Nat.one_mul] at this
  show l.foldl _ (1 * r.2) = _
  rw [Nat.one_mul]
  exact this
theorem pG_app (A B : Rs) : pG (A ++ B) = pG A * pG B := by
  unfold pG
  rw [List.foldl_append]
  exact pG_acc B _
theorem pH_app (A B : Rs) : pH (A ++ B) = pH A * pH B := by
  unfold pH
  rw [List.foldl_append]
  exact pH_acc B _
theorem R5.tail {r : Nat × Nat} {l : Rs} (h : R5 (r :: l)) : R5 l := fun q hq => h q (List.mem_cons_of_mem _ hq)
theorem R5.left {A B : Rs} (h : R5 (A ++ B)) : R5 A := fun q hq => h q (List.mem_append_left _ hq)
theorem R5.right {A B : Rs} (h : R5 (A ++ B)) : R5 B := fun q hq => h q (List.mem_append_right _ hq)
theorem R5.app {A B : Rs} (h1 : R5 A) (h2 : R5 B) : R5 (A ++ B) := fun q hq => by
  rcases List.mem_append.mp hq with z | z
  · exact h1 q z
  · exact h2 q z
theorem pG_pos : ∀ {l : Rs}, R5 l → 0 < pG l
  | [], _ => Nat.one_pos
  | r :: l, h => by
    rw [pG_cons]
    exact Nat.mul_pos (h r (List.mem_cons_self ..)).1 (pG_pos h.tail)
theorem pH_pos : ∀ {l : Rs}, R5 l → 0 < pH l
  | [], _ => Nat.one_pos
  | r :: l, h => by
    rw [pH_cons]
    exact Nat.mul_pos (h r (List.mem_cons_self ..)).2.2.1 (pH_pos h.tail)

/-! ### the turn -/
theorem turn_cons (r : Nat × Nat) (l : Rs) (x : Nat) : turnL (r :: l) x = turnL l (x / r.1 * r.2) := rfl
theorem turn_app (A B : Rs) (x : Nat) : turnL (A ++ B) x = turnL B (turnL A x) := by
  unfold turnL
  rw [List.foldl_append]
theorem turn_mono : ∀ (l : Rs) {x y : Nat}, x ≤ y → turnL l x ≤ turnL l y
  | [], _, _, h => h
  | r :: l, _, _, h => turn_mono l (Nat.mul_le_mul_right _ (Nat.div_le_div_right h))
theorem turn_zero : ∀ l : Rs, turnL l 0 = 0
  | [] => rfl
  | r :: l => by
    rw [turn_cons, Nat.zero_div, Nat.zero_mul]
    exact turn_zero l
theorem turn_shift : ∀ {l : Rs}, R5 l → ∀ k x : Nat, turnL l (x + k * pG l) = turnL l x + k * pH l
  | [], _, k, x => rfl
  | r :: l, h, k, x => by
    obtain ⟨g1, _, _, _⟩ := h r (List.mem_cons_self ..)
    have ih := turn_shift h.tail (k * r.2) (x / r.1 * r.2)
    rw [turn_cons, turn_cons, pG_cons, pH_cons]
    have e : (x + k * (r.1 * pG l)) / r.1 = x / r.1 + k * pG l := by
      rw [show k * (r.1 * pG l) = r.1 * (k * pG l) by rw [Nat.mul_left_comm], Nat.add_mul_div_left _ _ g1]
    rw [e, Nat.add_mul, show k * pG l * r.2 = k * r.2 * pG l by rw [Nat.mul_right_comm], ih, Nat.mul_assoc]
/-- no more than the products' rate -/
theorem turn_upper : ∀ (l : Rs) (x : Nat), pG l * turnL l x ≤ pH l * x
  | [], x => Nat.le_refl _
  | r :: l, x => by
    have ih := turn_upper l (x / r.1 * r.2)
    rw [turn_cons, pG_cons, pH_cons]
    calc r.1 * pG l * turnL l (x / r.1 * r.2) = r.1 * (pG l * turnL l (x / r.1 * r.2)) := Nat.mul_assoc ..
      _ ≤ r.1 * (pH l * (x / r.1 * r.2)) := Nat.mul_le_mul_left _ ih
      _ = (r.2 * pH l) * (r.1 * (x / r.1)) := by ac_rfl
      _ ≤ (r.2 * pH l) * x := Nat.mul_le_mul_left _ (Nat.mul_div_le x r.1)
/-- what is lost on the way -/
theorem lost_inv : ∀ {l : Rs}, R5 l → ∀ (a p hp v x : Nat), hp * x ≤ p * v + a →
    hp * pH l * x ≤ (l.foldl (fun a r => (r.2 * (a.1 + (r.1 - 1) * a.2), a.2 * r.1)) (a, p)).2 * turnL l v + (l.foldl (fun a r => (r.2 * (a.1 + (r.1 - 1) * a.2), a.2 * r.1)) (a, p)).1 ∧
    (l.foldl (fun a r => (r.2 * (a.1 + (r.1 - 1) * a.2), a.2 * r.1)) (a, p)).2 = p * pG l
  | [], _, a, p, hp, v, x, h => ⟨by rw [show pH [] = 1 from rfl, Nat.mul_one]; exact h, (Nat.mul_one p).symm⟩
  | r :: l, h5, a, p, hp, v, x, h => by
    obtain ⟨g1, _, _, _⟩ := h5 r (List.mem_cons_self ..)
    have key : hp * r.2 * x ≤ p * r.1 * (v / r.1 * r.2) + r.2 * (a + (r.1 - 1) * p) := by
      have e1 : v ≤ r.1 * (v / r.1) + (r.1 - 1) := by
        have := Nat.div_add_mod v r.1
        have := Nat.mod_lt v g1
        omega
      calc hp * r.2 * x = r.2 * (hp * x) := by ac_rfl
        _ ≤ r.2 * (p * v + a) := Nat.mul_le_mul_left _ h
        _ ≤ r.2 * (p * (r.1 * (v / r.1) + (r.1 - 1)) + a) := Nat.mul_le_mul_left _ (Nat.add_le_add_right (Nat.mul_le_mul_left _ e1) _)
        _ = p * r.1 * (v / r.1 * r.2) + r.2 * (a + (r.1 - 1) * p) := by
          rw [Nat.mul_add p, Nat.mul_add r.2, Nat.mul_add r.2, Nat.mul_add r.2]
          have e2 : r.2 * (p * (r.1 * (v / r.1))) = p * r.1 * (v / r.1 * r.2) := by ac_rfl
          have e3 : r.2 * (p * (r.1 - 1)) = r.2 * ((r.1 - 1) * p) := by rw [Nat.mul_comm p]
          rw [e2, e3]
          omega
    obtain ⟨i1, i2⟩ := lost_inv h5.tail (r.2 * (a + (r.1 - 1) * p)) (p * r.1) (hp * r.2) (v / r.1 * r.2) x key
    refine ⟨?_, ?_⟩
    · rw [turn_cons, pH_cons, ← Nat.mul_assoc]
      exact i1
    · rw [pG_cons, ← Nat.mul_assoc]
      exact i2
theorem bound {l : Rs} (h5 : R5 l) (h : pG l < pH l) {x : Nat} (hx : turnL l x ≤ x) : x ≤ bndL l := by
  obtain ⟨i1, i2⟩ := lost_inv h5 0 1 1 x x (by omega)
  have e1 : pH l * x ≤ pG l * turnL l x + (lostL l).1 := by
    rw [i2, Nat.one_mul, Nat.one_mul] at i1
    exact i1
  have e2 : pG l * turnL l x ≤ pG l * x := Nat.mul_le_mul_left _ hx
  unfold bndL
  rw [Nat.le_div_iff_mul_le (by omega), Nat.mul_sub, Nat.mul_comm x, Nat.mul_comm x]
  omega

/-! ### the last amount that doesn't gain, the greatest fixed one -/
theorem fold_max {ok : Nat → Prop} [DecidablePred ok] (cand : Nat → Nat) : ∀ n : Nat, (∀ r, r < n → ok r → cand r ≤ (List.range n).foldl (fun a r => if ok r then max a (cand r) else a) 0) ∧
    ((List.range n).foldl (fun a r => if ok r then max a (cand r) else a) 0 = 0 ∨ ∃ r, r < n ∧ ok r ∧ (List.range n).foldl (fun a r => if ok r then max a (cand r) else a) 0 = cand r)
  | 0 => ⟨fun r hr => absurd hr (Nat.not_lt_zero r), .inl rfl⟩
  | n + 1 => by
    obtain ⟨h1, h2⟩ := fold_max (ok := ok) cand n
    rw [foldl_range]
    generalize (List.range n).foldl (fun a r => if ok r then max a (cand r) else a) 0 = m at h1 h2 ⊢
    by_cases h : ok n
    · rw [if_pos h]
      refine ⟨fun r hr hk => ?_, ?_⟩
      · by_cases e : r = n
        · subst e
          omega
        · have := h1 r (by omega) hk
          omega
      · by_cases hc : m ≤ cand n
        · exact .inr ⟨n, by omega, h, by omega⟩
        · have em : max m (cand n) = m := by omega
          rw [em]
          rcases h2 with h2 | ⟨r, r1, r2, r3⟩
          · exact .inl h2
          · exact .inr ⟨r, by omega, r2, r3⟩
    · rw [if_neg h]
      refine ⟨fun r hr hk => ?_, ?_⟩
      · have : r ≠ n := fun e => h (e ▸ hk)
        exact h1 r (by omega) hk
      · rcases h2 with h2 | ⟨r, r1, r2, r3⟩
        · exact .inl h2
        · exact .inr ⟨r, by omega, r2, r3⟩
/-- x by its rest -/
theorem turn_split {l : Rs} (h5 : R5 l) (x : Nat) : turnL l x = turnL l (x % pG l) + x / pG l * pH l := by
  have := turn_shift h5 (x / pG l) (x % pG l)
  rw [Nat.mod_add_div'] at this
  exact this
def LastP (l : Rs) (L : Nat) : Prop := turnL l L ≤ L ∧ ∀ x, turnL l x ≤ x → x ≤ L
def TopP (l : Rs) (T : Nat) : Prop := turnL l T = T ∧ ∀ x, turnL l x = x → x ≤ T
theorem le_iff {l : Rs} (h5 : R5 l) (h : pG l < pH l) (r k : Nat) : turnL l (r + k * pG l) ≤ r + k * pG l ↔ turnL l r ≤ r ∧ k ≤ (r - turnL l r) / (pH l - pG l) := by
  rw [turn_shift h5, Nat.le_div_iff_mul_le (by omega), Nat.mul_sub]
  have : k * pG l ≤ k * pH l := Nat.mul_le_mul_left _ (Nat.le_of_lt h)
  omega
theorem eq_iff {l : Rs} (h5 : R5 l) (h : pG l < pH l) (r k : Nat) : turnL l (r + k * pG l) = r + k * pG l ↔ turnL l r ≤ r ∧ k * (pH l - pG l) = r - turnL l r := by
  rw [turn_shift h5, Nat.mul_sub]
  have : k * pG l ≤ k * pH l := Nat.mul_le_mul_left _ (Nat.le_of_lt h)
  omega
theorem grow_some {l : Rs} (h5 : R5 l) (h : pG l < pH l) : ∃ L, growL l = some (L + 1) ∧ LastP l L := by
  refine ⟨(List.range (lim l)).foldl (gStep l) 0, by unfold growL; rw [if_neg (by omega)], ?_⟩
  obtain ⟨f1, f2⟩ := fold_max (ok := fun r => turnL l r ≤ r) (fun r => r + pG l * ((r - turnL l r) / (pH l - pG l))) (lim l)
  change (∀ r, r < lim l → turnL l r ≤ r → r + pG l * ((r - turnL l r) / (pH l - pG l)) ≤ (List.range (lim l)).foldl (gStep l) 0) at f1
  change ((List.range (lim l)).foldl (gStep l) 0 = 0 ∨ ∃ r, r < lim l ∧ turnL l r ≤ r ∧ (List.range (lim l)).foldl (gStep l) 0 = r + pG l * ((r - turnL l r) / (pH l - pG l))) at f2
  generalize (List.range (lim l)).foldl (gStep l) 0 = m at f1 f2 ⊢
  have hp := pG_pos h5
  refine ⟨?_, fun x hx => ?_⟩
  · rcases f2 with rfl | ⟨r, r1, r2, rfl⟩
    · rw [turn_zero]
      exact Nat.le_refl _
    · rw [Nat.mul_comm (pG l)]
      exact (le_iff h5 h r _).mpr ⟨r2, Nat.le_refl _⟩
  · have ex : x = x % pG l + x / pG l * pG l := (Nat.mod_add_div' x (pG l)).symm
    rw [ex] at hx
    obtain ⟨h1, h2⟩ := (le_iff h5 h _ _).mp hx
    have hb := bound h5 h h1
    have hlt := Nat.mod_lt x hp
    have := f1 (x % pG l) (by unfold lim; omega) h1
    have h3 := Nat.mul_le_mul_left (pG l) h2
    rw [Nat.mul_comm] at h3
    omega
theorem top_some {l : Rs} (h5 : R5 l) (h : pG l < pH l) : ∃ T, topL l = some T ∧ TopP l T := by
  refine ⟨(List.range (lim l)).foldl (tStep l) 0, by unfold topL; rw [if_neg (by omega), if_neg (by omega)], ?_⟩
  obtain ⟨f1, f2⟩ := fold_max (ok := fun r => turnL l r ≤ r ∧ (r - turnL l r) % (pH l - pG l) = 0) (fun r => r + pG l * ((r - turnL l r) / (pH l - pG l))) (lim l)
  change (∀ r, r < lim l → (turnL l r ≤ r ∧ (r - turnL l r) % (pH l - pG l) = 0) → r + pG l * ((r - turnL l r) / (pH l - pG l)) ≤ (List.range (lim l)).foldl (tStep l) 0) at f1
  change ((List.range (lim l)).foldl (tStep l) 0 = 0 ∨ ∃ r, r < lim l ∧ (turnL l r ≤ r ∧ (r - turnL l r) % (pH l - pG l) = 0) ∧ (List.range (lim l)).foldl (tStep l) 0 = r + pG l * ((r - turnL l r) / (pH l - pG l))) at f2
  generalize (List.range (lim l)).foldl (tStep l) 0 = m at f1 f2 ⊢
  have hp := pG_pos h5
  have hd : 0 < pH l - pG l := by omega
  refine ⟨?_, fun x hx => ?_⟩
  · rcases f2 with rfl | ⟨r, r1, r2, rfl⟩
    · exact turn_zero l
    · rw [Nat.mul_comm (pG l)]
      refine (eq_iff h5 h r _).mpr ⟨r2.1, ?_⟩
      exact Nat.div_mul_cancel (Nat.dvd_of_mod_eq_zero r2.2)
  · have ex : x = x % pG l + x / pG l * pG l := (Nat.mod_add_div' x (pG l)).symm
    rw [ex] at hx
    obtain ⟨h1, h2⟩ := (eq_iff h5 h _ _).mp hx
    have hb := bound h5 h h1
    have hlt := Nat.mod_lt x hp
    have hm : (x % pG l - turnL l (x % pG l)) % (pH l - pG l) = 0 := by
      rw [← h2]
      exact Nat.mul_mod_left _ _
    have hq : (x % pG l - turnL l (x % pG l)) / (pH l - pG l) = x / pG l := by
      rw [← h2]
      exact Nat.mul_div_cancel _ hd
    have := f1 (x % pG l) (by unfold lim; omega) ⟨h1, hm⟩
    rw [hq, Nat.mul_comm] at this
    omega
end KW

set_option Elab.async false
set_option linter.all false
set_option maxRecDepth 100000
set_option maxHeartbeats 1000000
/-! KMath2: rests, ends, the loop begun elsewhere, the loop walked twice. -/
namespace KW
theorem iter_succ (l : Rs) (k x : Nat) : iter l (k + 1) x = iter l k (turnL l x) := by
  rw [iter_add]
  rfl
theorem le_turn {l : Rs} (h5 : R5 l) (h : pH l ≤ pG l) (x : Nat) : turnL l x ≤ x := by
  have h1 := turn_upper l x
  have h2 : pH l * x ≤ pG l * x := Nat.mul_le_mul_right _ h
  exact Nat.le_of_mul_le_mul_left (Nat.le_trans h1 h2) (pG_pos h5)
theorem fall (l : Rs) : ∀ n x : Nat, x ≤ n → turnL l x ≤ x → ∃ k, turnL l (iter l k x) = iter l k x := by
  intro n
  induction n with
  | zero =>
    intro x hx h
    exact ⟨0, by show turnL l x = x; omega⟩
  | succ n ih =>
    intro x hx h
    by_cases e : turnL l x = x
    · exact ⟨0, e⟩
    · obtain ⟨k, hk⟩ := ih (turnL l x) (by omega) (turn_mono l h)
      exact ⟨k + 1, by rw [iter_succ]; exact hk⟩
theorem rise {l : Rs} {L : Nat} (hL : turnL l L ≤ L) : ∀ n x : Nat, x ≤ L → L - x ≤ n → x ≤ turnL l x → ∃ k, turnL l (iter l k x) = iter l k x := by
  intro n
  induction n with
  | zero =>
    intro x hx hn h
    have h2 := turn_mono l hx
    exact ⟨0, by show turnL l x = x; omega⟩
  | succ n ih =>
    intro x hx hn h
    by_cases e : turnL l x = x
    · exact ⟨0, e⟩
    · have h2 := turn_mono l hx
      obtain ⟨k, hk⟩ := ih (turnL l x) (by omega) (by omega) (turn_mono l h)
      exact ⟨k + 1, by rw [iter_succ]; exact hk⟩
theorem grow_none {l : Rs} (h : pH l ≤ pG l) : growL l = none := by
  unfold growL
  rw [if_pos h]
theorem m_rests : Rests := by
  intro l x h5 hs
  by_cases h : pH l ≤ pG l
  · exact fall l x x (Nat.le_refl _) (le_turn h5 h x)
  · obtain ⟨L, e, h1, h2⟩ := grow_some h5 (by omega)
    have hx := hs _ e
    by_cases hf : turnL l x ≤ x
    · exact fall l x x (Nat.le_refl _) hf
    · exact rise h1 (L - x) x (by omega) (Nat.le_refl _) (by omega)
/-- it grows without end -/
def Grows (l : Rs) (x : Nat) : Prop := ∃ s, growL l = some s ∧ s ≤ x
theorem grows_gt {l : Rs} (h5 : R5 l) {x : Nat} (h : Grows l x) : ∀ y, x ≤ y → y < turnL l y := by
  obtain ⟨s, e, hs⟩ := h
  by_cases hh : pH l ≤ pG l
  · rw [grow_none hh] at e
    cases e
  · obtain ⟨L, e2, h1, h2⟩ := grow_some h5 (by omega)
    rw [e2] at e
    cases e
    intro y hy
    by_cases z : turnL l y ≤ y
    · have := h2 y z
      omega
    · omega
theorem grows_iter {l : Rs} (h5 : R5 l) {x : Nat} (h : Grows l x) (k : Nat) : x ≤ iter l k x := by
  induction k with
  | zero => exact Nat.le_refl _
  | succ k ih =>
    have := grows_gt h5 h _ ih
    show x ≤ turnL l (iter l k x)
    omega
theorem rest_of {l : Rs} (h5 : R5 l) {x : Nat} (h : ¬ Grows l x) : ∃ k, turnL l (iter l k x) = iter l k x := by
  refine m_rests l x h5 fun s e => ?_
  by_cases z : s ≤ x
  · exact absurd ⟨s, e, z⟩ h
  · omega
theorem not_grows {l : Rs} (h5 : R5 l) {x k : Nat} (hk : turnL l (iter l k x) = iter l k x) : ¬ Grows l x := fun h => by
  have := grows_gt h5 h _ (grows_iter h5 h k)
  omega
theorem end_none {l : Rs} (h5 : R5 l) {x : Nat} (h : Grows l x) : (fateL l x).2 = none := by
  have h1 := grows_gt h5 h x (Nat.le_refl _)
  unfold fateL
  rw [if_neg (by omega), if_pos (show ∃ s, growL l = some s ∧ s ≤ x from h)]
theorem end_some {l : Rs} {x : Nat} (h : ¬ Grows l x) : (fateL l x).2 = some (limL l x) := by
  unfold fateL
  by_cases e : turnL l x = x
  · rw [if_pos e]
    have : limL l x = iter l 0 x := limL_eq (k := 0) e
    show some x = some (limL l x)
    rw [this]
    rfl
  · rw [if_neg e, if_neg (show ¬ ∃ s, growL l = some s ∧ s ≤ x from h)]

/-! ### begun elsewhere -/
theorem iter_rot (A B : Rs) (k x : Nat) : iter (B ++ A) k (turnL A x) = turnL A (iter (A ++ B) k x) := by
  induction k with
  | zero => rfl
  | succ k ih =>
    show turnL (B ++ A) (iter (B ++ A) k (turnL A x)) = turnL A (turnL (A ++ B) (iter (A ++ B) k x))
    rw [ih, turn_app, turn_app]
theorem fix_rot {A B : Rs} {x : Nat} (h : turnL (A ++ B) x = x) : turnL (B ++ A) (turnL A x) = turnL A x := by
  rw [turn_app] at h ⊢
  rw [h]
theorem rest_rot {A B : Rs} {x k : Nat} (hk : turnL (A ++ B) (iter (A ++ B) k x) = iter (A ++ B) k x) : turnL (B ++ A) (iter (B ++ A) k (turnL A x)) = iter (B ++ A) k (turnL A x) := by
  rw [iter_rot]
  exact fix_rot hk
theorem R5.swap {A B : Rs} (h : R5 (A ++ B)) : R5 (B ++ A) := h.right.app h.left
theorem grows_rot {A B : Rs} (h5 : R5 (A ++ B)) (x : Nat) : Grows (A ++ B) x ↔ Grows (B ++ A) (turnL A x) := by
  constructor
  · intro h
    refine Classical.byContradiction fun hn => ?_
    obtain ⟨k, hk⟩ := rest_of h5.swap hn
    have h2 := rest_rot (A := B) (B := A) hk
    have h3 := not_grows h5 h2
    rw [← turn_app] at h3
    have h4 := grows_gt h5 h x (Nat.le_refl _)
    obtain ⟨s, e, hs⟩ := h
    exact h3 ⟨s, e, by omega⟩
  · intro h
    refine Classical.byContradiction fun hn => ?_
    obtain ⟨k, hk⟩ := rest_of h5 hn
    exact not_grows h5.swap (rest_rot hk) h
theorem grow_iff {l : Rs} (h5 : R5 l) : growL l = none ↔ pH l ≤ pG l := by
  constructor
  · intro e
    refine Classical.byContradiction fun h => ?_
    obtain ⟨L, e2, _⟩ := grow_some h5 (by omega)
    rw [e] at e2
    cases e2
  · exact grow_none

/-! ### walked twice -/
theorem sq_le {a b : Nat} : a * a ≤ b * b ↔ a ≤ b := Nat.mul_self_le_mul_self_iff
theorem two_le {l : Rs} {x : Nat} : turnL (l ++ l) x ≤ x ↔ turnL l x ≤ x := by
  rw [turn_app]
  constructor
  · intro h
    by_cases z : turnL l x ≤ x
    · exact z
    · have := turn_mono l (show x ≤ turnL l x by omega)
      omega
  · intro h
    exact Nat.le_trans (turn_mono l h) h
theorem two_eq {l : Rs} {x : Nat} : turnL (l ++ l) x = x ↔ turnL l x = x := by
  constructor
  · intro h
    have h1 : turnL l x ≤ x := two_le.mp (Nat.le_of_eq h)
    rw [turn_app] at h
    have h2 := turn_mono l h1
    omega
  · intro h
    rw [turn_app, h, h]
theorem iter_two (l : Rs) (k x : Nat) : iter (l ++ l) k x = iter l (k + k) x := by
  induction k with
  | zero => rfl
  | succ k ih =>
    show turnL (l ++ l) (iter (l ++ l) k x) = iter l (k + 1 + (k + 1)) x
    rw [ih, turn_app, show k + 1 + (k + 1) = k + k + 1 + 1 by omega]
    rfl
theorem m_math : Math where
  rests := m_rests
  start := fun A B h5 => by
    rw [grow_iff h5, grow_iff h5.swap, pG_app, pH_app, pG_app, pH_app, Nat.mul_comm (pG B), Nat.mul_comm (pH B)]
  incr := fun A B h5 => by
    rw [List.pairwise_map]
    have h1 : (fixL (A ++ B) 60).Pairwise (· < ·) := List.Pairwise.filter _ List.pairwise_lt_range
    refine List.Pairwise.imp_of_mem (fun {a b} ha hb hab => ?_) h1
    have fa : turnL (A ++ B) a = a := beq_iff_eq.mp (List.mem_filter.mp ha).2
    have fb : turnL (A ++ B) b = b := beq_iff_eq.mp (List.mem_filter.mp hb).2
    have hle := turn_mono A (Nat.le_of_lt hab)
    by_cases e : turnL A a = turnL A b
    · rw [turn_app] at fa fb
      rw [e] at fa
      omega
    · omega
  fixed := fun A B _ x h => fix_rot h
  ends := fun A B h5 x => by
    by_cases h : Grows (A ++ B) x
    · rw [end_none h5 h, end_none h5.swap ((grows_rot h5 x).mp h)]
      rfl
    · rw [end_some h, end_some fun z => h ((grows_rot h5 x).mpr z)]
      obtain ⟨k, hk⟩ := rest_of h5 h
      rw [limL_eq hk, limL_eq (rest_rot hk), iter_rot]
      rfl
  tops := fun A B h5 => by
    have eG : pG (B ++ A) = pG (A ++ B) := by rw [pG_app, pG_app, Nat.mul_comm]
    have eH : pH (B ++ A) = pH (A ++ B) := by rw [pH_app, pH_app, Nat.mul_comm]
    by_cases h1 : pG (A ++ B) = pH (A ++ B)
    · have e1 : topL (A ++ B) = none := by unfold topL; rw [if_pos h1]
      have e2 : topL (B ++ A) = none := by unfold topL; rw [if_pos (by rw [eG, eH]; exact h1)]
      rw [e1, e2]
      rfl
    · by_cases h2 : pH (A ++ B) < pG (A ++ B)
      · have e1 : topL (A ++ B) = some 0 := by unfold topL; rw [if_neg h1, if_pos h2]
        have e2 : topL (B ++ A) = some 0 := by unfold topL; rw [if_neg (by rw [eG, eH]; exact h1), if_pos (by rw [eG, eH]; exact h2)]
        rw [e1, e2]
        show some 0 = some (turnL A 0)
        rw [turn_zero]
      · obtain ⟨T, e1, t1, t2⟩ := top_some h5 (by omega)
        obtain ⟨S, e2, s1, s2⟩ := top_some h5.swap (by rw [eG, eH]; omega)
        rw [e1, e2]
        show some S = some (turnL A T)
        have i1 := s2 _ (fix_rot t1)
        have i2 := t2 _ (fix_rot (A := B) (B := A) s1)
        have i3 := turn_mono A i2
        have i4 : turnL A (turnL B S) = S := by rw [← turn_app]; exact s1
        congr 1
        omega
  twice := fun A h5 => by
    have eg : growL (A ++ A) = growL A := by
      by_cases h : pH A ≤ pG A
      · rw [grow_none h, grow_none (by rw [pG_app, pH_app]; exact sq_le.mpr h)]
      · obtain ⟨L, e1, l1, l2⟩ := grow_some h5 (by omega)
        obtain ⟨M, e2, m1, m2⟩ := grow_some (h5.app h5) (by
          rw [pG_app, pH_app]
          have := (not_congr (sq_le (a := pH A) (b := pG A))).mpr h
          omega)
        rw [e1, e2]
        have i1 := m2 L (two_le.mpr l1)
        have i2 := l2 M (two_le.mp m1)
        congr 1
        omega
    refine ⟨eg, ?_, ?_, fun x => ?_⟩
    · by_cases h1 : pG A = pH A
      · have e1 : topL A = none := by unfold topL; rw [if_pos h1]
        have e2 : topL (A ++ A) = none := by unfold topL; rw [if_pos (by rw [pG_app, pH_app, h1])]
        rw [e1, e2]
      · have g1 : ¬ pG (A ++ A) = pH (A ++ A) := fun z => by
          rw [pG_app, pH_app] at z
          have i1 := sq_le.mp (Nat.le_of_eq z)
          have i2 := sq_le.mp (Nat.le_of_eq z.symm)
          omega
        by_cases h2 : pH A < pG A
        · have g2 : pH (A ++ A) < pG (A ++ A) := by
            rw [pG_app, pH_app]
            have := (not_congr (sq_le (a := pG A) (b := pH A))).mpr (by omega)
            omega
          have e1 : topL A = some 0 := by unfold topL; rw [if_neg h1, if_pos h2]
          have e2 : topL (A ++ A) = some 0 := by unfold topL; rw [if_neg g1, if_pos g2]
          rw [e1, e2]
        · have g2 : pG (A ++ A) < pH (A ++ A) := by
            rw [pG_app, pH_app]
            have := (not_congr (sq_le (a := pH A) (b := pG A))).mpr (by omega)
            omega
          obtain ⟨T, e1, t1, t2⟩ := top_some h5 (by omega)
          obtain ⟨S, e2, s1, s2⟩ := top_some (h5.app h5) g2
          rw [e1, e2]
          have i1 := s2 T (two_eq.mpr t1)
          have i2 := t2 S (two_eq.mp s1)
          congr 1
          omega
    · unfold fixL
      refine List.filter_congr fun x _ => ?_
      rw [Bool.eq_iff_iff, beq_iff_eq, beq_iff_eq]
      exact two_eq
    · unfold fateL
      by_cases h1 : turnL A x = x
      · rw [if_pos h1, if_pos (two_eq.mpr h1)]
      · rw [if_neg h1, if_neg (fun z => h1 (two_eq.mp z)), eg]
        by_cases h2 : ∃ s, growL A = some s ∧ s ≤ x
        · rw [if_pos h2, if_pos h2]
        · rw [if_neg h2, if_neg h2]
          obtain ⟨k, hk⟩ := rest_of h5 h2
          have e1 : iter (A ++ A) k x = iter A k x := by
            rw [iter_two, iter_add, iter_fix hk]
          have hk2 : turnL (A ++ A) (iter (A ++ A) k x) = iter (A ++ A) k x := by
            rw [e1]
            exact two_eq.mpr hk
          rw [limL_eq hk, limL_eq hk2, e1]
          have ew : (x < turnL (A ++ A) x) ↔ (x < turnL A x) := by
            have := two_le (l := A) (x := x)
            omega
          by_cases hw : x < turnL A x
          · rw [if_pos hw, if_pos (ew.mpr hw)]
          · rw [if_neg hw, if_neg (fun z => hw (ew.mp z))]
end KW

set_option Elab.async false
set_option linter.all false
set_option maxRecDepth 100000
/-! KEnd: what the top has written; the row. -/
namespace KW
open PySem PySem.Spec PyProof.Rows L2 KG
theorem mk_dd {K : PySem.W.Frag} {h : Heap} {mg : Str → Option Value} (X : K.In h) (G : h.Ns mainGlobals mg) {x : Str} {s : Stmt} {ps : List Str} {f : Addr} {oc kV doc pm cdv ct : Value} {od an : Option Addr} {osl : Array (Option Value)}
    (a : PySem.W.nsIn K mainGlobals x = some (some (.ref f))) (l : K.lookup f = some ⟨oc, od, .func (PySem.W.fnOf x x (C8.fnArgs s) (C8.fnBody s) (C8.fnScope s) .none kV doc pm an cdv ct), osl⟩) (c : PySem.W.codeIn K cdv x = true) (k : PySem.W.keepIn K (.ref f) = true)
    (hb : ∀ (kV doc pm : Value) (an : Option Addr) (cdv ct : Value) (us : List Value), us.length = ps.length → bindArgs (PySem.W.fnOf x x (C8.fnArgs s) (C8.fnBody s) (C8.fnScope s) .none kV doc pm an cdv ct) ⟨us, []⟩ = pure (ps.zip us)) : DD K mg x s ps :=
  ⟨f, _, ⟨⟨oc, od, .none, kV, doc, pm, an, cdv, ct, osl, rfl, l, c⟩, PySem.W.mg_of X G a, k⟩, .all (hb kV doc pm an cdv ct)⟩
theorem all_mk {l : PySem.W.OpenLaw} {w : World} {K : PySem.W.Frag} {h : Heap} {mg : Str → Option Value} {fa : Addr} (X : K.In h) (G : h.Ns mainGlobals mg) (hfa : mg "law" = some (.ref fa))
    {f6 f7 f8 f9 f15 f16 f17 f18 f19 f20 f21 f22 f23 f25 f26 f28 f29 f30 f31 f32 f33 f34 f35 f36 f37 f38 : Addr} {od6 an6 od7 an7 od8 an8 od9 an9 od15 an15 od16 an16 od17 an17 od18 an18 od19 an19 od20 an20 od21 an21 od22 an22 od23 an23 od25 an25 od26 an26 od28 an28 od29 an29 od30 an30 od31 an31 od32 an32 od33 an33 od34 an34 od35 an35 od36 an36 od37 an37 od38 an38 : Option Addr} {sl6 sl7 sl8 sl9 sl15 sl16 sl17 sl18 sl19 sl20 sl21 sl22 sl23 sl25 sl26 sl28 sl29 sl30 sl31 sl32 sl33 sl34 sl35 sl36 sl37 sl38 : Array (Option Value)}
    {oc6 kV6 dc6 pm6 cd6 ct6 oc7 kV7 dc7 pm7 cd7 ct7 oc8 kV8 dc8 pm8 cd8 ct8 oc9 kV9 dc9 pm9 cd9 ct9 oc15 kV15 dc15 pm15 cd15 ct15 oc16 kV16 dc16 pm16 cd16 ct16 oc17 kV17 dc17 pm17 cd17 ct17 oc18 kV18 dc18 pm18 cd18 ct18 oc19 kV19 dc19 pm19 cd19 ct19 oc20 kV20 dc20 pm20 cd20 ct20 oc21 kV21 dc21 pm21 cd21 ct21 oc22 kV22 dc22 pm22 cd22 ct22 oc23 kV23 dc23 pm23 cd23 ct23 oc25 kV25 dc25 pm25 cd25 ct25 oc26 kV26 dc26 pm26 cd26 ct26 oc28 kV28 dc28 pm28 cd28 ct28 oc29 kV29 dc29 pm29 cd29 ct29 oc30 kV30 dc30 pm30 cd30 ct30 oc31 kV31 dc31 pm31 cd31 ct31 oc32 kV32 dc32 pm32 cd32 ct32 oc33 kV33 dc33 pm33 cd33 ct33 oc34 kV34 dc34 pm34 cd34 ct34 oc35 kV35 dc35 pm35 cd35 ct35 oc36 kV36 dc36 pm36 cd36 ct36 oc37 kV37 dc37 pm37 cd37 ct37 oc38 kV38 dc38 pm38 cd38 ct38 : Value} {t_mloop t_mroute t_stays t_falls t_rises t_grows : Tok}
    (a6 : PySem.W.nsIn K mainGlobals "is_number" = some (some (.ref f6)))
    (l6 : K.lookup f6 = some ⟨oc6, od6, .func (PySem.W.fnOf "is_number" "is_number" (C8.fnArgs (st 6)) (C8.fnBody (st 6)) (C8.fnScope (st 6)) .none kV6 dc6 pm6 an6 cd6 ct6), sl6⟩)
    (c6 : PySem.W.codeIn K cd6 "is_number" = true) (k6 : PySem.W.keepIn K (.ref f6) = true)
    (a7 : PySem.W.nsIn K mainGlobals "changed" = some (some (.ref f7)))
    (l7 : K.lookup f7 = some ⟨oc7, od7, .func (PySem.W.fnOf "changed" "changed" (C8.fnArgs (st 7)) (C8.fnBody (st 7)) (C8.fnScope (st 7)) .none kV7 dc7 pm7 an7 cd7 ct7), sl7⟩)
    (c7 : PySem.W.codeIn K cd7 "changed" = true) (k7 : PySem.W.keepIn K (.ref f7) = true)
    (a8 : PySem.W.nsIn K mainGlobals "moved" = some (some (.ref f8)))
    (l8 : K.lookup f8 = some ⟨oc8, od8, .func (PySem.W.fnOf "moved" "moved" (C8.fnArgs (st 8)) (C8.fnBody (st 8)) (C8.fnScope (st 8)) .none kV8 dc8 pm8 an8 cd8 ct8), sl8⟩)
    (c8 : PySem.W.codeIn K cd8 "moved" = true) (k8 : PySem.W.keepIn K (.ref f8) = true)
    (a9 : PySem.W.nsIn K mainGlobals "renamed" = some (some (.ref f9)))
    (l9 : K.lookup f9 = some ⟨oc9, od9, .func (PySem.W.fnOf "renamed" "renamed" (C8.fnArgs (st 9)) (C8.fnBody (st 9)) (C8.fnScope (st 9)) .none kV9 dc9 pm9 an9 cd9 ct9), sl9⟩)
    (c9 : PySem.W.codeIn K cd9 "renamed" = true) (k9 : PySem.W.keepIn K (.ref f9) = true)
    (a15 : PySem.W.nsIn K mainGlobals "is_index" = some (some (.ref f15)))
    (l15 : K.lookup f15 = some ⟨oc15, od15, .func (PySem.W.fnOf "is_index" "is_index" (C8.fnArgs (st 15)) (C8.fnBody (st 15)) (C8.fnScope (st 15)) .none kV15 dc15 pm15 an15 cd15 ct15), sl15⟩)
    (c15 : PySem.W.codeIn K cd15 "is_index" = true) (k15 : PySem.W.keepIn K (.ref f15) = true)
    (a16 : PySem.W.nsIn K mainGlobals "is_loop" = some (some (.ref f16)))
    (l16 : K.lookup f16 = some ⟨oc16, od16, .func (PySem.W.fnOf "is_loop" "is_loop" (C8.fnArgs (st 16)) (C8.fnBody (st 16)) (C8.fnScope (st 16)) .none kV16 dc16 pm16 an16 cd16 ct16), sl16⟩)
    (c16 : PySem.W.codeIn K cd16 "is_loop" = true) (k16 : PySem.W.keepIn K (.ref f16) = true)
    (a17 : PySem.W.nsIn K mainGlobals "turn_of" = some (some (.ref f17)))
    (l17 : K.lookup f17 = some ⟨oc17, od17, .func (PySem.W.fnOf "turn_of" "turn_of" (C8.fnArgs (st 17)) (C8.fnBody (st 17)) (C8.fnScope (st 17)) .none kV17 dc17 pm17 an17 cd17 ct17), sl17⟩)
    (c17 : PySem.W.codeIn K cd17 "turn_of" = true) (k17 : PySem.W.keepIn K (.ref f17) = true)
    (a18 : PySem.W.nsIn K mainGlobals "products" = some (some (.ref f18)))
    (l18 : K.lookup f18 = some ⟨oc18, od18, .func (PySem.W.fnOf "products" "products" (C8.fnArgs (st 18)) (C8.fnBody (st 18)) (C8.fnScope (st 18)) .none kV18 dc18 pm18 an18 cd18 ct18), sl18⟩)
    (c18 : PySem.W.codeIn K cd18 "products" = true) (k18 : PySem.W.keepIn K (.ref f18) = true)
    (a19 : PySem.W.nsIn K mainGlobals "gain_bound" = some (some (.ref f19)))
    (l19 : K.lookup f19 = some ⟨oc19, od19, .func (PySem.W.fnOf "gain_bound" "gain_bound" (C8.fnArgs (st 19)) (C8.fnBody (st 19)) (C8.fnScope (st 19)) .none kV19 dc19 pm19 an19 cd19 ct19), sl19⟩)
    (c19 : PySem.W.codeIn K cd19 "gain_bound" = true) (k19 : PySem.W.keepIn K (.ref f19) = true)
    (a20 : PySem.W.nsIn K mainGlobals "fixed_amounts" = some (some (.ref f20)))
    (l20 : K.lookup f20 = some ⟨oc20, od20, .func (PySem.W.fnOf "fixed_amounts" "fixed_amounts" (C8.fnArgs (st 20)) (C8.fnBody (st 20)) (C8.fnScope (st 20)) .none kV20 dc20 pm20 an20 cd20 ct20), sl20⟩)
    (c20 : PySem.W.codeIn K cd20 "fixed_amounts" = true) (k20 : PySem.W.keepIn K (.ref f20) = true)
    (a21 : PySem.W.nsIn K mainGlobals "greatest_fixed" = some (some (.ref f21)))
    (l21 : K.lookup f21 = some ⟨oc21, od21, .func (PySem.W.fnOf "greatest_fixed" "greatest_fixed" (C8.fnArgs (st 21)) (C8.fnBody (st 21)) (C8.fnScope (st 21)) .none kV21 dc21 pm21 an21 cd21 ct21), sl21⟩)
    (c21 : PySem.W.codeIn K cd21 "greatest_fixed" = true) (k21 : PySem.W.keepIn K (.ref f21) = true)
    (a22 : PySem.W.nsIn K mainGlobals "growth_start" = some (some (.ref f22)))
    (l22 : K.lookup f22 = some ⟨oc22, od22, .func (PySem.W.fnOf "growth_start" "growth_start" (C8.fnArgs (st 22)) (C8.fnBody (st 22)) (C8.fnScope (st 22)) .none kV22 dc22 pm22 an22 cd22 ct22), sl22⟩)
    (c22 : PySem.W.codeIn K cd22 "growth_start" = true) (k22 : PySem.W.keepIn K (.ref f22) = true)
    (a23 : PySem.W.nsIn K mainGlobals "fate_of" = some (some (.ref f23)))
    (l23 : K.lookup f23 = some ⟨oc23, od23, .func (PySem.W.fnOf "fate_of" "fate_of" (C8.fnArgs (st 23)) (C8.fnBody (st 23)) (C8.fnScope (st 23)) .none kV23 dc23 pm23 an23 cd23 ct23), sl23⟩)
    (c23 : PySem.W.codeIn K cd23 "fate_of" = true) (k23 : PySem.W.keepIn K (.ref f23) = true)
    (a25 : PySem.W.nsIn K mainGlobals "first_wrong" = some (some (.ref f25)))
    (l25 : K.lookup f25 = some ⟨oc25, od25, .func (PySem.W.fnOf "first_wrong" "first_wrong" (C8.fnArgs (st 25)) (C8.fnBody (st 25)) (C8.fnScope (st 25)) .none kV25 dc25 pm25 an25 cd25 ct25), sl25⟩)
    (c25 : PySem.W.codeIn K cd25 "first_wrong" = true) (k25 : PySem.W.keepIn K (.ref f25) = true)
    (a26 : PySem.W.nsIn K mainGlobals "run" = some (some (.ref f26)))
    (l26 : K.lookup f26 = some ⟨oc26, od26, .func (PySem.W.fnOf "run" "run" (C8.fnArgs (st 26)) (C8.fnBody (st 26)) (C8.fnScope (st 26)) .none kV26 dc26 pm26 an26 cd26 ct26), sl26⟩)
    (c26 : PySem.W.codeIn K cd26 "run" = true) (k26 : PySem.W.keepIn K (.ref f26) = true)
    (a28 : PySem.W.nsIn K mainGlobals "_law_draws" = some (some (.ref f28)))
    (l28 : K.lookup f28 = some ⟨oc28, od28, .func (PySem.W.fnOf "_law_draws" "_law_draws" (C8.fnArgs (st 28)) (C8.fnBody (st 28)) (C8.fnScope (st 28)) .none kV28 dc28 pm28 an28 cd28 ct28), sl28⟩)
    (c28 : PySem.W.codeIn K cd28 "_law_draws" = true) (k28 : PySem.W.keepIn K (.ref f28) = true)
    (a29 : PySem.W.nsIn K mainGlobals "_law_next" = some (some (.ref f29)))
    (l29 : K.lookup f29 = some ⟨oc29, od29, .func (PySem.W.fnOf "_law_next" "_law_next" (C8.fnArgs (st 29)) (C8.fnBody (st 29)) (C8.fnScope (st 29)) .none kV29 dc29 pm29 an29 cd29 ct29), sl29⟩)
    (c29 : PySem.W.codeIn K cd29 "_law_next" = true) (k29 : PySem.W.keepIn K (.ref f29) = true)
    (a30 : PySem.W.nsIn K mainGlobals "_law_one" = some (some (.ref f30)))
    (l30 : K.lookup f30 = some ⟨oc30, od30, .func (PySem.W.fnOf "_law_one" "_law_one" (C8.fnArgs (st 30)) (C8.fnBody (st 30)) (C8.fnScope (st 30)) .none kV30 dc30 pm30 an30 cd30 ct30), sl30⟩)
    (c30 : PySem.W.codeIn K cd30 "_law_one" = true) (k30 : PySem.W.keepIn K (.ref f30) = true)
    (a31 : PySem.W.nsIn K mainGlobals "_law_rate" = some (some (.ref f31)))
    (l31 : K.lookup f31 = some ⟨oc31, od31, .func (PySem.W.fnOf "_law_rate" "_law_rate" (C8.fnArgs (st 31)) (C8.fnBody (st 31)) (C8.fnScope (st 31)) .none kV31 dc31 pm31 an31 cd31 ct31), sl31⟩)
    (c31 : PySem.W.codeIn K cd31 "_law_rate" = true) (k31 : PySem.W.keepIn K (.ref f31) = true)
    (a32 : PySem.W.nsIn K mainGlobals "_law_board" = some (some (.ref f32)))
    (l32 : K.lookup f32 = some ⟨oc32, od32, .func (PySem.W.fnOf "_law_board" "_law_board" (C8.fnArgs (st 32)) (C8.fnBody (st 32)) (C8.fnScope (st 32)) .none kV32 dc32 pm32 an32 cd32 ct32), sl32⟩)
    (c32 : PySem.W.codeIn K cd32 "_law_board" = true) (k32 : PySem.W.keepIn K (.ref f32) = true)
    (a33 : PySem.W.nsIn K mainGlobals "_law_loops" = some (some (.ref f33)))
    (l33 : K.lookup f33 = some ⟨oc33, od33, .func (PySem.W.fnOf "_law_loops" "_law_loops" (C8.fnArgs (st 33)) (C8.fnBody (st 33)) (C8.fnScope (st 33)) .none kV33 dc33 pm33 an33 cd33 ct33), sl33⟩)
    (c33 : PySem.W.codeIn K cd33 "_law_loops" = true) (k33 : PySem.W.keepIn K (.ref f33) = true)
    (a34 : PySem.W.nsIn K mainGlobals "_law_end_told" = some (some (.ref f34)))
    (l34 : K.lookup f34 = some ⟨oc34, od34, .func (PySem.W.fnOf "_law_end_told" "_law_end_told" (C8.fnArgs (st 34)) (C8.fnBody (st 34)) (C8.fnScope (st 34)) .none kV34 dc34 pm34 an34 cd34 ct34), sl34⟩)
    (c34 : PySem.W.codeIn K cd34 "_law_end_told" = true) (k34 : PySem.W.keepIn K (.ref f34) = true)
    (a35 : PySem.W.nsIn K mainGlobals "_law_begun_right" = some (some (.ref f35)))
    (l35 : K.lookup f35 = some ⟨oc35, od35, .func (PySem.W.fnOf "_law_begun_right" "_law_begun_right" (C8.fnArgs (st 35)) (C8.fnBody (st 35)) (C8.fnScope (st 35)) .none kV35 dc35 pm35 an35 cd35 ct35), sl35⟩)
    (c35 : PySem.W.codeIn K cd35 "_law_begun_right" = true) (k35 : PySem.W.keepIn K (.ref f35) = true)
    (a36 : PySem.W.nsIn K mainGlobals "_law_shown" = some (some (.ref f36)))
    (l36 : K.lookup f36 = some ⟨oc36, od36, .func (PySem.W.fnOf "_law_shown" "_law_shown" (C8.fnArgs (st 36)) (C8.fnBody (st 36)) (C8.fnScope (st 36)) .none kV36 dc36 pm36 an36 cd36 ct36), sl36⟩)
    (c36 : PySem.W.codeIn K cd36 "_law_shown" = true) (k36 : PySem.W.keepIn K (.ref f36) = true)
    (a37 : PySem.W.nsIn K mainGlobals "_law_twice_right" = some (some (.ref f37)))
    (l37 : K.lookup f37 = some ⟨oc37, od37, .func (PySem.W.fnOf "_law_twice_right" "_law_twice_right" (C8.fnArgs (st 37)) (C8.fnBody (st 37)) (C8.fnScope (st 37)) .none kV37 dc37 pm37 an37 cd37 ct37), sl37⟩)
    (c37 : PySem.W.codeIn K cd37 "_law_twice_right" = true) (k37 : PySem.W.keepIn K (.ref f37) = true)
    (a38 : PySem.W.nsIn K mainGlobals "law" = some (some (.ref f38)))
    (l38 : K.lookup f38 = some ⟨oc38, od38, .func (PySem.W.fnOf "law" "law" (C8.fnArgs (st 38)) (C8.fnBody (st 38)) (C8.fnScope (st 38)) .none kV38 dc38 pm38 an38 cd38 ct38), sl38⟩)
    (c38 : PySem.W.codeIn K cd38 "law" = true) (k38 : PySem.W.keepIn K (.ref f38) = true)
    (z_isi : PySem.W.nsIn K mainGlobals "isinstance" = some none)
    (z_int : PySem.W.nsIn K mainGlobals "int" = some none)
    (z_bool : PySem.W.nsIn K mainGlobals "bool" = some none)
    (z_len : PySem.W.nsIn K mainGlobals "len" = some none)
    (z_tuple : PySem.W.nsIn K mainGlobals "tuple" = some none)
    (z_zip : PySem.W.nsIn K mainGlobals "zip" = some none)
    (z_range : PySem.W.nsIn K mainGlobals "range" = some none)
    (z_min : PySem.W.nsIn K mainGlobals "min" = some none)
    (z_max : PySem.W.nsIn K mainGlobals "max" = some none)
    (z_all : PySem.W.nsIn K mainGlobals "all" = some none)
    (z_enum : PySem.W.nsIn K mainGlobals "enumerate" = some none)
    (z_list : PySem.W.nsIn K mainGlobals "list" = some none)
    (z_sorted : PySem.W.nsIn K mainGlobals "sorted" = some none)
    (z_set : PySem.W.nsIn K mainGlobals "set" = some none)
    (z_mloop : PySem.W.nsIn K mainGlobals "MAX_LOOP" = some (some (.int 4 t_mloop)))
    (z_mroute : PySem.W.nsIn K mainGlobals "MAX_ROUTE" = some (some (.int 200 t_mroute)))
    (z_stays : PySem.W.nsIn K mainGlobals "STAYS" = some (some (.str "stays" t_stays)))
    (z_falls : PySem.W.nsIn K mainGlobals "FALLS" = some (some (.str "falls" t_falls)))
    (z_rises : PySem.W.nsIn K mainGlobals "RISES" = some (some (.str "rises" t_rises)))
    (z_grows : PySem.W.nsIn K mainGlobals "GROWS" = some (some (.str "grows" t_grows)))
    : ∃ fd : FuncData, (∀ (s : Shared) (v : Value), BindsTo s fd ⟨[v], []⟩ [("_law_script", v)]) ∧ ∀ base : Heap, K.In base → base.Ns mainGlobals mg → FnOk l.prog w K mg base C8.CX0 9 fa fd ["_law_script"] (spLaw K) := by
  have e := hfa.symm.trans (PySem.W.mg_of X G a38)
  cases e
  have M : BI mg := ⟨PySem.W.mg_none_of X G z_isi, PySem.W.mg_none_of X G z_int, PySem.W.mg_none_of X G z_bool, PySem.W.mg_none_of X G z_len, PySem.W.mg_none_of X G z_tuple, PySem.W.mg_none_of X G z_zip, PySem.W.mg_none_of X G z_range, PySem.W.mg_none_of X G z_min, PySem.W.mg_none_of X G z_max, PySem.W.mg_none_of X G z_all, PySem.W.mg_none_of X G z_enum, PySem.W.mg_none_of X G z_list, PySem.W.mg_none_of X G z_sorted, PySem.W.mg_none_of X G z_set, ⟨_, PySem.W.mg_of X G z_mloop⟩, ⟨_, PySem.W.mg_of X G z_mroute⟩, ⟨_, PySem.W.mg_of X G z_stays⟩, ⟨_, PySem.W.mg_of X G z_falls⟩, ⟨_, PySem.W.mg_of X G z_rises⟩, ⟨_, PySem.W.mg_of X G z_grows⟩⟩
  have D6 : DD K mg "is_number" (st 6) ["value", "low", "high"] := mk_dd X G a6 l6 c6 k6 (fun _ _ _ _ _ _ us hl => match us, hl with | [_, _, _], _ => rfl)
  have D7 : DD K mg "changed" (st 7) ["counter", "amount"] := mk_dd X G a7 l7 c7 k7 (fun _ _ _ _ _ _ us hl => match us, hl with | [_, _], _ => rfl)
  have D8 : DD K mg "moved" (st 8) ["counter", "names"] := mk_dd X G a8 l8 c8 k8 (fun _ _ _ _ _ _ us hl => match us, hl with | [_, _], _ => rfl)
  have D9 : DD K mg "renamed" (st 9) ["board", "names"] := mk_dd X G a9 l9 c9 k9 (fun _ _ _ _ _ _ us hl => match us, hl with | [_, _], _ => rfl)
  have D15 : DD K mg "is_index" (st 15) ["value", "count"] := mk_dd X G a15 l15 c15 k15 (fun _ _ _ _ _ _ us hl => match us, hl with | [_, _], _ => rfl)
  have D16 : DD K mg "is_loop" (st 16) ["board", "value"] := mk_dd X G a16 l16 c16 k16 (fun _ _ _ _ _ _ us hl => match us, hl with | [_, _], _ => rfl)
  have D17 : DD K mg "turn_of" (st 17) ["board", "loop", "amount"] := mk_dd X G a17 l17 c17 k17 (fun _ _ _ _ _ _ us hl => match us, hl with | [_, _, _], _ => rfl)
  have D18 : DD K mg "products" (st 18) ["board", "loop"] := mk_dd X G a18 l18 c18 k18 (fun _ _ _ _ _ _ us hl => match us, hl with | [_, _], _ => rfl)
  have D19 : DD K mg "gain_bound" (st 19) ["board", "loop"] := mk_dd X G a19 l19 c19 k19 (fun _ _ _ _ _ _ us hl => match us, hl with | [_, _], _ => rfl)
  have D20 : DD K mg "fixed_amounts" (st 20) ["board", "loop", "most"] := mk_dd X G a20 l20 c20 k20 (fun _ _ _ _ _ _ us hl => match us, hl with | [_, _, _], _ => rfl)
  have D21 : DD K mg "greatest_fixed" (st 21) ["board", "loop"] := mk_dd X G a21 l21 c21 k21 (fun _ _ _ _ _ _ us hl => match us, hl with | [_, _], _ => rfl)
  have D22 : DD K mg "growth_start" (st 22) ["board", "loop"] := mk_dd X G a22 l22 c22 k22 (fun _ _ _ _ _ _ us hl => match us, hl with | [_, _], _ => rfl)
  have D23 : DD K mg "fate_of" (st 23) ["board", "loop", "amount"] := mk_dd X G a23 l23 c23 k23 (fun _ _ _ _ _ _ us hl => match us, hl with | [_, _, _], _ => rfl)
  have D25 : DD K mg "first_wrong" (st 25) ["board", "kind", "value"] := mk_dd X G a25 l25 c25 k25 (fun _ _ _ _ _ _ us hl => match us, hl with | [_, _, _], _ => rfl)
  have D26 : DD K mg "run" (st 26) ["board", "kind", "amount", "value"] := mk_dd X G a26 l26 c26 k26 (fun _ _ _ _ _ _ us hl => match us, hl with | [_, _, _, _], _ => rfl)
  have D28 : DD K mg "_law_draws" (st 28) ["_law_script"] := mk_dd X G a28 l28 c28 k28 (fun _ _ _ _ _ _ us hl => match us, hl with | [_], _ => rfl)
  have D29 : DD K mg "_law_next" (st 29) ["_law_drawn", "_law_many"] := mk_dd X G a29 l29 c29 k29 (fun _ _ _ _ _ _ us hl => match us, hl with | [_, _], _ => rfl)
  have D30 : DD K mg "_law_one" (st 30) ["_law_drawn", "_law_items"] := mk_dd X G a30 l30 c30 k30 (fun _ _ _ _ _ _ us hl => match us, hl with | [_, _], _ => rfl)
  have D31 : DD K mg "_law_rate" (st 31) ["_law_drawn"] := mk_dd X G a31 l31 c31 k31 (fun _ _ _ _ _ _ us hl => match us, hl with | [_], _ => rfl)
  have D32 : DD K mg "_law_board" (st 32) ["_law_drawn"] := mk_dd X G a32 l32 c32 k32 (fun _ _ _ _ _ _ us hl => match us, hl with | [_], _ => rfl)
  have D33 : DD K mg "_law_loops" (st 33) ["_law_board_here"] := mk_dd X G a33 l33 c33 k33 (fun _ _ _ _ _ _ us hl => match us, hl with | [_], _ => rfl)
  have D34 : DD K mg "_law_end_told" (st 34) ["_law_board_here", "_law_loop", "_law_amount"] := mk_dd X G a34 l34 c34 k34 (fun _ _ _ _ _ _ us hl => match us, hl with | [_, _, _], _ => rfl)
  have D35 : DD K mg "_law_begun_right" (st 35) ["_law_drawn", "_law_board_here", "_law_loop", "_law_cut"] := mk_dd X G a35 l35 c35 k35 (fun _ _ _ _ _ _ us hl => match us, hl with | [_, _, _, _], _ => rfl)
  have D36 : DD K mg "_law_shown" (st 36) ["_law_board_here", "_law_loop", "_law_amounts"] := mk_dd X G a36 l36 c36 k36 (fun _ _ _ _ _ _ us hl => match us, hl with | [_, _, _], _ => rfl)
  have D37 : DD K mg "_law_twice_right" (st 37) ["_law_drawn", "_law_board_here", "_law_loop"] := mk_dd X G a37 l37 c37 k37 (fun _ _ _ _ _ _ us hl => match us, hl with | [_, _, _], _ => rfl)
  refine ⟨_, fun s v => .of_eq rfl, fun base _ _ => C8.fn0 (x := "law") (qual := "law") (st := st 38) ⟨oc38, od38, .none, kV38, dc38, pm38, an38, cd38, ct38, sl38, rfl, l38, c38⟩ sc38 (fun vs H Q E h => ?_) ?_⟩
  · obtain ⟨_, _, rfl, _⟩ := h
    rfl
  · have q7 := c_chg (P := l.prog) (w := w) (base := base) D7
    have q17 := c_turn D17 q7
    have q18 := c_prod (P := l.prog) (w := w) (base := base) D18
    have q19 := c_gb D19 q18
    have q20 := c_fix M D20 q17
    have q21 := c_top M D21 q18 q19 q17
    have q22 := c_grow M D22 q18 q19 q17
    have q23 := c_fate m_rests M D23 q17 q22
    have q6 := c_num (P := l.prog) (w := w) (base := base) M D6
    have q8 := c_mov (P := l.prog) (w := w) (base := base) D8
    have q9 := c_ren M D9 q8
    have q15 := c_ix (P := l.prog) (w := w) (base := base) M D15
    have q16 := c_loop M D16 q15
    have q25 := c_wrong M D25 q6
    have q26 := c_run M D26 q25 q7
    have q28 := c_draws (P := l.prog) (w := w) (base := base) M D28
    have q29 := c_next (P := l.prog) (w := w) (base := base) M D29
    have q30 := c_one M D30 q29
    have q31 := c_rate M D31 q29
    have q32 := c_board M D32 q29 q31
    have q33 := c_loops (P := l.prog) (w := w) (base := base) M D33
    have q34 := c_end D34 q23
    have q35 := c_begun m_math M D35 q29 q22 q21 q20 q16 q26 q17 q34
    have q36 := c_shown M D36 q22 q21 q20 q23
    have q37 := c_twice m_math M D37 q29 q9 q36
    exact law_body M q28 q32 q33 q30 q35 q37 _
theorem only_simp {H : Hp} (h : Only H) : Simp H := fun b o e => by
  rcases h b with q | ⟨ob, xs, q⟩
  · rw [q] at e
    cases e
  · rw [q] at e
    cases e
    trivial
end KW
open PySem PySem.W PyProof.Rows
set_option maxHeartbeats 0 in
theorem PySem.Challenge.cw_coincounters_k23_whole_loops_begun_elsew_holds : PySem.Challenge.rw_coincounters_k23_whole_loops_begun_elsew.Holds := by
  w_on; o_law; k_head; (case hw => w_witness2)
  k_fill
  refine L2.walk_of (l := PySem.Challenge.rw_coincounters_k23_whole_loops_begun_elsew) (n := 63) (k := 9) (x := "_law_script") (CX := fun _ => C8.CX0) (sp := fun w => KW.spLaw _) rfl (by decide) rfl ⟨rfl, by decide, by decide⟩ (fun w h Y => PySem.W.kIn_of Y) ?F (fun _ _ a ns hl hO hS => ⟨a, ns, rfl, hS, hl, KW.only_simp hO, fun _ => rfl⟩) (fun _ _ _ _ _ h => h)
  case F =>
    intro w mg fa h KX G hmg
    refine' KW.all_mk KX G hmg ?a6 ?l6 ?c6 ?k6 ?a7 ?l7 ?c7 ?k7 ?a8 ?l8 ?c8 ?k8 ?a9 ?l9 ?c9 ?k9 ?a15 ?l15 ?c15 ?k15 ?a16 ?l16 ?c16 ?k16 ?a17 ?l17 ?c17 ?k17 ?a18 ?l18 ?c18 ?k18 ?a19 ?l19 ?c19 ?k19 ?a20 ?l20 ?c20 ?k20 ?a21 ?l21 ?c21 ?k21 ?a22 ?l22 ?c22 ?k22 ?a23 ?l23 ?c23 ?k23 ?a25 ?l25 ?c25 ?k25 ?a26 ?l26 ?c26 ?k26 ?a28 ?l28 ?c28 ?k28 ?a29 ?l29 ?c29 ?k29 ?a30 ?l30 ?c30 ?k30 ?a31 ?l31 ?c31 ?k31 ?a32 ?l32 ?c32 ?k32 ?a33 ?l33 ?c33 ?k33 ?a34 ?l34 ?c34 ?k34 ?a35 ?l35 ?c35 ?k35 ?a36 ?l36 ?c36 ?k36 ?a37 ?l37 ?c37 ?k37 ?a38 ?l38 ?c38 ?k38 ?z_isi ?z_int ?z_bool ?z_len ?z_tuple ?z_zip ?z_range ?z_min ?z_max ?z_all ?z_enum ?z_list ?z_sorted ?z_set ?z_mloop ?z_mroute ?z_stays ?z_falls ?z_rises ?z_grows
    (case a6 => k_is)
    (case l6 => k_is)
    (case c6 => k_is)
    (case k6 => k_is)
    (case a7 => k_is)
    (case l7 => k_is)
    (case c7 => k_is)
    (case k7 => k_is)
    (case a8 => k_is)
    (case l8 => k_is)
    (case c8 => k_is)
    (case k8 => k_is)
    (case a9 => k_is)
    (case l9 => k_is)
    (case c9 => k_is)
    (case k9 => k_is)
    (case a15 => k_is)
    (case l15 => k_is)
    (case c15 => k_is)
    (case k15 => k_is)
    (case a16 => k_is)
    (case l16 => k_is)
    (case c16 => k_is)
    (case k16 => k_is)
    (case a17 => k_is)
    (case l17 => k_is)
    (case c17 => k_is)
    (case k17 => k_is)
    (case a18 => k_is)
    (case l18 => k_is)
    (case c18 => k_is)
    (case k18 => k_is)
    (case a19 => k_is)
    (case l19 => k_is)
    (case c19 => k_is)
    (case k19 => k_is)
    (case a20 => k_is)
    (case l20 => k_is)
    (case c20 => k_is)
    (case k20 => k_is)
    (case a21 => k_is)
    (case l21 => k_is)
    (case c21 => k_is)
    (case k21 => k_is)
    (case a22 => k_is)
    (case l22 => k_is)
    (case c22 => k_is)
    (case k22 => k_is)
    (case a23 => k_is)
    (case l23 => k_is)
    (case c23 => k_is)
    (case k23 => k_is)
    (case a25 => k_is)
    (case l25 => k_is)
    (case c25 => k_is)
    (case k25 => k_is)
    (case a26 => k_is)
    (case l26 => k_is)
    (case c26 => k_is)
    (case k26 => k_is)
    (case a28 => k_is)
    (case l28 => k_is)
    (case c28 => k_is)
    (case k28 => k_is)
    (case a29 => k_is)
    (case l29 => k_is)
    (case c29 => k_is)
    (case k29 => k_is)
    (case a30 => k_is)
    (case l30 => k_is)
    (case c30 => k_is)
    (case k30 => k_is)
    (case a31 => k_is)
    (case l31 => k_is)
    (case c31 => k_is)
    (case k31 => k_is)
    (case a32 => k_is)
    (case l32 => k_is)
    (case c32 => k_is)
    (case k32 => k_is)
    (case a33 => k_is)
    (case l33 => k_is)
    (case c33 => k_is)
    (case k33 => k_is)
    (case a34 => k_is)
    (case l34 => k_is)
    (case c34 => k_is)
    (case k34 => k_is)
    (case a35 => k_is)
    (case l35 => k_is)
    (case c35 => k_is)
    (case k35 => k_is)
    (case a36 => k_is)
    (case l36 => k_is)
    (case c36 => k_is)
    (case k36 => k_is)
    (case a37 => k_is)
    (case l37 => k_is)
    (case c37 => k_is)
    (case k37 => k_is)
    (case a38 => k_is)
    (case l38 => k_is)
    (case c38 => k_is)
    (case k38 => k_is)
    (case z_isi => k_is)
    (case z_int => k_is)
    (case z_bool => k_is)
    (case z_len => k_is)
    (case z_tuple => k_is)
    (case z_zip => k_is)
    (case z_range => k_is)
    (case z_min => k_is)
    (case z_max => k_is)
    (case z_all => k_is)
    (case z_enum => k_is)
    (case z_list => k_is)
    (case z_sorted => k_is)
    (case z_set => k_is)
    (case z_mloop => k_is)
    (case z_mroute => k_is)
    (case z_stays => k_is)
    (case z_falls => k_is)
    (case z_rises => k_is)
    (case z_grows => k_is)
