import PyProof.Rows.All
import PyProof.GenObj
import Wide.All
import OpenK.AllK
import Wide.FinOn
import HandS.Iter
import KE.GoesEnum
import HandS.GenList
import HandS.ForMost
import PyProof.EqAt
import HandS.TupAny
import HandS.TupSets
import HandS.SetFor
import HandS.Strs
import HandS.Style
import HandS.Star
import HandS.Wide
import HandS.IsInst
import HandS.Flow
import HandS.DictTup
import HandS.Walk
import PySem.Challenge.RW_ringpostfix_k49_whole_numbers_there_and
set_option Elab.async false
set_option linter.all false
set_option maxRecDepth 100000
section PartKFrame
/-! The generator frame rule: what sleeps is not touched by a run that is judged from a state where every sleeper is stuck. -/
namespace KF
open PySem
open Sem (wp)

def isSus : GenState → Bool
  | .suspended .. => true
  | _ => false
def stick : GenState → GenState
  | .suspended _ l c p fs cl => .suspended (fun _ => .unsupported "") l c p fs cl
  | x => x
theorem stick_seen (y : GenState) : (stick y).seen = y.seen := by cases y <;> rfl
theorem stick_bare (y : GenState) : (stick y).bare = y.bare := by cases y <;> rfl
theorem isSus_stick (y : GenState) : isSus (stick y) = isSus y := by cases y <;> rfl
/-- the elder sleepers put back -/
def rst (G a : Array GenState) : Array GenState := a.mapIdx fun i x => match G[i]? with
  | some y => if isSus y then y else x
  | none => x
abbrev rstS (G : Array GenState) (s : Shared) : Shared := { s with gens := rst G s.gens }
theorem rst_size (G a : Array GenState) : (rst G a).size = a.size := by simp [rst]
def Slp (G : Array GenState) (i : Nat) : Prop := ∃ y, G[i]? = some y ∧ isSus y = true
theorem rst_get (G a : Array GenState) (i : Nat) (n : ¬ Slp G i) : (rst G a)[i]? = a[i]? := by
  unfold rst
  rw [Array.getElem?_mapIdx]
  cases h : a[i]? with
  | none => rfl
  | some x =>
    show some _ = some x
    cases q : G[i]? with
    | none => rfl
    | some y =>
      have z : isSus y = false := by
        cases e : isSus y with
        | false => rfl
        | true => exact absurd ⟨y, q, e⟩ n
      simp [z]
theorem rst_slp {G a : Array GenState} {i : Nat} {y : GenState} (q : G[i]? = some y) (h : isSus y = true) (hi : i < a.size) : (rst G a)[i]? = some y := by
  unfold rst
  rw [Array.getElem?_mapIdx, Array.getElem?_eq_getElem hi, q]
  simp [h]
structure Good (G a : Array GenState) : Prop where
  old : ∀ (i : Nat) (y : GenState), G[i]? = some y → isSus y = true → a[i]? = some (stick y)
  new : ∀ (i : Nat) k l c p fs cl, a[i]? = some (.suspended k l c p fs cl) → Slp G i ∨ splitAtGen fs = none
theorem Good.lt {G a : Array GenState} (g : Good G a) {i : Nat} (h : Slp G i) : i < a.size := by
  obtain ⟨y, q, e⟩ := h
  have := g.old i y q e
  rcases Nat.lt_or_ge i a.size with z | z
  · exact z
  · rw [Array.getElem?_eq_none z] at this; cases this
theorem Good.not {G a : Array GenState} (g : Good G a) {i : Nat} {x : GenState} (h : a[i]? = some x) (n : isSus x = false) : ¬ Slp G i := fun ⟨y, q, e⟩ => by
  have := g.old i y q e
  rw [h] at this
  cases this
  rw [isSus_stick, e] at n
  cases n
theorem Good.seen {G a : Array GenState} (g : Good G a) {i : Nat} {x : GenState} (h : a[i]? = some x) : ∃ y, (rst G a)[i]? = some y ∧ y.seen = x.seen := by
  by_cases n : Slp G i
  · obtain ⟨y, q, e⟩ := id n
    have := g.old i y q e
    rw [h] at this
    cases this
    exact ⟨y, rst_slp q e (g.lt n), (stick_seen y).symm⟩
  · exact ⟨x, (rst_get G a i n).trans h, rfl⟩
theorem Good.set {G a : Array GenState} (g : Good G a) {i : Nat} {x : GenState} (n : ¬ Slp G i) (hx : ∀ k l c p fs cl, x = .suspended k l c p fs cl → splitAtGen fs = none) : Good G (a.setIfInBounds i x) := by
  refine ⟨fun j y q e => ?_, fun j k l c p fs cl h => ?_⟩
  · have ne : i ≠ j := fun z => n ⟨y, by rw [z]; exact q, e⟩
    rw [Array.getElem?_setIfInBounds_ne ne]
    exact g.old j y q e
  · by_cases z : i = j
    · subst z
      rw [Array.getElem?_setIfInBounds] at h
      simp only [if_true] at h
      split at h
      · cases h; exact .inr (hx _ _ _ _ _ _ rfl)
      · cases h
    · rw [Array.getElem?_setIfInBounds_ne z] at h
      exact g.new j _ _ _ _ _ _ h
theorem rst_set {G a : Array GenState} {i : Nat} {x : GenState} (n : ¬ Slp G i) : rst G (a.setIfInBounds i x) = (rst G a).setIfInBounds i x := by
  apply Array.ext_getElem?
  intro j
  by_cases z : i = j
  · subst z
    rw [rst_get _ _ _ n, Array.getElem?_setIfInBounds, Array.getElem?_setIfInBounds]
    simp [rst_size]
  · rw [Array.getElem?_setIfInBounds_ne z]
    unfold rst
    rw [Array.getElem?_mapIdx, Array.getElem?_mapIdx, Array.getElem?_setIfInBounds_ne z]
theorem rstS_set {G : Array GenState} {s : Shared} {i : Nat} {x : GenState} (n : ¬ Slp G i) : rstS G (s.setGen i x) = (rstS G s).setGen i x := by
  unfold rstS Shared.setGen
  simp only [rst_set n]
theorem Good.push {G a : Array GenState} (g : Good G a) (hG : G.size ≤ a.size) {c : Code} : Good G (a.push (.fresh c)) := by
  refine ⟨fun j y q e => ?_, fun j k l c' p fs cl h => ?_⟩
  · rw [Array.getElem?_push_lt (g.lt ⟨y, q, e⟩)]
    have := g.old j y q e
    rw [Array.getElem?_eq_getElem (g.lt ⟨y, q, e⟩)] at this
    exact this
  · rw [Array.getElem?_push] at h
    split at h
    · cases h
    · exact g.new j _ _ _ _ _ _ h
theorem rst_push {G a : Array GenState} (hG : G.size ≤ a.size) (x : GenState) : rst G (a.push x) = (rst G a).push x := by
  apply Array.ext_getElem?
  intro j
  rw [Array.getElem?_push, rst_size]
  by_cases z : j = a.size
  · subst z
    have n : ¬ Slp G a.size := fun ⟨y, q, _⟩ => by rw [Array.getElem?_eq_none hG] at q; cases q
    rw [rst_get _ _ _ n]
    simp
  · rw [if_neg z]
    unfold rst
    rw [Array.getElem?_mapIdx, Array.getElem?_mapIdx, Array.getElem?_push, if_neg z]

variable {M : Model}
theorem no_unsup {Γ : Ctx} {p : Pos} {w : String} {fs : List Frame} {s s' : Shared} {e : End} {t : Sem PySem.Fin} (ht : t = .unsupported w) (h : Runs M Γ p t fs s e s') : False := by
  induction h <;> first | (cases ht; done) | (rename_i ih _; exact ih ht) | (rename_i ih; exact ih ht) | (rename_i ih _ _; exact ih ht) | skip
  all_goals (first | (cases ht; done) | simp_all)

theorem Good.sus {G a : Array GenState} (g : Good G a) {i : Nat} {k l c p fs cl} (hg : a[i]? = some (.suspended k l c p fs cl)) {Γ : Ctx} {p₀ : Pos} {r : Resume} {s s' : Shared} {e : End} (hr : Runs M Γ p₀ (k r) fs s e s') : ¬ Slp G i := fun ⟨y, q, e⟩ => by
  have h1 := g.old i y q e
  rw [hg] at h1
  cases y <;> first | (cases e; done) | skip
  injection h1 with h1
  injection h1 with h1
  subst h1
  exact no_unsup rfl hr
def NG (e : End) : Prop := ∀ v g l k c p fs, e = .susp v g l k c p fs → splitAtGen fs = none
theorem NG.ret (r : Result) : NG (.ret r) := fun _ _ _ _ _ _ _ h => by cases h
theorem NG.state {e : End} (h : NG e) : ∀ k l c p fs cl, e.genState = .suspended k l c p fs cl → splitAtGen fs = none := fun k l c p fs cl q => by
  cases e with
  | ret r => cases q
  | susp v g l k c p fs => cases q; exact h _ _ _ _ _ _ _ rfl
theorem runs_rst {G : Array GenState} {Γ : Ctx} {p : Pos} {t : Sem PySem.Fin} {fs : List Frame} {s s' : Shared} {e : End} (h : Runs M Γ p t fs s e s') :
    splitAtGen fs = none → G.size ≤ s.gens.size → Good G s.gens → Runs M Γ p t fs (rstS G s) e (rstS G s') ∧ Good G s'.gens ∧ G.size ≤ s'.gens.size ∧ NG e := by
  induction h with
  | done => exact fun _ hz g => ⟨.done, g, hz, .ret _⟩
  | raise => exact fun _ hz g => ⟨.raise, g, hz, .ret _⟩
  | again hq _ ih => intro n hz g; obtain ⟨r, q⟩ := ih n hz g; exact ⟨.again hq r, q⟩
  | rule _ ih => intro n hz g; obtain ⟨r, q⟩ := ih n hz g; exact ⟨.rule r, q⟩
  | «at» _ ih => intro n hz g; obtain ⟨r, q⟩ := ih n hz g; exact ⟨.at r, q⟩
  | load ho _ ih => intro n hz g; obtain ⟨r, q⟩ := ih n hz g; exact ⟨.load ho r, q⟩
  | update ha _ ih => intro n hz g; obtain ⟨r, q⟩ := ih n hz g; exact ⟨.update ha r, q⟩
  | loadIfAlive _ ih => intro n hz g; obtain ⟨r, q⟩ := ih n hz g; exact ⟨.loadIfAlive r, q⟩
  | point _ ih => intro n hz g; obtain ⟨r, q⟩ := ih n hz g; exact ⟨.point r, q⟩
  | alloc _ ih => intro n hz g; obtain ⟨r, q⟩ := ih n hz g; exact ⟨.alloc r, q⟩
  | fresh _ ih => intro n hz g; obtain ⟨r, q⟩ := ih n hz g; exact ⟨.fresh r, q⟩
  | ask _ ih => intro n hz g; obtain ⟨r, q⟩ := ih n hz g; exact ⟨.ask r, q⟩
  | choose hn _ ih => intro n hz g; obtain ⟨r, q⟩ := ih n hz g; exact ⟨.choose hn r, q⟩
  | os _ ih => intro n hz g; obtain ⟨r, q⟩ := ih n hz g; exact ⟨.os r, q⟩
  | handled _ ih => intro n hz g; obtain ⟨r, q⟩ := ih n hz g; exact ⟨.handled r, q⟩
  | genState hg _ ih =>
    intro n hz g
    obtain ⟨r, q⟩ := ih n hz g
    obtain ⟨y, hy, hs⟩ := g.seen hg
    rw [← hs] at r
    exact ⟨.genState hy r, q⟩
  | stack _ ih => intro n hz g; obtain ⟨r, q⟩ := ih n hz g; exact ⟨.stack r, q⟩
  | thread _ ih => intro n hz g; obtain ⟨r, q⟩ := ih n hz g; exact ⟨.thread r, q⟩
  | @newGen _ _ _ s _ _ c _ ih =>
    intro n hz g
    obtain ⟨r, q⟩ := ih n (by simp; omega) (g.push hz)
    refine ⟨.newGen ?_, q⟩
    rw [show (rstS G s).gens.size = s.gens.size from rst_size _ _]
    have e : rstS G { s with gens := s.gens.push (.fresh c) } = { rstS G s with gens := (rstS G s).gens.push (.fresh c) } := by
      unfold rstS
      simp only [rst_push hz]
    rw [← e]
    exact r
  | call _ _ ih1 ih2 =>
    intro n hz g
    obtain ⟨r1, g1, z1, _⟩ := ih1 rfl hz g
    obtain ⟨r2, q⟩ := ih2 n z1 g1
    exact ⟨.call r1 r2, q⟩
  | callSusp _ ih1 =>
    intro n hz g
    obtain ⟨r1, g1, z1, n1⟩ := ih1 rfl hz g
    refine ⟨.callSusp r1, g1, z1, fun v g l k c p fs h => ?_⟩
    cases h
    rw [splitAtGen_append_none _ (n1 _ _ _ _ _ _ _ rfl)]
    rfl
  | yield => exact fun n hz g => ⟨.yield, g, hz, fun v g l k c p fs h => by cases h; rfl⟩
  | resumeFresh hg _ hq _ ih1 ih2 =>
    intro n hz g
    have ns := g.not hg rfl
    obtain ⟨r1, g1, z1, n1⟩ := ih1 rfl (by simp [Shared.setGen]; omega) (g.set ns (by intros; contradiction))
    obtain ⟨r2, q⟩ := ih2 n (by simp [Shared.setGen]; omega) (g1.set ns n1.state)
    rw [rstS_set ns] at r1 r2
    exact ⟨.resumeFresh ((rst_get _ _ _ ns).trans hg) r1 hq r2, q⟩
  | resumeSuspended hg hr hq _ ih1 ih2 =>
    intro n hz g
    have ns := g.sus hg hr
    rcases g.new _ _ _ _ _ _ _ hg with sl | nf
    · exact absurd sl ns
    · skip
      obtain ⟨r1, g1, z1, n1⟩ := ih1 nf (by simp [Shared.setGen]; omega) (g.set ns (by intros; contradiction))
      obtain ⟨r2, q⟩ := ih2 n (by simp [Shared.setGen]; omega) (g1.set ns n1.state)
      rw [rstS_set ns] at r1 r2
      exact ⟨.resumeSuspended ((rst_get _ _ _ ns).trans hg) r1 hq r2, q⟩
  | resumeJustStarted hg hv _ ih =>
    intro n hz g
    have ns := g.not hg rfl
    obtain ⟨r, q⟩ := ih n hz g
    exact ⟨.resumeJustStarted ((rst_get _ _ _ ns).trans hg) hv r, q⟩
  | resumeThrowFresh hg _ ih =>
    intro n hz g
    have ns := g.not hg rfl
    obtain ⟨r, q⟩ := ih n (by simp [Shared.setGen]; omega) (g.set ns (by intros; contradiction))
    rw [rstS_set ns] at r
    exact ⟨.resumeThrowFresh ((rst_get _ _ _ ns).trans hg) r, q⟩
  | resumeRunning hg _ ih =>
    intro n hz g
    have ns := g.not hg rfl
    obtain ⟨r, q⟩ := ih n hz g
    exact ⟨.resumeRunning ((rst_get _ _ _ ns).trans hg) r, q⟩
  | resumeFinished hg _ ih =>
    intro n hz g
    have ns := g.not hg rfl
    obtain ⟨r, q⟩ := ih n hz g
    exact ⟨.resumeFinished ((rst_get _ _ _ ns).trans hg) r, q⟩
  | segRet _ _ ih1 ih2 =>
    intro n hz g
    obtain ⟨r1, g1, z1, _⟩ := ih1 rfl hz g
    rw [splitAtGen_ret] at n
    obtain ⟨r2, q⟩ := ih2 (Option.map_eq_none_iff.mp n) z1 g1
    exact ⟨.segRet r1 r2, q⟩
  | segGen _ _ _ _ =>
    intro n
    rw [splitAtGen_gen] at n
    cases n
  | segSuspOut hn _ ih =>
    intro n hz g
    obtain ⟨r1, g1, z1, n1⟩ := ih rfl hz g
    refine ⟨.segSuspOut hn r1, g1, z1, fun v g l k c p fs h => ?_⟩
    cases h
    rw [splitAtGen_append_none _ (n1 _ _ _ _ _ _ _ rfl), hn]
    rfl
  | segSuspGen hs _ _ _ _ _ =>
    intro n
    rw [hs] at n
    cases n

theorem wp_rst {α : Type} {G : Array GenState} (t : Sem α) : ∀ {Γ : Ctx} {Q : α → Pos → Shared → Prop} {E : Value → Pos → Shared → Prop} {p : Pos} {s : Shared}, G.size ≤ s.gens.size → Good G s.gens → wp M Γ t Q E p s →
    wp M Γ t (fun a p' s' => ∃ s1, s' = rstS G s1 ∧ G.size ≤ s1.gens.size ∧ Good G s1.gens ∧ Q a p' s1) (fun x p' s' => ∃ s1, s' = rstS G s1 ∧ G.size ≤ s1.gens.size ∧ Good G s1.gens ∧ E x p' s1) p (rstS G s) := by
  induction t with
  | pure a => exact fun hz g h => ⟨_, rfl, hz, g, h⟩
  | raise e => exact fun hz g h => ⟨_, rfl, hz, g, h⟩
  | unsupported _ => exact fun _ _ h => h
  | finish _ => exact fun _ _ h => h
  | rule _ k ih => exact fun hz g h => ih () hz g h
  | «at» p' k ih => exact fun hz g h => ih () hz g h
  | load a _ k ih => intro Γ Q E p s hz g ⟨o, ho, h⟩; exact ⟨o, ho, ih o hz g h⟩
  | update a _ f k ih => intro Γ Q E p s hz g h; exact ⟨h.1, ih () (s := { s with heap := s.heap.update a f }) hz g h.2⟩
  | loadIfAlive a k ih => exact fun hz g h => ih _ hz g h
  | point _ k ih => exact fun hz g h => ih () hz g h
  | register _ _ => exact fun _ _ h => h
  | alloc o k ih => intro Γ Q E p s hz g h; exact ih _ (s := { s with heap := s.heap.push o }) hz g h
  | fresh k ih => intro Γ Q E p s hz g h; exact ih _ (s := { s with toks := s.toks + 1 }) hz g h
  | ask k ih => exact fun hz g h => ih _ hz g h
  | choose src m k ih => intro Γ Q E p s hz g h; exact ⟨h.1, ih _ (s := { s with drawn := s.drawn.bump src }) hz g h.2⟩
  | os q _ k ih => intro Γ Q E p s hz g h; exact ih _ (s := { s with os := (Os.step s.os q).1 }) hz g h
  | call c hd _ _ k ih =>
    intro Γ Q E p s hz g ⟨r, s', hr, h⟩
    obtain ⟨r1, g1, z1, _⟩ := runs_rst (G := G) hr rfl hz g
    exact ⟨r, _, r1, ih r z1 g1 h⟩
  | handled own k ih => exact fun hz g h => ih _ hz g h
  | genState gi k ih =>
    intro Γ Q E p s hz g ⟨st, hs, h⟩
    obtain ⟨y, hy, e⟩ := g.seen hs
    refine ⟨y, hy, ?_⟩
    rw [e]
    exact ih _ hz g h
  | newGen c k ih =>
    intro Γ Q E p s hz g h
    have q := ih _ (s := { s with gens := s.gens.push (.fresh c) }) (by simp; omega) (g.push hz) h
    have e : rstS G { s with gens := s.gens.push (.fresh c) } = { rstS G s with gens := (rstS G s).gens.push (.fresh c) } := by
      unfold rstS
      simp only [rst_push hz]
    rw [e] at q
    have e2 : (rstS G s).gens.size = s.gens.size := rst_size _ _
    show wp M Γ (k (rstS G s).gens.size) _ _ p { rstS G s with gens := (rstS G s).gens.push (.fresh c) }
    rw [e2]
    exact q
  | resume gi r _ k ih =>
    intro Γ Q E p s hz g ⟨res, s', hw, h⟩
    have fin : Wakes M Γ p gi r (rstS G s) res (rstS G s') ∧ G.size ≤ s'.gens.size ∧ Good G s'.gens := by
      unfold Wakes at hw ⊢
      cases hg : s.gens[gi]? with
      | none => rw [hg] at hw; exact hw.elim
      | some st =>
        rw [hg] at hw
        cases st with
        | fresh c =>
          have ns := g.not hg rfl
          rw [show (rstS G s).gens[gi]? = some (.fresh c) from (rst_get _ _ _ ns).trans hg]
          have inner : ∀ e₁ s₁, Runs M (Γ.wake c p) p (M.den c) [] (s.setGen gi .running) e₁ s₁ → Runs M (Γ.wake c p) p (M.den c) [] ((rstS G s).setGen gi .running) e₁ (rstS G s₁) ∧ G.size ≤ s₁.gens.size ∧ Good G s₁.gens ∧ NG e₁ := fun e₁ s₁ hr => by
            obtain ⟨r1, g1, z1, n1⟩ := runs_rst (G := G) hr rfl (by simp [Shared.setGen]; omega) (g.set ns (by intros; contradiction))
            rw [rstS_set ns] at r1
            exact ⟨r1, z1, g1, n1⟩
          cases r with
          | send v =>
            by_cases hv : v = .none
            · subst hv
              obtain ⟨e₁, s₁, hr, hq, hres, rfl⟩ := hw
              obtain ⟨r1, z1, g1, n1⟩ := inner e₁ s₁ hr
              exact ⟨⟨e₁, _, r1, hq, hres, rstS_set ns⟩, by simp [Shared.setGen]; omega, g1.set ns n1.state⟩
            · have hw' : res = .justStarted ∧ s' = s := by
                cases v <;> first | exact absurd rfl hv | exact hw
              obtain ⟨rfl, rfl⟩ := hw'
              refine ⟨?_, hz, g⟩
              cases v <;> first | exact absurd rfl hv | exact ⟨rfl, rfl⟩
          | throw x =>
            obtain ⟨hres, rfl⟩ := hw
            exact ⟨⟨hres, rstS_set ns⟩, by simp [Shared.setGen]; omega, g.set ns (by intros; contradiction)⟩
        | suspended k₀ l₀ c₀ p₀ fs₀ cl =>
          obtain ⟨e₁, s₁, hr, hq, hres, rfl⟩ := hw
          have ns := g.sus hg hr
          rcases g.new _ _ _ _ _ _ _ hg with sl | nf
          · exact absurd sl ns
          rw [show (rstS G s).gens[gi]? = some (.suspended k₀ l₀ c₀ p₀ fs₀ cl) from (rst_get _ _ _ ns).trans hg]
          obtain ⟨r1, g1, z1, n1⟩ := runs_rst (G := G) hr nf (by simp [Shared.setGen]; omega) (g.set ns (by intros; contradiction))
          rw [rstS_set ns] at r1
          exact ⟨⟨e₁, _, r1, hq, hres, rstS_set ns⟩, by simp [Shared.setGen]; omega, g1.set ns n1.state⟩
        | running =>
          have ns := g.not hg rfl
          obtain ⟨hres, rfl⟩ := hw
          rw [show (rstS G s').gens[gi]? = some .running from (rst_get _ _ _ ns).trans hg]
          exact ⟨⟨hres, rfl⟩, hz, g⟩
        | finished =>
          have ns := g.not hg rfl
          obtain ⟨hres, rfl⟩ := hw
          rw [show (rstS G s').gens[gi]? = some .finished from (rst_get _ _ _ ns).trans hg]
          exact ⟨⟨hres, rfl⟩, hz, g⟩
    obtain ⟨w1, z1, g1⟩ := fin
    exact ⟨res, _, w1, ih res z1 g1 h⟩
  | yield _ _ _ _ => exact fun _ _ h => h
  | stack k ih => exact fun hz g h => ih _ hz g h
  | fork _ _ => exact fun _ _ h => h
  | thread k ih => exact fun hz g h => ih _ hz g h
  | await _ _ _ _ _ => exact fun _ _ h => h

/-! ### at the level of wpAny -/
abbrev stuck (s : Shared) : Shared := { s with gens := s.gens.map stick }
theorem good_stuck (G : Array GenState) : Good G (G.map stick) := by
  refine ⟨fun i y q _ => by rw [Array.getElem?_map, q]; rfl, fun i k l c p fs cl h => .inl ?_⟩
  rw [Array.getElem?_map] at h
  cases q : G[i]? with
  | none => rw [q] at h; cases h
  | some y =>
    rw [q] at h
    have h' : stick y = .suspended k l c p fs cl := Option.some.inj h
    exact ⟨y, q, by rw [← isSus_stick, h']; rfl⟩
theorem rst_stuck (G : Array GenState) : rst G (G.map stick) = G := by
  apply Array.ext_getElem?
  intro i
  unfold rst
  rw [Array.getElem?_mapIdx, Array.getElem?_map]
  cases q : G[i]? with
  | none => rfl
  | some y => cases y <;> rfl
theorem bare_rst {G a : Array GenState} (hG : ∀ y ∈ G, y.bare = true) (ha : ∀ y ∈ a, y.bare = true) : ∀ y ∈ rst G a, y.bare = true := by
  intro y hy
  obtain ⟨i, hi, e⟩ := Array.mem_iff_getElem.mp hy
  have hi' : i < a.size := by rw [rst_size] at hi; exact hi
  have q : (rst G a)[i]? = some y := by rw [Array.getElem?_eq_getElem hi, e]
  unfold rst at q
  rw [Array.getElem?_mapIdx, Array.getElem?_eq_getElem hi'] at q
  have q' := Option.some.inj q
  cases z : G[i]? with
  | none => rw [z] at q'; rw [← q']; exact ha _ (Array.getElem_mem hi')
  | some x =>
    rw [z] at q'
    simp only at q'
    split at q'
    · rw [← q']; exact hG _ (Array.mem_of_getElem? z)
    · rw [← q']; exact ha _ (Array.getElem_mem hi')
theorem bare_stuck {G : Array GenState} (hG : ∀ y ∈ G, y.bare = true) : ∀ y ∈ G.map stick, y.bare = true := by
  intro y hy
  obtain ⟨x, hx, e⟩ := Array.mem_map.mp hy
  rw [← e, stick_bare]
  exact hG x hx
/-- THE FRAME RULE -/
theorem wpAny_asleep {α : Type} {A : Around} {t : Sem α} {Q : α → Shared → Prop} {E : Value → Shared → Prop} {s : Shared} (h : wpAny M A t Q E (stuck s)) :
    wpAny M A t (fun a s' => ∃ s1, s' = rstS s.gens s1 ∧ s.gens.size ≤ s1.gens.size ∧ Good s.gens s1.gens ∧ Q a s1) (fun x s' => ∃ s1, s' = rstS s.gens s1 ∧ s.gens.size ≤ s1.gens.size ∧ Good s.gens s1.gens ∧ E x s1) s := by
  intro Γ p hΓ
  have q := wp_rst (M := M) (G := s.gens) t (by simp) (good_stuck s.gens) (h Γ p hΓ)
  have e : rstS s.gens (stuck s) = s := by
    show ({ s with gens := rst s.gens (s.gens.map stick) } : Shared) = s
    rw [rst_stuck]
  rw [e] at q
  exact q
end KF
end PartKFrame

section PartKEnum
/-! enumerate(t) of a tuple -/
namespace KEn
open PySem PySem.Spec PyProof.Rows
set_option maxHeartbeats 1000000 in
theorem meets_enumerate_newB1 {v : Value} {o : Obj} {H : Heap → Prop} (B : Begins v o H) :
    Meets (Builtin.«enumerate.__new__» ⟨[.type "enumerate", v], []⟩) (fun _ R s => H s.heap ∧
      R (.ok (.ret (.ref (s.heap.push o).objs.size))) { s with heap := (s.heap.push o).push { cls := .type "enumerate", data := .fields #[.none, .bool false, .ref s.heap.objs.size, rawInt 0, .none, .none] } }) :=
  .of_wp fun prog w A R s h => by
    obtain ⟨hp, g, d, tk, os⟩ := s; obtain ⟨h1, h⟩ := h
    have hsub := sub_enumerate
    have q1 : ∀ {A' : Around} {E : Value → Shared → Prop} {Q : Value → Shared → Prop}, Q (.ref hp.objs.size) ⟨hp.push o, g, d, tk, os⟩ → wpAny (model prog w) A' (pyIter v) Q E ⟨hp, g, d, tk, os⟩ :=
      fun q => B.iter prog w _ _ ⟨hp, g, d, tk, os⟩ _ h1 q
    wp_walk using q1
    refine wpAny_stack_any fun st => wpAny_pure ?_
    split
    · rename_i c _ _ _ _ _
      cases (c == Value.type "enumerate")
      · wp_walk using q1
        exact ⟨_, rfl, h⟩
      · wp_walk using q1
        exact ⟨_, rfl, h⟩
    · wp_walk using q1
      exact ⟨_, rfl, h⟩
section
variable {prog : Program} {w : World} {A : Around} {E : Value → Shared → Prop} {s : Shared}
theorem call_enumerate_tup {t : Addr} {items : Array Value} {Q : Value → Shared → Prop} (h1 : s.heap.IsTuple t items)
    (h : ∀ h', IsEnum h' (s.heap.objs.size + 1) s.heap.objs.size 0 .none → h'.IsTupleIter s.heap.objs.size t 0 → h'.objs.size = s.heap.objs.size + 2 →
      (∀ b o, s.heap.get? b = some o → h'.get? b = some o) → Q (.ref (s.heap.objs.size + 1)) { s with heap := h' }) :
    wpAny (model prog w) A (call (.type "enumerate") [.ref t]) Q E s := by
  refine callType_new F.called_enumerate (by decide) (F.typeCall_enumerate_1 _) (F.newCall_enumerate_1 _) (fun obj => F.args_object_init_2 obj _) F.entry_enumerate_new
    (meets_enumerate_newB1 (begins_tuple t items)) ⟨h1, ?_⟩
  have hz : (s.heap.push { cls := .type "tuple_iterator", data := .fields #[.ref t, .int 0 0] }).objs.size = s.heap.objs.size + 1 := Heap.size_push ..
  show _ ∧ _
  rw [hz]
  have he : IsEnum ((s.heap.push { cls := .type "tuple_iterator", data := .fields #[.ref t, .int 0 0] }).push { cls := .type "enumerate", data := .fields #[.none, .bool false, .ref s.heap.objs.size, rawInt 0, .none, .none] }) (s.heap.objs.size + 1) s.heap.objs.size 0 .none := by
    have := Heap.get?_push_size (s.heap.push { cls := .type "tuple_iterator", data := .fields #[.ref t, .int 0 0] }) (o := { cls := .type "enumerate", data := .fields #[.none, .bool false, .ref s.heap.objs.size, rawInt 0, .none, .none] }) rfl
    rw [hz] at this; exact this
  refine ⟨⟨_, he, rfl⟩, h _ he ⟨_, Heap.get?_push_of_some _ (Heap.get?_push_size _ rfl), rfl, rfl⟩ (by rw [Heap.size_push, hz]) fun b o x => Heap.get?_push_of_some _ (Heap.get?_push_of_some _ x)⟩
end
end KEn
end PartKEnum

section PartKSeg
/-! for and if in a generator's own code -/
namespace KG
open PySem PySem.Spec PyProof.Rows L2 GenW
section
variable {prog : Program} {w : World} {A : Around} {R : GenEnd} {Y : Protocol} {n : Nat} {s₀ : Shared} {c : Code} {fs : List Frame} {s : Shared} {env : Env}
  {K : Flow → Sem PySem.Fin} {H : Value → Sem PySem.Fin} {gd : Bool → Bool} {lv : List Value → List Value}
theorem seg_For {tg iter : Expr} {body orelse : List Stmt} {pos : Pos}
    (h : wpAny (model prog w) (A.over c fs) (eval iter env) (fun x s₁ => wpAny (model prog w) (A.over c fs) (pyIter x) (fun it s₂ => ∀ (p : Pos) (kf : Result → Sem PySem.Fin), (∀ f, kf (.ok f) = K f) → Seg (model prog w) A R Y n s₀ (.forLoop tg it body orelse env) ((model prog w).den (.forLoop tg it body orelse env))
      (.ret kf none (gd false) (lv []) c p [] :: fs) s₂) (fun _ _ => False) s₁) (fun _ _ => False) s)
    (hs : ∀ x, foldedSetIterable iter env x = pure x := by intro _; rfl) :
    Seg (model prog w) A R Y n s₀ c ((exec (.For tg iter body orelse pos) env).wrap K H gd lv) fs s := by
  rw [exec_For]
  refine seg_bind_wrap (wpAny_standAt ?_)
  refine seg_bind_wrap (wpAny_mono h (fun x s₁ h₁ => ?_) fun _ _ z => z.elim)
  refine seg_bind_wrap (wpAny_of_eq (hs x) ?_)
  refine seg_bind_wrap (wpAny_standAt ?_)
  refine seg_bind_wrap (wpAny_holding (wpAny_mono h₁ (fun it s₂ h₂ => ?_) fun _ _ z => z.elim))
  exact seg_call fun p => h₂ p _ fun f => rfl
theorem seg_If {test : Expr} {body orelse : List Stmt} {pos : Pos}
    (h : wpAny (model prog w) (A.over c fs) (isTrue test env (eval test env)) (fun b s' => if b = true then Seg (model prog w) A R Y n s₀ c ((execs body env).wrap K H gd lv) fs s' else Seg (model prog w) A R Y n s₀ c ((execs orelse env).wrap K H gd lv) fs s') (fun _ _ => False) s) :
    Seg (model prog w) A R Y n s₀ c ((exec (.If test body orelse pos) env).wrap K H gd lv) fs s := by
  rw [exec_If]
  refine seg_bind_wrap (wpAny_standAt ?_)
  refine seg_bind_wrap (wpAny_mono h (fun b s₁ h₁ => ?_) fun _ _ z => z.elim)
  cases b with
  | true => exact h₁
  | false => exact h₁
theorem seg_forLoop {tg : Expr} {it : Value} {body : List Stmt} {kf : Result → Sem PySem.Fin} {hh : Option Value} {g : Bool} {l kp : List Value} {c₁ : Code} {p₁ : Pos}
    (h : wpAny (model prog w) (A.over (.forLoop tg it body [] env) (.ret kf hh g l c₁ p₁ kp :: fs)) (pyNext it) (fun r s₁ => match r with
      | none => Seg (model prog w) A R Y n s₀ c₁ (kf (.ok .next)) fs s₁
      | some v => wpAny (model prog w) (A.over (.forLoop tg it body [] env) (.ret kf hh g l c₁ p₁ kp :: fs)) (letOwnedTupleGo tg it v) (fun _ s₂ => wpAny (model prog w) (A.over (.forLoop tg it body [] env) (.ret kf hh g l c₁ p₁ kp :: fs)) (assign tg env v) (fun _ s₃ =>
          ∀ (Kl : Flow → Sem PySem.Fin) (Hl : Value → Sem PySem.Fin), Kl .next = .pure (.again (.forLoop tg it body [] env)) →
          Seg (model prog w) A R Y n s₀ (.forLoop tg it body [] env) ((execs body env).wrap Kl Hl id id) (.ret kf hh g l c₁ p₁ kp :: fs) s₃) (fun _ _ => False) s₂) (fun _ _ => False) s₁) (fun _ _ => False) s) :
    Seg (model prog w) A R Y n s₀ (.forLoop tg it body [] env) ((model prog w).den (.forLoop tg it body [] env)) (.ret kf hh g l c₁ p₁ kp :: fs) s := by
  show Seg _ A R Y n s₀ _ ((forTurn tg it body [] env).onRaise _) _ s
  unfold forTurn
  rw [Sem.onRaise_eq_wrap]
  refine seg_bind_wrap (wpAny_standAt ?_)
  refine seg_bind_wrap (wpAny_onRaise (wpAny_mono h (fun r s₁ h₁ => ?_) fun _ _ z => z.elim))
  cases r with
  | none =>
    refine seg_again rfl ?_
    exact seg_leaf (.ok .next) h₁
  | some v =>
    show Seg _ A R Y n s₀ _ (Sem.wrap _ _ _ _ (letOwnedTupleGo tg it v >>= fun _ => _)) _ s₁
    refine seg_bind_wrap (wpAny_mono h₁ (fun _ s₂ h₂ => ?_) fun _ _ z => z.elim)
    refine seg_bind_wrap (wpAny_mono h₂ (fun _ s₃ h₃ => ?_) fun _ _ z => z.elim)
    rw [Sem.bind_eq_wrap', Sem.wrap_wrap]
    exact h₃ _ _ rfl
end
end KG
end PartKSeg

section PartKGen
/-! the run of next_arities -/
namespace KG
open PySem PySem.Spec PyProof.Rows L2 GenW

/-- what is handed out from place a on -/
def outs (h : Int) : Nat → List Int → List Int
  | _, [] => []
  | a, n :: r => if 0 < n ∧ (a : Int) ≤ h then (a : Int) :: outs h (a + 1) r else outs h (a + 1) r

def naTest (p7 p8 p9 p10 p11 p12 p13 : Pos) (k2 : Nat) : Expr :=
  .BoolOp .And [.Compare (.Name "many" p7) [.Gt] [.Constant (.int 0) k2 p8] p9, .Compare (.Name "arity" p10) [.LtE] [.Name "height" p11] p12] p13
def naIn (p7 p8 p9 p10 p11 p12 p13 p14 p15 p16 p17 : Pos) (k2 : Nat) : List Stmt :=
  [.If (naTest p7 p8 p9 p10 p11 p12 p13 k2) [.Expr (.Yield (some (.Name "arity" p14)) p15) p16] [] p17]
def naTg (p1 p2 p3 : Pos) (kk : Nat) : Expr := .Tuple [.Name "arity" p1, .Name "many" p2] kk p3
def naBody (p1 p2 p3 p4 p5 p6 p7 p8 p9 p10 p11 p12 p13 p14 p15 p16 p17 p18 : Pos) (kk k2 : Nat) : List Stmt :=
  [.For (naTg p1 p2 p3 kk) (.Call (.Name "enumerate" p4) [.Name "counts" p5] [] p6) (naIn p7 p8 p9 p10 p11 p12 p13 p14 p15 p16 p17 k2) [] p18]

/-- a tuple of these at c -/
def TupIs (h : Heap) (c : Addr) (xs : List V) : Prop := ∃ its : List Value, Vals xs its ∧ IsTup h c its.toArray
/-- its frame's names -/
structure NaEnv (env : Env) : Prop where
  kind : env.scope.kind = .function
  co : env.scope.isCoroutine = false
  ar : env.kindOf "arity" = some .local
  ma : env.kindOf "many" = some .local
  he : env.kindOf "height" = some .local
  cs : env.kindOf "counts" = some .local
  en : env.kindOf "enumerate" = some .globalImplicit
  gl : env.globals = mainGlobals
  bl : env.builtins = builtinsNs
structure NL (env : Env) (E I c : Addr) (hgt : Int) (i : Nat) (h : Heap) : Prop where
  ns : ∃ m t, h.Ns env.locals m ∧ m "height" = some (.int hgt t)
  en : ∃ old, IsEnum h E I (i : Int) old
  it : h.IsTupleIter I c i
structure NApart (L E I c : Addr) : Prop where
  EI : E ≠ I
  EL : E ≠ L
  IL : I ≠ L
  cL : c ≠ L
  cE : c ≠ E
  cI : c ≠ I
def YNA (out : List Int) (L E I c : Addr) (xs : List V) : Protocol := fun n s₀ v s kap =>
  (∃ x t, out[out.length - 1 - n]? = some x ∧ v = .int x t) ∧ GenSince L [E, I] s₀ s ∧ (∀ b ∈ [L, E, I], ∃ o, s.heap.get? b = some o ∧ ∀ v, o.data ≠ .cell v) ∧
  ∀ s'' : Shared, (∀ b ∈ [L, E, I], ∀ o, s.heap.get? b = some o → s''.heap.get? b = some o) → TupIs s''.heap c xs → ∀ v, v = Value.none ∨ v = .bool true → kap (.send v) s''
def RNA (L E I : Addr) : GenEnd := fun n s₀ r s₁ => ((r = .ok (.ret .none) ∨ r = .ok .next) ∧ (n = 0 ∧ GenSince L [E, I] s₀ s₁)) ∨ ∃ e, r = .error e ∧ False

theorem NL.keep {env : Env} {E I c : Addr} {hgt : Int} {i : Nat} {h h' : Heap} (x : NL env E I c hgt i h) (k : ∀ b ∈ [env.locals, E, I], ∀ o, h.get? b = some o → h'.get? b = some o) : NL env E I c hgt i h' := by
  obtain ⟨⟨m, t, hn, hm⟩, ⟨old, he⟩, hi⟩ := x
  exact ⟨⟨m, t, hn.at' fun o e => k _ (by simp) o e, hm⟩, ⟨old, k E (by simp) _ he⟩, hi.at fun o e => k I (by simp) o e⟩
theorem NL.objs {env : Env} {E I c : Addr} {hgt : Int} {i : Nat} {h : Heap} (x : NL env E I c hgt i h) : ∀ b ∈ [env.locals, E, I], ∃ o, h.get? b = some o ∧ ∀ v, o.data ≠ .cell v := by
  obtain ⟨⟨m, t, ⟨o, es, ep, ho, hd, _⟩, hm⟩, ⟨old, he⟩, ⟨o2, h2, _, hd2⟩⟩ := x
  intro b hb
  have e : b = env.locals ∨ b = E ∨ b = I := by simpa using hb
  rcases e with z | z | z
  · rw [z]; exact ⟨o, ho, fun v q => by rw [hd] at q; cases q⟩
  · rw [z]; exact ⟨_, he, fun v q => nomatch q⟩
  · rw [z]; exact ⟨o2, h2, fun v q => by rw [hd2] at q; cases q⟩
theorem TupIs.keep {h h' : Heap} {c : Addr} {xs : List V} (x : TupIs h c xs) (k : ∀ o, h.get? c = some o → h'.get? c = some o) : TupIs h' c xs := by
  obtain ⟨its, r, o, ho, q⟩ := x
  exact ⟨its, r, o, k o ho, q⟩

variable {prog : Program} {w : World} {A : Around}
theorem seg_naLoop {env : Env} {p1 p2 p3 p7 p8 p9 p10 p11 p12 p13 p14 p15 p16 p17 : Pos} {kk k2 : Nat} {E I c : Addr} {hgt : Int} {ns : List Int} {out : List Int} {kf : Result → Sem PySem.Fin} {c₁ : Code} {p₁ : Pos}
    (N : NaEnv env) (ap : NApart env.locals E I c) (hkf : kf (.ok .next) = .pure (.done (.ret .none)))
    (hh : (A.over (.forLoop (naTg p1 p2 p3 kk) (.ref E) (naIn p7 p8 p9 p10 p11 p12 p13 p14 p15 p16 p17 k2) [] env) [.ret kf none false [] c₁ p₁ []]).handled = none) :
    ∀ (k i : Nat) (s₀ s : Shared), ns.length - i = k → i ≤ ns.length → NL env E I c hgt i s.heap → TupIs s.heap c (ns.map V.int) → GenSince env.locals [E, I] s₀ s → (∃ pre, out = pre ++ outs hgt i (ns.drop i)) →
      Seg (model prog w) A (RNA env.locals E I) (YNA out env.locals E I c (ns.map V.int)) (outs hgt i (ns.drop i)).length s₀ (.forLoop (naTg p1 p2 p3 kk) (.ref E) (naIn p7 p8 p9 p10 p11 p12 p13 p14 p15 p16 p17 k2) [] env)
        ((model prog w).den (.forLoop (naTg p1 p2 p3 kk) (.ref E) (naIn p7 p8 p9 p10 p11 p12 p13 p14 p15 p16 p17 k2) [] env)) [.ret kf none false [] c₁ p₁ []] s := by
  have hp : (env.scope.kind == .class || (env.scope.kind == .module && env.locals != env.globals)) = false := by rw [N.kind]; rfl
  intro k
  induction k with
  | zero =>
    intro i s₀ s hk hi hN hT hs hout
    have hin : i = ns.length := by omega
    subst hin
    obtain ⟨its, rv, hTup⟩ := hT
    have hl : its.length = ns.length := by rw [← rv.length, List.length_map]
    obtain ⟨_, ⟨old, he⟩, hit⟩ := hN
    have D := Draws.tuple (prog := prog) (w := w) (A := (A.over (.forLoop (naTg p1 p2 p3 kk) (.ref E) (naIn p7 p8 p9 p10 p11 p12 p13 p14 p15 p16 p17 k2) [] env) [.ret kf none false [] c₁ p₁ []]).in1) hh I c ap.cI its.toArray
    refine seg_forLoop ?_
    refine wpAny_pyNext_enum_endD D he (by show s.heap.IsTupleIter I c its.toArray.size ∧ _; rw [List.size_toArray, hl]; exact ⟨hit, hTup⟩) fun h' hx => ?_
    show Seg _ _ _ _ _ _ _ (kf (.ok .next)) [] _
    rw [hkf, List.drop_length]
    refine seg_end (.ok (.ret .none)) (.inl ⟨.inl rfl, rfl, ?_⟩)
    exact hs.step (tk := s.toks) fun b o h1 h2 e => hx b o (fun z => h2 (by simp [z])) e
  | succ k ih =>
    intro i s₀ s hk hi hN hT hs hout
    have hlt : i < ns.length := by omega
    obtain ⟨its, rv, hTup⟩ := hT
    have hl : its.length = ns.length := by rw [← rv.length, List.length_map]
    obtain ⟨⟨m, t, hn, hm⟩, ⟨old, he⟩, hit⟩ := hN
    have D := Draws.tuple (prog := prog) (w := w) (A := (A.over (.forLoop (naTg p1 p2 p3 kk) (.ref E) (naIn p7 p8 p9 p10 p11 p12 p13 p14 p15 p16 p17 k2) [] env) [.ret kf none false [] c₁ p₁ []]).in1) hh I c ap.cI its.toArray
    refine seg_forLoop ?_
    refine wpAny_pyNext_enum_itemC D he ⟨hit, hTup⟩ (by simp; omega) ap.EI (by simp [ap.EI, Ne.symm ap.cE]) fun x h₁ tk hx ho hst hnew hsz hk₁ => ?_
    have hel : E < s.heap.objs.size := Heap.lt_size he
    refine wpAny_letOwnedTupleGo_enum (s := { s with heap := h₁, toks := tk + 1 }) ho fun h₂ he₂ hs₂ => ?_
    have hnew₂ : h₂.get? s.heap.objs.size = some { cls := .type "tuple", data := .seq #[.int (i : Int) tk, x] } := (hs₂.2 _ (Nat.ne_of_gt hel)).trans hnew
    refine assign_Tuple_tuple (items := #[.int (i : Int) tk, x]) hh ⟨_, hnew₂, rfl, _, rfl⟩ rfl rfl fun h₃ hx₃ => ?_
    have hLl : env.locals < s.heap.objs.size := hn.lt
    have up₃ : ∀ b o, b ≠ E → b ≠ I → s.heap.get? b = some o → h₃.get? b = some o := fun b o hbE hbI e =>
      hx₃ b o (by show b ≠ h₂.objs.size; rw [hs₂.1, hsz]; exact Nat.ne_of_lt (Nat.lt_succ_of_lt (Heap.lt_size e))) ((hs₂.2 b hbE).trans (hk₁ b o hbE hbI e))
    have hn₃ : h₃.Ns env.locals m := hn.at' fun o e => up₃ _ o (Ne.symm ap.EL) (Ne.symm ap.IL) e
    have hz₂ : h₂.objs.size = s.heap.objs.size + 1 := by rw [hs₂.1, hsz]
    have he₃ : IsEnum h₃ E I ((i : Int) + 1) x := hx₃ E _ (by show E ≠ h₂.objs.size; rw [hz₂]; exact Nat.ne_of_lt (Nat.lt_succ_of_lt hel)) he₂
    have hIl : I < s.heap.objs.size := by obtain ⟨o, q, _⟩ := hit; exact Heap.lt_size q
    have hit₃ : h₃.IsTupleIter I c (i + 1) := hst.1.at fun o e => hx₃ I o (by show I ≠ h₂.objs.size; rw [hz₂]; exact Nat.ne_of_lt (Nat.lt_succ_of_lt hIl)) ((hs₂.2 I (Ne.symm ap.EI)).trans e)
    show wpAny _ _ (assignInOrder [assign (.Name "arity" p1) env, assign (.Name "many" p2) env] [.int (i : Int) tk, x]) _ _ _
    refine assignInOrder_cons (wpAny_assign_Name (wpAny_storeName_local N.ar hn₃ (fun h₄ hn₄ hs₄ => ?_) hp))
    refine assignInOrder_cons (wpAny_assign_Name (wpAny_storeName_local N.ma hn₄ (fun h₅ hn₅ hs₅ => ?_) hp))
    refine assignInOrder_nil ?_
    -- x is the count
    obtain ⟨z, hz⟩ : ∃ z, ns[i]? = some z := ⟨ns[i], List.getElem?_eq_getElem hlt⟩
    obtain ⟨u, hu, ru⟩ := rv.get (i := i) (x := .int z) (by rw [List.getElem?_map, hz]; rfl)
    have exu : x = u := by
      have : its[i]? = some x := by simpa using hx
      rw [hu] at this; exact (Option.some.inj this).symm
    subst exu
    obtain ⟨tz, rfl⟩ := ru
    have up₅ : ∀ b o, b ≠ env.locals → b ≠ E → b ≠ I → s.heap.get? b = some o → h₅.get? b = some o := fun b o hbL hbE hbI e =>
      (hs₅.2 b hbL).trans ((hs₄.2 b hbL).trans (up₃ b o hbE hbI e))
    have hN₅ : NL env E I c hgt (i + 1) h₅ := by
      refine ⟨⟨_, t, hn₅, ?_⟩, ⟨_, ((hs₅.2 E ap.EL).trans (hs₄.2 E ap.EL)).trans (by rw [show ((i + 1 : Nat) : Int) = (i : Int) + 1 by omega]; exact he₃)⟩, hit₃.at fun o e => (hs₅.2 I ap.IL).trans ((hs₄.2 I ap.IL).trans e)⟩
      show (if ("height" : Str) = "many" then _ else if ("height" : Str) = "arity" then _ else m "height") = _
      rw [if_neg (by decide), if_neg (by decide)]
      exact hm
    have hT₅ : TupIs h₅ c (ns.map V.int) := let ⟨o, ho', q⟩ := hTup; ⟨its, rv, o, up₅ c o ap.cL ap.cE ap.cI ho', q⟩
    have hs₅' : ∀ tk', GenSince env.locals [E, I] s₀ { s with heap := h₅, toks := tk' } := fun tk' => hs.step fun b o h1 h2 e => up₅ b o h1 (fun z => h2 (by simp [z])) (fun z => h2 (by simp [z])) e
    have hdrop : ns.drop i = z :: ns.drop (i + 1) := by
      rw [List.drop_eq_getElem_cons hlt]
      congr 1
      have := List.getElem?_eq_getElem hlt
      rw [this] at hz; exact Option.some.inj hz
    have hma : ((fun x => if x = ("many" : Str) then some (Value.int z tz) else if x = ("arity" : Str) then some (Value.int (i : Int) tk) else m x) : Str → Option Value) "many" = some (.int z tz) := by simp
    have har : ((fun x => if x = ("many" : Str) then some (Value.int z tz) else if x = ("arity" : Str) then some (Value.int (i : Int) tk) else m x) : Str → Option Value) "arity" = some (.int (i : Int) tk) := by
      show (if ("arity" : Str) = "many" then _ else if ("arity" : Str) = "arity" then _ else m "arity") = _
      rw [if_neg (by decide), if_pos rfl]
    have hhe : ((fun x => if x = ("many" : Str) then some (Value.int z tz) else if x = ("arity" : Str) then some (Value.int (i : Int) tk) else m x) : Str → Option Value) "height" = some (.int hgt t) := by
      show (if ("height" : Str) = "many" then _ else if ("height" : Str) = "arity" then _ else m "height") = _
      rw [if_neg (by decide), if_neg (by decide)]
      exact hm
    intro Kl Hl hKl
    unfold naIn
    refine seg_execs_cons (seg_If ?_)
    unfold naTest
    refine isTrue_and (wpAny_isTrue_Compare1 (wpAny_Name (wpAny_loadName_local N.kind N.ma hn₅ hma (wpAny_Constant_int (gt_int (wpAny_truthy_bool ?_))))))
    have fin : ∀ (hno : ¬ (0 < z ∧ (i : Int) ≤ hgt)) (s' : Shared), (∃ tk', s' = { s with heap := h₅, toks := tk' }) → Seg (model prog w) A (RNA env.locals E I) (YNA out env.locals E I c (ns.map V.int)) (outs hgt i (ns.drop i)).length s₀
        (.forLoop (naTg p1 p2 p3 kk) (.ref E) (naIn p7 p8 p9 p10 p11 p12 p13 p14 p15 p16 p17 k2) [] env) (Kl .next) [.ret kf none false [] c₁ p₁ []] s' := fun hno s' ⟨tk', es⟩ => by
      subst es
      rw [hKl]
      have e1 : outs hgt i (ns.drop i) = outs hgt (i + 1) (ns.drop (i + 1)) := by rw [hdrop]; show (if _ then _ else _) = _; rw [if_neg hno]
      rw [e1]
      exact seg_again rfl (ih (i + 1) s₀ _ (by omega) hlt hN₅ hT₅ (hs₅' _) (by rw [← e1]; exact hout))
    by_cases hz0 : (0 : Int) < z
    · rw [decide_eq_true hz0]
      simp only [if_true]
      refine isTrue_and (wpAny_isTrue_Compare1 (wpAny_Name (wpAny_loadName_local N.kind N.ar hn₅ har (wpAny_Name (wpAny_loadName_local N.kind N.he hn₅ hhe (le_int (wpAny_truthy_bool ?_)))))))
      by_cases hih : (i : Int) ≤ hgt
      · rw [decide_eq_true hih]
        simp only [if_true]
        refine isTrue_and_nil ?_
        simp only [if_true]
        have e1 : outs hgt i (ns.drop i) = (i : Int) :: outs hgt (i + 1) (ns.drop (i + 1)) := by rw [hdrop]; show (if _ then _ else _) = _; rw [if_pos ⟨hz0, hih⟩]
        obtain ⟨pre, hpre⟩ := hout
        rw [e1, List.length_cons]
        refine seg_execs_cons (seg_Expr_Yield rfl rfl rfl ?_ N.co (by show interactive env = false; simp [interactive, N.kind]))
        refine wpAny_Name (wpAny_loadName_local N.kind N.ar hn₅ har ?_)
        intro kap hkap
        refine ⟨⟨(i : Int), tk, ?_, rfl⟩, hs₅' _, hN₅.objs, fun s'' hal hT'' vv hvv => ?_⟩
        · rw [hpre, e1, List.length_append, List.length_cons]
          rw [List.getElem?_append_right (by omega)]
          rw [show pre.length + ((outs hgt (i + 1) (ns.drop (i + 1))).length + 1) - 1 - (outs hgt (i + 1) (ns.drop (i + 1))).length - pre.length = 0 by omega]
          rfl
        · rcases hvv with rfl | rfl
          all_goals
            refine hkap _ s'' ?_
            show Seg (model prog w) A _ _ _ _ _ (Kl .next) _ _
            rw [hKl]
            refine seg_again rfl (ih (i + 1) s'' s'' (by omega) hlt (hN₅.keep hal) hT'' (GenSince.refl _ _ _) ⟨pre ++ [(i : Int)], ?_⟩)
            rw [hpre, e1]; simp
      · rw [decide_eq_false hih]
        simp only [Bool.false_eq_true, if_false]
        exact fin (fun q => hih q.2) _ ⟨_, rfl⟩
    · rw [decide_eq_false hz0]
      simp only [Bool.false_eq_true, if_false]
      exact fin (fun q => hz0 q.1) _ ⟨_, rfl⟩
end KG
end PartKGen

section PartKFor
/-! for x in next_arities(h, c): body -/
namespace KG
open PySem PySem.Spec PyProof.Rows L2 GenW
section
variable {prog : Program} {w : World} {A : Around}
theorem seg_naStart {env : Env} {p1 p2 p3 p4 p5 p6 p7 p8 p9 p10 p11 p12 p13 p14 p15 p16 p17 p18 : Pos} {kk k2 : Nat} {c : Addr} {hgt : Int} {ns : List Int} {s : Shared} {m mg mb : Str → Option Value} {t : Tok}
    (N : NaEnv env) (hh : A.handled = none) (hn : s.heap.Ns env.locals m) (hm : m "height" = some (.int hgt t)) (hc : m "counts" = some (.ref c)) (hT : TupIs s.heap c (ns.map V.int)) (hcL : c ≠ env.locals)
    (hg : s.heap.Ns mainGlobals mg) (hge : mg "enumerate" = none) (hb : s.heap.Ns builtinsNs mb) (hbe : mb "enumerate" = some (.type "enumerate")) :
    Seg (model prog w) A (RNA env.locals (s.heap.objs.size + 1) s.heap.objs.size) (YNA (outs hgt 0 ns) env.locals (s.heap.objs.size + 1) s.heap.objs.size c (ns.map V.int)) (outs hgt 0 ns).length s
      (.func (naBody p1 p2 p3 p4 p5 p6 p7 p8 p9 p10 p11 p12 p13 p14 p15 p16 p17 p18 kk k2) env) ((model prog w).den (.func (naBody p1 p2 p3 p4 p5 p6 p7 p8 p9 p10 p11 p12 p13 p14 p15 p16 p17 p18 kk k2) env)) [] s := by
  have hLl : env.locals < s.heap.objs.size := hn.lt
  have hcl : c < s.heap.objs.size := by obtain ⟨_, _, o, ho, _⟩ := hT; exact Heap.lt_size ho
  refine seg_func ?_
  unfold naBody
  refine seg_execs_cons (seg_For ?_)
  refine Call_ (Calls.Name_function_global N.kind N.en (Calls.loadGlobal_builtin (by rw [N.gl]; exact hg) hge (by rw [N.bl]; exact hb) hbe (PyProof.Rows.callWith_type1 ?_ rfl rfl)))
  refine args_cons (wpAny_Name (wpAny_loadName_local N.kind N.cs hn hc (args_nil ?_)))
  obtain ⟨its, rv, hTup⟩ := id hT
  refine KEn.call_enumerate_tup (items := its.toArray) hTup fun h' he hit hsz hk => ?_
  refine wpAny_pyIter_enum he fun p kf hkf => ?_
  have ap : NApart env.locals (s.heap.objs.size + 1) s.heap.objs.size c :=
    ⟨Nat.succ_ne_self _, Nat.ne_of_gt (Nat.lt_succ_of_lt hLl), Nat.ne_of_gt hLl, hcL, Nat.ne_of_lt (Nat.lt_succ_of_lt hcl), Nat.ne_of_lt hcl⟩
  have q := seg_naLoop (prog := prog) (w := w) (A := A) (env := env) (p1 := p1) (p2 := p2) (p3 := p3) (p7 := p7) (p8 := p8) (p9 := p9) (p10 := p10) (p11 := p11) (p12 := p12) (p13 := p13) (p14 := p14) (p15 := p15) (p16 := p16) (p17 := p17) (kk := kk) (k2 := k2)
    (c := c) (hgt := hgt) (ns := ns) (out := outs hgt 0 ns)
    (kf := kf)
    (c₁ := .func (naBody p1 p2 p3 p4 p5 p6 p7 p8 p9 p10 p11 p12 p13 p14 p15 p16 p17 p18 kk k2) env) (p₁ := p) N ap ((hkf .next).trans rfl) hh ns.length 0 s { s with heap := h' } (Nat.sub_zero _) (Nat.zero_le _)
    ⟨⟨m, t, hn.keeps hk, hm⟩, ⟨_, he⟩, hit⟩ (hT.keep fun o e => hk _ o e) ((GenSince.refl _ _ s).step (tk := s.toks) fun b o _ _ e => hk b o e) ⟨[], by simp⟩
  exact q

/-! ### a generator of these, as its consumer sees it -/
/-- fresh: not yet begun -/
structure GFresh (env : Env) (a : Addr) (g : Nat) (c : Addr) (hgt : Int) (body : List Stmt) (s : Shared) : Prop where
  gen : s.heap.IsGen a g
  st : s.gens[g]? = some (.fresh (.func body env))
  ns : ∃ m t, s.heap.Ns env.locals m ∧ m "height" = some (.int hgt t) ∧ m "counts" = some (.ref c)
/-- asleep before its item j -/
structure GSlept (prog : Program) (w : World) (A : Around) (L E I a : Addr) (g : Nat) (c : Addr) (out : List Int) (xs : List V) (j : Nat) (s : Shared) : Prop where
  gen : s.heap.IsGen a g
  obj : ∀ b ∈ [L, E, I], ∃ o, s.heap.get? b = some o ∧ ∀ v, o.data ≠ .cell v
  st : ∃ gs, s.gens[g]? = some gs ∧ KF.isSus gs = true ∧ gs.bare = true ∧ ∀ s'' : Shared, (∀ b ∈ [L, E, I], ∀ o, s.heap.get? b = some o → s''.heap.get? b = some o) → TupIs s''.heap c xs →
    gs.Goes (model prog w) A.in1 (RNA L E I) (YNA out L E I c xs) (out.length - j) (.send .none) s''
theorem GSlept.keep {L E I a : Addr} {g : Nat} {c : Addr} {out : List Int} {xs : List V} {j : Nat} {s s' : Shared} (x : GSlept prog w A L E I a g c out xs j s) (ha : ∀ o, s.heap.get? a = some o → s'.heap.get? a = some o)
    (k : ∀ b ∈ [L, E, I], ∀ o, s.heap.get? b = some o → s'.heap.get? b = some o) (hg : s'.gens[g]? = s.gens[g]?) : GSlept prog w A L E I a g c out xs j s' := by
  obtain ⟨⟨o, nm, qn, ho, q⟩, h2, gs, h3, h4, h5, h6⟩ := x
  refine ⟨⟨o, nm, qn, ha o ho, q⟩, fun b hb => ?_, gs, hg.trans h3, h4, h5, fun s'' hk => h6 s'' fun b hb o e => hk b hb o (k b hb o e)⟩
  obtain ⟨u, hu, hd⟩ := h2 b hb
  exact ⟨u, k b hb u hu, hd⟩
end
section
variable {prog : Program} {w : World} {A : Around} {E₀ : Value → Shared → Prop}
/-- one draw of a sleeper -/
theorem next_slept {L E I a : Addr} {g : Nat} {c : Addr} {out : List Int} {xs : List V} {j : Nat} {s : Shared} {Q : Option Value → Shared → Prop} (hh : A.handled = none) (hl : s.heap.NoLimit) (hroom : A.depth < recursionLimit)
    (ap : NApart L E I c) (haL : a ≠ L) (haE : a ≠ E) (haI : a ≠ I) (hgen : s.heap.IsGen a g) {gs : GenState} (hgs : s.gens[g]? = some gs)
    (hg : gs.Goes (model prog w) A.in1 (RNA L E I) (YNA out L E I c xs) (out.length - j) (.send .none) (s.setGen g .running)) (hT : TupIs s.heap c xs) (hj : j ≤ out.length)
    (hY : ∀ y t h' tk G', out[j]? = some y → (∀ b o, b ≠ L → b ≠ E → b ≠ I → s.heap.get? b = some o → h'.get? b = some o) → (AllBare s.gens → AllBare G') → G'.size = s.gens.size → GSlept prog w A L E I a g c out xs (j + 1) { s with heap := h', toks := tk, gens := G' } → Q (some (.int y t)) { s with heap := h', toks := tk, gens := G' })
    (hP : ∀ h' tk G', out[j]? = none → (∀ b o, b ≠ L → b ≠ E → b ≠ I → s.heap.get? b = some o → h'.get? b = some o) → (AllBare s.gens → AllBare G') → Q none { s with heap := h', toks := tk, gens := G' }) :
    wpAny (model prog w) A (pyNext (.ref a)) Q E₀ s := by
  have hglt : g < s.gens.size := by
    rcases Nat.lt_or_ge g s.gens.size with z | z
    · exact z
    · rw [Array.getElem?_eq_none z] at hgs; cases hgs
  have bareOf : ∀ (st : GenState), st.bare = true → AllBare s.gens → AllBare ((s.setGen g .running).setGen g st).gens := fun st hb q => allBare_setGen (allBare_setGen q rfl) hb
  have keepT : ∀ h' : Heap, (∀ b o, b ≠ L → b ∉ [E, I] → s.heap.get? b = some o → h'.get? b = some o) → TupIs h' c xs := fun h' k => hT.keep fun o e => k c o ap.cL (by simp [ap.cE, ap.cI]) e
  refine next_genG (Er := fun _ _ => False) (F := fun n s₀ s₁ => n = 0 ∧ GenSince L [E, I] s₀ s₁) hh hl hroom hgen hgs hg (fun v s₁ gs' hb hv => ?_) (fun s₁ hp h' hk => ?_) (fun e s₁ z => z.elim)
  · obtain ⟨⟨y, t, hy, rfl⟩, ⟨h₁, tk₁, rfl, hk₁⟩, hob, hkap⟩ := hv
    cases hn : out.length - j with
    | zero =>
      exfalso
      rw [hn] at hkap
      exact hkap { s with heap := h₁ } (fun b _ o e => e) (keepT h₁ hk₁) .none (.inl rfl)
    | succ mm =>
      rw [hn] at hkap hy
      have hidx : out.length - 1 - (mm + 1 - 1) = j := by omega
      rw [hidx] at hy
      have hsus : KF.isSus gs' = true := by
        have q := hkap { s with heap := h₁ } (fun b _ o e => e) (keepT h₁ hk₁) (.bool true) (.inr rfl)
        cases gs' with
        | fresh c => cases q.1
        | suspended _ _ _ _ _ _ => rfl
        | running => exact q.elim
        | finished => exact q.elim
      refine hY y t h₁ tk₁ ((s.setGen g .running).setGen g gs').gens hy (fun b o h1 h2 h3 e => hk₁ b o h1 (by simp [h2, h3]) e) (bareOf gs' hb) (by simp [Shared.setGen]) ⟨?_, hob, gs', ?_, hsus, hb, fun s'' hal hT'' => ?_⟩
      · obtain ⟨o, nm, qn, ho, q⟩ := hgen
        exact ⟨o, nm, qn, hk₁ a o haL (by simp [haE, haI]) ho, q⟩
      · have z : g < (s.setGen g .running).gens.size := by simp [Shared.setGen]; exact hglt
        exact setGen_at z
      · have e : out.length - (j + 1) = mm := by omega
        rw [e]
        exact hkap s'' hal hT'' .none (.inl rfl)
  · obtain ⟨hn, h₁, tk₁, rfl, hk₁⟩ := hp
    refine hP h' tk₁ ((s.setGen g .running).setGen g .finished).gens (List.getElem?_eq_none (by omega)) (fun b o h1 h2 h3 e => hk b o (hk₁ b o h1 (by simp [h2, h3]) e)) (bareOf _ rfl)
end
end KG
end PartKFor

section PartKForG
/-! the rule: for x in next_arities(h, c): body -/
namespace KG
open PySem PySem.Spec PyProof.Rows L2 GenW
section
variable {X : Cx} {pins : List (Addr × Obj)} {σ : L2.St} {H : Hp} {s : Shared}
theorem Inv.gensTo (I : L2.Inv X pins σ H s) {g' : Array GenState} (h : AllBare g') : L2.Inv X pins σ H { s with gens := g' } :=
  ⟨I.ok, I.os, h, I.base, I.loc, I.cell, I.free, I.freeC, I.pin, I.hok, I.len⟩
theorem Inv.rst (I : L2.Inv X pins σ H s) {G : Array GenState} (h : AllBare G) : L2.Inv X pins σ H (KF.rstS G s) := Inv.gensTo I (KF.bare_rst h I.bare)
theorem Inv.stuck (I : L2.Inv X pins σ H s) : L2.Inv X pins σ H (KF.stuck s) := Inv.gensTo I (KF.bare_stuck I.bare)
theorem SP.rst {D : Ends} {f : Flow} {G : Array GenState} (hG : AllBare G) (h : SP X pins D f s) : SP X pins D f (KF.rstS G s) := by
  cases f with
  | next => obtain ⟨σ', H', I', q⟩ := h; exact ⟨σ', H', Inv.rst I' hG, q⟩
  | brk => obtain ⟨σ', H', I', q⟩ := h; exact ⟨σ', H', Inv.rst I' hG, q⟩
  | cont => obtain ⟨σ', H', I', q⟩ := h; exact ⟨σ', H', Inv.rst I' hG, q⟩
  | ret u => obtain ⟨v, σ', H', I', r, q⟩ := h; exact ⟨v, σ', H', Inv.rst I' hG, r, q⟩
/-- a judged piece of code, run while generators sleep: they are as they were -/
theorem asleep {α : Type} {t : Sem α} {Q : α → Shared → Prop} (hx : ∀ e s, ¬ X.xe e s) {g : Nat} {gs : GenState} (hgs : s.gens[g]? = some gs) (hsus : KF.isSus gs = true)
    (h : wpAny (model X.prog X.w) X.A t Q X.xe (KF.stuck s)) :
    wpAny (model X.prog X.w) X.A t (fun a s' => ∃ s1, Q a s1 ∧ s' = KF.rstS s.gens s1 ∧ s'.gens[g]? = some gs) X.xe s := by
  refine wpAny_mono (KF.wpAny_asleep h) (fun a s' q => ?_) fun e s' q => ?_
  · obtain ⟨s1, e, hz, hg, q⟩ := q
    refine ⟨s1, q, e, ?_⟩
    rw [e]
    exact KF.rst_slp hgs hsus (hg.lt ⟨gs, hgs, hsus⟩)
  · obtain ⟨s1, _, _, _, q⟩ := q
    exact absurd q (hx _ _)
end
/-- the generator def's text -/
structure NaText (st : Stmt) (body : List Stmt) : Prop where
  body : defBody st = body
  kind : (defScope st).kind = .function
  co : (defScope st).isCoroutine = false
  gen : (defScope st).isGenerator = true
  nocell : ∀ x ∈ (defScope st).names, x.2 ≠ .cell
  ar : (defScope st).names.lookup ("arity" : Str) = some .local
  ma : (defScope st).names.lookup ("many" : Str) = some .local
  he : (defScope st).names.lookup ("height" : Str) = some .local
  cs : (defScope st).names.lookup ("counts" : Str) = some .local
  en : (defScope st).names.lookup ("enumerate" : Str) = some .globalImplicit
section
variable {X : Cx} {pins : List (Addr × Obj)} {σ : L2.St} {H : Hp} {s : Shared}
theorem call_na {E : Value → Shared → Prop} {st : Stmt} {body : List Stmt} {f : Addr} {fd : FuncData} {k : Nat} {hgt : Int} {t : Tok} {c : Addr} {Q : Value → Shared → Prop} (I : L2.Inv X pins σ H s)
    (F : Fun X.K "next_arities" "next_arities" st f fd) (T : NaText st body) (hb : L2.Binds X.K fd ["height", "counts"] []) (hr : Room k X.A)
    (h : ∀ s' env a g, L2.Inv X pins σ H s' → NaEnv env → GFresh env a g c hgt body s' → FpOk X pins H env.locals → FpOk X pins H a → a ≠ env.locals → s.heap.objs.size ≤ env.locals → s.heap.objs.size ≤ a → (∀ b o, s.heap.get? b = some o → s'.heap.get? b = some o) → Q (.ref a) s') :
    wpAny (model X.prog X.w) X.A (call (.ref f) [.int hgt t, .ref c]) Q E s := by
  obtain ⟨oc, od, kV, doc, pm, an, cdv, ct, osl, rfl, lk, hcd⟩ := F.ex
  have KX : X.K.In s.heap := I.kIn
  have lim : s.heap.NoLimit := I.nolimit
  refine wpAny_call ?_
  refine codeAny_call_generator hr.depth (KX _ _ lk) rfl T.co T.gen rfl (PySem.W.codeRec_of KX hcd) ?_
  refine hb s [.int hgt t, .ref c] KX rfl _ _ _ _ ?_
  refine wpAny_newFunctionEnv T.nocell (fun x hx => ?_) (fun h' hn hs => ?_) T.kind
  · have e : x = (("height" : Str), Value.int hgt t) ∨ x = (("counts" : Str), Value.ref c) := by simpa using hx
    rcases e with e | e
    · rw [e]; exact T.he
    · rw [e]; exact T.cs
  have kp : ∀ b o, s.heap.get? b = some o → h'.get? b = some o := fun b o e => hs.extBut b o (Nat.ne_of_lt (Heap.lt_size e)) (Heap.get?_push_of_some _ e)
  have hz : h'.objs.size = s.heap.objs.size + 1 := by rw [hs.1, Heap.size_push]
  have kp2 : ∀ (o' : Obj) b o, s.heap.get? b = some o → (h'.push o').get? b = some o := fun o' b o e => Heap.get?_push_of_some _ (kp b o e)
  refine ⟨lim.keeps kp, ?_⟩
  have hA : h'.objs.size ≠ s.heap.objs.size := by rw [hz]; exact Nat.succ_ne_self _
  have hsa : s.heap.objs.size ≤ h'.objs.size := by rw [hz]; exact Nat.le_succ _
  refine h _ (newEnv (defScope st) s.heap.objs.size mainGlobals [] ("next_arities" ++ ".<locals>.") (some f) cdv none builtinsNs) h'.objs.size s.gens.size
    (Inv.gensTo (I.kept (h' := h'.push _) (t' := _) fun b o e => kp2 _ b o e) (I.bare.push rfl)) ⟨T.kind, T.co, T.ar, T.ma, T.he, T.cs, T.en, rfl, rfl⟩ ?_ ?_ ?_ hA (Nat.le_refl _) hsa (kp2 _)
  · refine ⟨⟨_, _, _, Heap.get?_push_size _ rfl, rfl, rfl, rfl⟩, ?_, ⟨_, t, hn.push _, ?_, ?_⟩⟩
    · rw [← T.body]
      exact Array.getElem?_push_size ..
    · rfl
    · rfl
  · exact I.fpOk (Nat.le_refl _) (I.hok.fresh (Nat.le_refl _))
  · exact I.fpOk hsa (I.hok.fresh hsa)
end

def tForG (K : PySem.W.Frag) (ta : TA) (g : TG) (tb : TS) : TS := fun D σ H => ta σ H fun vs H1 => ∃ (hgt : Int) (c : Addr) (ns : List Int), vs = [.int hgt, .ref c] ∧ SqT K H1 c (ns.map V.int) ∧
  ∃ Pv : Nat → L2.St → Hp → Prop, Pv 0 σ H1 ∧ (∀ i σ H, Pv i σ H → SqT K H c (ns.map V.int)) ∧
    (∀ i x σ H, (outs hgt 0 ns)[i]? = some x → Pv i σ H → g (.int x) σ H fun σ2 H2 => tb { D with nx := Pv (i + 1), ct := Pv (i + 1), bk := D.nx } σ2 H2) ∧
    (∀ σ H, Pv (outs hgt 0 ns).length σ H → D.nx σ H)
section
variable {X : Cx}
theorem ps_forG {x : Str} {px p pos' pos p1 p2 p3 p4 p5 p6 p7 p8 p9 p10 p11 p12 p13 p14 p15 p16 p17 p18 : Pos} {kk k2 k : Nat} {st : Stmt} {f : Addr} {fd : FuncData} {e1 e2 : Expr} {body : List Stmt} {ta : TA} {g : TG} {tb : TS}
    (hx : ∀ e s, ¬ X.xe e s) (hc : X.calm = true) (F : Fun X.K "next_arities" "next_arities" st f fd) (T : NaText st (naBody p1 p2 p3 p4 p5 p6 p7 p8 p9 p10 p11 p12 p13 p14 p15 p16 p17 p18 kk k2)) (hb : L2.Binds X.K fd ["height", "counts"] []) (hr : Room k X.A)
    (hgl : Gl X "next_arities") (hm : X.mg "next_arities" = some (.ref f)) (hmE : X.mg "enumerate" = none) (ha : PA X [e1, e2] ta) (hg : PG X (.Name x px) g) (hbody : PSs X body tb)
    (he : starEach [e1, e2] X.env = (false, eval e1 X.env) :: starEach [e2] X.env := by rfl) (hpl : (backTo pos' (starEach [e2] X.env)).any (·.1) = false := by rfl)
    (hs : ∀ v, foldedSetIterable (.Call (.Name "next_arities" p) [e1, e2] [] pos') X.env v = pure v := by intro _; rfl) :
    PS X (.For (.Name x px) (.Call (.Name "next_arities" p) [e1, e2] [] pos') body [] pos) (tForG X.K ta g tb) := by
  refine ⟨fun pins s σ H D I h => ?_⟩
  refine wpAny_For ?_ hs
  refine wpAny_Call_Name_kw (ld_glob I hgl hm ?_)
  refine PySem.W.callWith_K (h₀ := X.base) (first := []) I.ok.mod.kin F.kp (thn (ha.run pos' pins s σ H _ I h) fun us s1 ⟨vs, H1, I1, r, q⟩ => ⟨I1.kIn, ?_⟩) he hpl
  obtain ⟨hgt, c, ns, rfl, hSq, Pv, h0, hSP, hstep, hend⟩ := q
  obtain ⟨t, rfl⟩ : ∃ t, us = [.int hgt t, .ref c] := by
    cases r with
    | cons r1 r2 =>
      cases r2 with
      | cons r3 r4 =>
        cases r4
        obtain ⟨t, rfl⟩ := r1
        cases r3
        exact ⟨t, rfl⟩
  show wpAny _ _ (call (.ref f) [.int hgt t, .ref c]) _ _ s1
  refine call_na I1 F T hb hr fun s2 env a gn I2 N fr fL fa haL hLs has kp => ?_
  refine wpAny_pyIter_gen fr.gen ?_
  have hcL : c ≠ env.locals := by
    obtain ⟨_, _, ⟨o, ho, _⟩, _⟩ := I1.tuple hSq
    exact Nat.ne_of_lt (Nat.lt_of_lt_of_le (Heap.lt_size ho) hLs)
  refine codeAny_forLoop_any (fun n s' => ∃ i σ' H', L2.Inv X pins σ' H' s' ∧ n = (outs hgt 0 ns).length - i ∧ i ≤ (outs hgt 0 ns).length ∧ Pv i σ' H' ∧
      ((i = 0 ∧ GFresh env a gn c hgt (naBody p1 p2 p3 p4 p5 p6 p7 p8 p9 p10 p11 p12 p13 p14 p15 p16 p17 p18 kk k2) s' ∧ FpOk X pins H' env.locals ∧ FpOk X pins H' a) ∨
        ∃ E I, NApart env.locals E I c ∧ a ≠ E ∧ a ≠ I ∧ GSlept X.prog X.w X.A env.locals E I a gn c (outs hgt 0 ns) (ns.map V.int) i s' ∧ ∀ b ∈ [env.locals, E, I, a], FpOk X pins H' b)) ?_ (outs hgt 0 ns).length
    ⟨0, σ, H1, I2, by simp, Nat.zero_le _, h0, .inl ⟨rfl, fr, fL, fa⟩⟩
  rintro n s3 ⟨i, σ3, H3, I3, rfl, hi, hP, hG⟩
  have hh : X.A.handled = none := I3.ok.hd hc
  have hT : TupIs s3.heap c (ns.map V.int) := by
    obtain ⟨its, rv, ht, _⟩ := I3.tuple (hSP i σ3 H3 hP)
    exact ⟨its, rv, ht⟩
  have hcl : c < s3.heap.objs.size := by obtain ⟨_, _, o, ho, _⟩ := hT; exact Heap.lt_size ho
  have wake : ∃ E I gs, NApart env.locals E I c ∧ a ≠ E ∧ a ≠ I ∧ s3.heap.IsGen a gn ∧ s3.gens[gn]? = some gs ∧
      gs.Goes (model X.prog X.w) X.A.in1 (RNA env.locals E I) (YNA (outs hgt 0 ns) env.locals E I c (ns.map V.int)) ((outs hgt 0 ns).length - i) (.send .none) (s3.setGen gn .running) ∧ ∀ b ∈ [env.locals, E, I, a], FpOk X pins H3 b := by
    rcases hG with ⟨rfl, fr3, fL3, fa3⟩ | ⟨E, I, ap, haE, haI, sl, hf⟩
    · obtain ⟨m, t3, hn3, hm3, hc3⟩ := fr3.ns
      have hLl : env.locals < s3.heap.objs.size := hn3.lt
      have hal : a < s3.heap.objs.size := by obtain ⟨o, nm, qn, ho, _⟩ := fr3.gen; exact Heap.lt_size ho
      obtain ⟨mb, hb1, hb2⟩ := I3.mod.blt
      refine ⟨s3.heap.objs.size + 1, s3.heap.objs.size, _, ⟨Nat.succ_ne_self _, Nat.ne_of_gt (Nat.lt_succ_of_lt hLl), Nat.ne_of_gt hLl, hcL, Nat.ne_of_lt (Nat.lt_succ_of_lt hcl), Nat.ne_of_lt hcl⟩, Nat.ne_of_lt (Nat.lt_succ_of_lt hal), Nat.ne_of_lt hal, fr3.gen, fr3.st, ⟨rfl, ?_⟩, fun b hb => ?_⟩
      · exact seg_naStart (s := s3.setGen gn .running) (A := X.A.in1) N hh hn3 hm3 hc3 hT hcL (I3.mod.glob.keeps I3.bk) hmE (hb1.keeps I3.bk) ((hb2 "enumerate" (by decide)).trans boot_enumerate)
      · have e : b = env.locals ∨ b = s3.heap.objs.size + 1 ∨ b = s3.heap.objs.size ∨ b = a := by simpa using hb
        rcases e with z | z | z | z
        · rw [z]; exact fL3
        · rw [z]; exact I3.fpOk (Nat.le_succ _) (I3.hok.fresh (Nat.le_succ _))
        · rw [z]; exact I3.fpOk (Nat.le_refl _) (I3.hok.fresh (Nat.le_refl _))
        · rw [z]; exact fa3
    · obtain ⟨hgen, hobj, gs, hgs, hsus, hbare, hgo⟩ := sl
      exact ⟨E, I, gs, ap, haE, haI, hgen, hgs, hgo (s3.setGen gn .running) (fun _ _ _ e => e) hT, hf⟩
  obtain ⟨E, I, gs, ap, haE, haI, hgen, hgs, hgo, hf⟩ := wake
  have hf3 : ∀ b ∈ [env.locals, E, I], FpOk X pins H3 b := fun b hb => hf b (by simp at hb ⊢; rcases hb with z | z | z <;> simp [z])
  refine next_slept hh I3.nolimit hr.depth ap haL haE haI hgen hgs hgo hT hi (fun y t4 h' tk G' hy hk hbare hGs sl => ?_) fun h' tk G' hno hk hbare => ?_
  · -- an item
    have I4 : L2.Inv X pins σ3 H3 { s3 with heap := h', toks := tk, gens := G' } :=
      Inv.gensTo (s := { s3 with heap := h', toks := tk }) (I3.turnedL (ch := [env.locals, E, I]) (fun b o hb e => hk b o (fun z => hb (by simp [z])) (fun z => hb (by simp [z])) (fun z => hb (by simp [z])) e) hf3) (hbare I3.bare)
    have hob4 : ∀ b ∈ [env.locals, E, I, a], ∃ o, h'.get? b = some o ∧ ∀ v, o.data ≠ .cell v := fun b hb => by
      have e : b ∈ [env.locals, E, I] ∨ b = a := by simp at hb ⊢; rcases hb with z | z | z | z <;> simp [z]
      rcases e with z | z
      · exact sl.obj b z
      · obtain ⟨o, nm, qn, ho, _, hd, _⟩ := sl.gen
        rw [z]
        exact ⟨o, ho, fun v q => by rw [hd] at q; cases q⟩
    have I4' := I4.pinned (fp := [env.locals, E, I, a]) hf hob4
    obtain ⟨gs', hgs', hsus', hbare', _⟩ := sl.st
    refine wpAny_of_eq (rfl : letOwnedTupleGo (.Name x px) (.ref a) (.int y t4) = pure ()) ?_
    refine wpAny_mono (asleep hx hgs' hsus' (hg.run _ _ σ3 H3 (.int y) (.int y t4) _ (Inv.stuck I4') ⟨t4, rfl⟩ (hstep i y σ3 H3 hy hP))) (fun _ s5 h5 => ?_) fun e s z => absurd z (hx e s)
    obtain ⟨s5', ⟨σ5, H5, I5, q5⟩, es5, hg5⟩ := h5
    have I5' : L2.Inv X (pins ++ pinsAt [env.locals, E, I, a] h') σ5 H5 s5 := by rw [es5]; exact Inv.rst I5 I4'.bare
    refine wpAny_mono (asleep hx hg5 hsus' (hbody.run _ _ σ5 H5 _ (Inv.stuck I5') q5)) (fun fl s6 h6 => ?_) fun e s z => absurd z (hx e s)
    obtain ⟨s6', q6, es6, hg6⟩ := h6
    have q6' : SP X (pins ++ pinsAt [env.locals, E, I, a] h') { D with nx := Pv (i + 1), ct := Pv (i + 1), bk := D.nx } fl s6 := by rw [es6]; exact SP.rst I5'.bare q6
    have ilt : i < (outs hgt 0 ns).length := (List.getElem?_eq_some_iff.mp hy).1
    have again : ∀ {σ7 : L2.St} {H7 : Hp}, L2.Inv X (pins ++ pinsAt [env.locals, E, I, a] h') σ7 H7 s6 → Pv (i + 1) σ7 H7 → ∃ m, m < (outs hgt 0 ns).length - i ∧ ∃ i σ' H', L2.Inv X pins σ' H' s6 ∧ m = (outs hgt 0 ns).length - i ∧ i ≤ (outs hgt 0 ns).length ∧ Pv i σ' H' ∧
      ((i = 0 ∧ GFresh env a gn c hgt (naBody p1 p2 p3 p4 p5 p6 p7 p8 p9 p10 p11 p12 p13 p14 p15 p16 p17 p18 kk k2) s6 ∧ FpOk X pins H' env.locals ∧ FpOk X pins H' a) ∨
        ∃ E I, NApart env.locals E I c ∧ a ≠ E ∧ a ≠ I ∧ GSlept X.prog X.w X.A env.locals E I a gn c (outs hgt 0 ns) (ns.map V.int) i s6 ∧ ∀ b ∈ [env.locals, E, I, a], FpOk X pins H' b) := fun {σ7 H7} I7 p7 => by
      have at7 : ∀ b ∈ [env.locals, E, I, a], ∀ o, h'.get? b = some o → s6.heap.get? b = some o ∧ H7 b = none := fun b hb o e => by
        have q := I7.pin (b, o) (List.mem_append_right _ (List.mem_append_right _ (mem_pinsAt hb e)))
        exact ⟨q.1, q.2.1⟩
      refine ⟨_, by omega, i + 1, σ7, H7, I7.unpinned, rfl, ilt, p7, .inr ⟨E, I, ap, haE, haI, ?_, fun b hb => ?_⟩⟩
      · refine sl.keep (fun o e => (at7 a (by simp) o e).1) (fun b hb o e => (at7 b (by simp at hb ⊢; rcases hb with z | z | z <;> simp [z]) o e).1) ?_
        rw [hg6]
        exact hgs'.symm
      · obtain ⟨o, e, _⟩ := hob4 b hb
        exact ⟨(at7 b hb o e).2, (hf b hb).2⟩
    cases fl with
    | next => obtain ⟨σ7, H7, I7, n7⟩ := q6'; exact again I7 n7
    | cont => obtain ⟨σ7, H7, I7, n7⟩ := q6'; exact again I7 n7
    | brk => obtain ⟨σ7, H7, I7, q7⟩ := q6'; exact ⟨σ7, H7, I7.unpinned, q7⟩
    | ret v => obtain ⟨x7, σ7, H7, I7, r7, q7⟩ := q6'; exact ⟨x7, σ7, H7, I7.unpinned, r7, q7⟩
  · have I4 : L2.Inv X pins σ3 H3 { s3 with heap := h', toks := tk, gens := G' } :=
      Inv.gensTo (s := { s3 with heap := h', toks := tk }) (I3.turnedL (ch := [env.locals, E, I]) (fun b o hb e => hk b o (fun z => hb (by simp [z])) (fun z => hb (by simp [z])) (fun z => hb (by simp [z])) e) hf3) (hbare I3.bare)
    have ei : i = (outs hgt 0 ns).length := by
      have := List.getElem?_eq_none_iff.mp hno
      omega
    subst ei
    exact wpAny_execs_nil ⟨σ3, H3, I4, hend σ3 H3 hP⟩
end
end KG
end PartKForG

section PartKMath
/-! The plain law: counting and numbering ready rows. -/
namespace KM

/-! ### sums over 0 .. n-1 -/
def S : Nat → (Nat → Nat) → Nat
  | 0, _ => 0
  | n + 1, f => S n f + f n
theorem S_congr {n : Nat} {f g : Nat → Nat} (h : ∀ i, i < n → f i = g i) : S n f = S n g := by
  induction n with
  | zero => rfl
  | succ n ih => show S n f + f n = S n g + g n; rw [ih fun i hi => h i (by omega), h n (by omega)]
theorem S_zero (n : Nat) : S n (fun _ => 0) = 0 := by
  induction n with
  | zero => rfl
  | succ n ih => show S n _ + 0 = 0; rw [ih]
theorem S_add (n : Nat) (f g : Nat → Nat) : S n (fun i => f i + g i) = S n f + S n g := by
  induction n with
  | zero => rfl
  | succ n ih => show S n _ + (f n + g n) = (S n f + f n) + (S n g + g n); rw [ih]; omega
theorem S_mul (n k : Nat) (f : Nat → Nat) : S n (fun i => k * f i) = k * S n f := by
  induction n with
  | zero => rfl
  | succ n ih => show S n _ + k * f n = k * (S n f + f n); rw [ih, Nat.mul_add]
theorem S_comm (n m : Nat) (f : Nat → Nat → Nat) : S n (fun i => S m (fun j => f i j)) = S m (fun j => S n (fun i => f i j)) := by
  induction n with
  | zero => exact (S_zero m).symm
  | succ n ih => show S n _ + S m (f n) = S m (fun j => S n (fun i => f i j) + f n j); rw [ih, S_add]
theorem S_le_term {n i : Nat} (f : Nat → Nat) (h : i < n) : f i ≤ S n f := by
  induction n with
  | zero => omega
  | succ n ih =>
    show f i ≤ S n f + f n
    by_cases e : i = n
    · subst e; omega
    · have := ih (by omega); omega
theorem S_single {n i : Nat} (f : Nat → Nat) (h : i < n) (z : ∀ j, j < n → j ≠ i → f j = 0) : S n f = f i := by
  induction n with
  | zero => omega
  | succ n ih =>
    show S n f + f n = f i
    by_cases e : i = n
    · subst e
      rw [S_congr (g := fun _ => 0) fun j hj => z j (by omega) (by omega), S_zero]; omega
    · rw [ih (by omega) fun j hj => z j (by omega), z n (by omega) (fun q => e q.symm)]; omega

/-! ### counts: functions of the arity -/
abbrev Ct := Nat → Nat
/-- one token less -/
def dn (c : Ct) (a : Nat) : Ct := fun i => if i = a then c i - 1 else c i
def sz (c : Ct) : Nat := S 6 c
def wt (c : Ct) : Nat := S 6 fun a => a * c a
theorem dn_comm (c : Ct) (a b : Nat) : dn (dn c a) b = dn (dn c b) a := by
  funext i
  unfold dn
  by_cases h1 : i = a <;> by_cases h2 : i = b
  · rw [if_pos h1, if_pos h2]; simp only [if_pos h1, if_pos h2]
  · simp only [if_pos h1, if_neg h2]
  · simp only [if_neg h1, if_pos h2]
  · simp only [if_neg h1, if_neg h2]
theorem S_dn {n a : Nat} {c : Ct} (ha : a < n) (h : 0 < c a) (f : Nat → Nat) : S n (fun i => f i * dn c a i) + f a = S n (fun i => f i * c i) := by
  induction n with
  | zero => omega
  | succ n ih =>
    show S n _ + f n * dn c a n + f a = S n _ + f n * c n
    by_cases e : a = n
    · subst e
      have e1 : S a (fun i => f i * dn c a i) = S a (fun i => f i * c i) := S_congr fun i hi => by unfold dn; rw [if_neg (by omega)]
      have e2 : f a * dn c a a + f a = f a * c a := by
        unfold dn
        rw [if_pos rfl]
        obtain ⟨k, hk⟩ : ∃ k, c a = k + 1 := ⟨c a - 1, by omega⟩
        rw [hk, Nat.add_sub_cancel, Nat.mul_succ]
      omega
    · have q := ih (by omega)
      have e2 : dn c a n = c n := by unfold dn; rw [if_neg (by omega)]
      rw [e2]
      omega
theorem sz_dn {c : Ct} {a : Nat} (ha : a < 6) (h : 0 < c a) : sz (dn c a) + 1 = sz c := by
  have q := S_dn (n := 6) ha h (fun _ => 1)
  simp only [Nat.one_mul] at q
  exact q
theorem wt_dn {c : Ct} {a : Nat} (ha : a < 6) (h : 0 < c a) : wt (dn c a) + a = wt c := S_dn (n := 6) ha h (fun i => i)

/-! ### the ways, from the front -/
def W : Nat → Nat → Ct → Nat
  | 0, _, _ => 1
  | n + 1, h, c => S 6 fun a => if 0 < c a ∧ a ≤ h then W n (h + 1 - a) (dn c a) else 0
def ways (h : Nat) (c : Ct) : Nat := W (sz c) h c
theorem ways_zero {h : Nat} {c : Ct} (z : sz c = 0) : ways h c = 1 := by unfold ways; rw [z]; rfl
theorem ways_step {h : Nat} {c : Ct} (z : 0 < sz c) : ways h c = S 6 fun a => if 0 < c a ∧ a ≤ h then ways (h + 1 - a) (dn c a) else 0 := by
  obtain ⟨k, hk⟩ : ∃ k, sz c = k + 1 := ⟨sz c - 1, by omega⟩
  unfold ways
  rw [hk]
  show (S 6 fun a => if 0 < c a ∧ a ≤ h then W k (h + 1 - a) (dn c a) else 0) = _
  refine S_congr fun a ha => ?_
  by_cases q : 0 < c a ∧ a ≤ h
  · rw [if_pos q, if_pos q]
    have := sz_dn ha q.1
    rw [show sz (dn c a) = k by omega]
  · rw [if_neg q, if_neg q]
/-! ### the last token -/
theorem exists_pos {c : Ct} (z : 0 < sz c) : ∃ b, b < 6 ∧ 0 < c b := by
  refine Classical.byContradiction fun n => ?_
  have : sz c = 0 := by
    unfold sz
    rw [S_congr (g := fun _ => 0) fun i hi => ?_, S_zero]
    refine Classical.byContradiction fun q => n ⟨i, hi, by omega⟩
  omega
/-- h + balance ≥ 1, in naturals: wt < h + sz -/
theorem ways_last : ∀ (n h : Nat) (c : Ct), sz c = n + 1 → ways h c = if wt c < h + sz c then S 6 (fun b => if 0 < c b then ways h (dn c b) else 0) else 0 := by
  intro n
  induction n with
  | zero =>
    intro h c hz
    obtain ⟨b, hb, hcb⟩ := exists_pos (c := c) (by omega)
    have hzb := sz_dn hb hcb
    have hwb := wt_dn hb hcb
    have cb : ∀ j, j < 6 → j ≠ b → c j = 0 := fun j hj hne => by
      refine Classical.byContradiction fun q => ?_
      have h1 := sz_dn hj (show 0 < c j by omega)
      have h2 := sz_dn (c := dn c b) hj (show 0 < dn c b j by unfold dn; rw [if_neg hne]; omega)
      omega
    have w0 : wt (dn c b) = 0 := by
      unfold wt
      rw [S_congr (g := fun _ => 0) fun i hi => ?_, S_zero]
      have : dn c b i = 0 := by
        refine Classical.byContradiction fun q => ?_
        have h2 := sz_dn (c := dn c b) hi (show 0 < dn c b i by omega)
        omega
      rw [this, Nat.mul_zero]
    rw [ways_step (by omega)]
    rw [S_single _ hb fun j hj hne => by rw [if_neg]; intro q; rw [cb j hj hne] at q; omega]
    rw [S_single (fun b => if 0 < c b then ways h (dn c b) else 0) hb fun j hj hne => by rw [if_neg]; rw [cb j hj hne]; omega]
    rw [if_pos hcb, ways_zero (show sz (dn c b) = 0 by omega), ways_zero (show sz (dn c b) = 0 by omega)]
    by_cases q : b ≤ h
    · rw [if_pos ⟨hcb, q⟩, if_pos (by omega)]
    · rw [if_neg (fun z => q z.2), if_neg (by omega)]
  | succ n ih =>
    intro h c hz
    rw [ways_step (by omega)]
    have e1 : S 6 (fun a => if 0 < c a ∧ a ≤ h then ways (h + 1 - a) (dn c a) else 0) =
        if wt c < h + sz c then S 6 (fun a => S 6 (fun b => if 0 < c a ∧ a ≤ h ∧ 0 < dn c a b then ways (h + 1 - a) (dn (dn c a) b) else 0)) else 0 := by
      by_cases q : wt c < h + sz c
      · rw [if_pos q]
        refine S_congr fun a ha => ?_
        by_cases qa : 0 < c a ∧ a ≤ h
        · have h1 := sz_dn ha qa.1
          have h2 := wt_dn ha qa.1
          rw [if_pos qa, ih _ _ (by omega), if_pos (by omega)]
          refine S_congr fun b hb => ?_
          by_cases qb : 0 < dn c a b
          · rw [if_pos qb, if_pos ⟨qa.1, qa.2, qb⟩]
          · rw [if_neg qb, if_neg fun z => qb z.2.2]
        · rw [if_neg qa, S_congr (g := fun _ => 0) fun b hb => if_neg fun z => qa ⟨z.1, z.2.1⟩, S_zero]
      · rw [if_neg q, S_congr (g := fun _ => 0) fun a ha => ?_, S_zero]
        by_cases qa : 0 < c a ∧ a ≤ h
        · have h1 := sz_dn ha qa.1
          have h2 := wt_dn ha qa.1
          rw [if_pos qa, ih _ _ (by omega), if_neg (by omega)]
        · rw [if_neg qa]
    rw [e1]
    by_cases q : wt c < h + sz c
    · rw [if_pos q, if_pos q, S_comm]
      refine S_congr fun b hb => ?_
      by_cases qb : 0 < c b
      · rw [if_pos qb]
        have h1 := sz_dn hb qb
        rw [ways_step (by omega)]
        refine S_congr fun a ha => ?_
        have iff : (0 < c a ∧ a ≤ h ∧ 0 < dn c a b) ↔ (0 < dn c b a ∧ a ≤ h) := by
          unfold dn
          by_cases e : a = b
          · subst e
            rw [if_pos rfl]
            constructor
            · intro z; exact ⟨z.2.2, z.2.1⟩
            · intro z; exact ⟨qb, z.2, z.1⟩
          · rw [if_neg e, if_neg (fun z => e z.symm)]
            constructor
            · intro z; exact ⟨z.1, z.2.1⟩
            · intro z; exact ⟨z.1, z.2, qb⟩
        by_cases qa : 0 < dn c b a ∧ a ≤ h
        · rw [if_pos qa, if_pos (iff.mpr qa), dn_comm]
        · rw [if_neg qa, if_neg fun z => qa (iff.mp z)]
      · rw [if_neg qb, S_congr (g := fun _ => 0) fun a ha => ?_, S_zero]
        rw [if_neg]
        intro z
        have : dn c a b ≤ c b := by unfold dn; split <;> omega
        omega
    · rw [if_neg q, if_neg q]

/-! ### binomials -/
def fact : Nat → Nat
  | 0 => 1
  | n + 1 => (n + 1) * fact n
theorem fact_pos (n : Nat) : 0 < fact n := by
  induction n with
  | zero => decide
  | succ n ih => exact Nat.mul_pos (Nat.succ_pos _) ih
def choose : Nat → Nat → Nat
  | _, 0 => 1
  | 0, _ + 1 => 0
  | n + 1, k + 1 => choose n k + choose n (k + 1)
theorem choose_succ : ∀ (n k : Nat), choose (n + 1) (k + 1) * (k + 1) = choose n k * (n + 1)
  | 0, 0 => rfl
  | 0, k + 1 => by simp [choose]
  | n + 1, 0 => by
    have q := choose_succ n 0
    simp only [choose] at q ⊢
    omega
  | n + 1, k + 1 => by
    have q1 := choose_succ n k
    have q2 := choose_succ n (k + 1)
    show (choose (n + 1) (k + 1) + choose (n + 1) (k + 2)) * (k + 2) = choose (n + 1) (k + 1) * (n + 2)
    have e2 : choose (n + 1) (k + 1) * (k + 2) = choose n k * (n + 1) + choose (n + 1) (k + 1) := by
      rw [show k + 2 = (k + 1) + 1 from rfl, Nat.mul_succ, q1]
    have e3 : choose (n + 1) (k + 1) * (n + 1) = choose n k * (n + 1) + choose n (k + 1) * (n + 1) := Nat.add_mul (choose n k) (choose n (k + 1)) (n + 1)
    have e4 : choose (n + 1) (k + 1) * (n + 2) = choose (n + 1) (k + 1) * (n + 1) + choose (n + 1) (k + 1) := Nat.mul_succ _ _
    rw [Nat.add_mul, e2, q2, e4, e3]
    omega
theorem choose_fact (p k : Nat) : choose (p + k) k * fact k * fact p = fact (p + k) := by
  induction k with
  | zero => simp [choose, fact]
  | succ k ih =>
    have q := choose_succ (p + k) k
    show choose (p + k + 1) (k + 1) * ((k + 1) * fact k) * fact p = (p + k + 1) * fact (p + k)
    rw [← ih, ← Nat.mul_assoc (choose (p + k + 1) (k + 1)), q]
    simp only [Nat.mul_assoc, Nat.mul_comm, Nat.mul_left_comm]
/-- the product of factorials, the rows -/
def pf : Nat → Ct → Nat
  | 0, _ => 1
  | n + 1, c => pf n c * fact (c n)
def rows : Nat → Ct → Nat
  | 0, _ => 1
  | n + 1, c => rows n c * choose (S n c + c n) (c n)
theorem rows_fact (n : Nat) (c : Ct) : rows n c * pf n c = fact (S n c) := by
  induction n with
  | zero => rfl
  | succ n ih =>
    show rows n c * choose (S n c + c n) (c n) * (pf n c * fact (c n)) = fact (S n c + c n)
    rw [← choose_fact (S n c) (c n), ← ih]
    simp only [Nat.mul_assoc, Nat.mul_comm, Nat.mul_left_comm]
theorem pf_pos (n : Nat) (c : Ct) : 0 < pf n c := by
  induction n with
  | zero => exact Nat.one_pos
  | succ n ih => exact Nat.mul_pos ih (fact_pos _)
theorem pf_dn {n b : Nat} {c : Ct} (hb : b < n) (h : 0 < c b) : pf n (dn c b) * c b = pf n c := by
  induction n with
  | zero => omega
  | succ n ih =>
    show pf n (dn c b) * fact (dn c b n) * c b = pf n c * fact (c n)
    by_cases e : b = n
    · subst e
      have e1 : ∀ m, m ≤ b → pf m (dn c b) = pf m c := fun m => by
        induction m with
        | zero => intro _; rfl
        | succ m ihm =>
          intro hm
          show pf m (dn c b) * fact (dn c b m) = pf m c * fact (c m)
          rw [ihm (by omega)]
          have : dn c b m = c m := by unfold dn; rw [if_neg (by omega)]
          rw [this]
      obtain ⟨k, hk⟩ : ∃ k, c b = k + 1 := ⟨c b - 1, by omega⟩
      have e2 : dn c b b = k := by unfold dn; rw [if_pos rfl, hk]; rfl
      rw [e1 b (Nat.le_refl _), e2, hk]
      show pf b c * fact k * (k + 1) = pf b c * ((k + 1) * fact k)
      simp only [Nat.mul_assoc, Nat.mul_comm, Nat.mul_left_comm]
    · have q := ih (by omega)
      have e2 : dn c b n = c n := by unfold dn; rw [if_neg (by omega)]
      rw [e2, ← q]
      simp only [Nat.mul_assoc, Nat.mul_comm, Nat.mul_left_comm]
theorem rows_dn {b : Nat} {c : Ct} (hb : b < 6) (h : 0 < c b) : rows 6 (dn c b) * sz c = rows 6 c * c b := by
  have h1 := rows_fact 6 c
  have h2 := rows_fact 6 (dn c b)
  have h3 := pf_dn hb h
  have h4 := sz_dn hb h
  have e : fact (S 6 c) = sz c * fact (S 6 (dn c b)) := by
    show fact (sz c) = sz c * fact (sz (dn c b))
    rw [← h4]; rfl
  refine Nat.eq_of_mul_eq_mul_right (pf_pos 6 (dn c b)) ?_
  have l : rows 6 (dn c b) * sz c * pf 6 (dn c b) = fact (S 6 c) := by
    rw [e, ← h2]
    simp only [Nat.mul_assoc, Nat.mul_comm, Nat.mul_left_comm]
  have r : rows 6 c * c b * pf 6 (dn c b) = fact (S 6 c) := by
    rw [← h1, ← h3]
    simp only [Nat.mul_assoc, Nat.mul_comm, Nat.mul_left_comm]
  rw [l, r]

/-! ### the cycle law -/
theorem ready_count : ∀ (n : Nat) (c : Ct), sz c = n + 1 → ways 0 c * sz c = rows 6 c * (sz c - wt c) := by
  intro n
  induction n with
  | zero =>
    intro c hz
    obtain ⟨b, hb, hcb⟩ := exists_pos (c := c) (by omega)
    have h1 := sz_dn hb hcb
    have h2 := wt_dn hb hcb
    have h3 := rows_dn hb hcb
    have zero : ∀ j, j < 6 → dn c b j = 0 := fun j hj => by
      refine Classical.byContradiction fun q => ?_
      have := sz_dn (c := dn c b) hj (by omega)
      omega
    have cb1 : c b = 1 := by
      have := zero b hb
      unfold dn at this
      rw [if_pos rfl] at this
      omega
    have r1 : rows 6 (dn c b) = 1 := by
      have z : ∀ m, m ≤ 6 → rows m (dn c b) = 1 := fun m => by
        induction m with
        | zero => intro _; rfl
        | succ m ihm =>
          intro hm
          show rows m (dn c b) * choose (S m (dn c b) + dn c b m) (dn c b m) = 1
          rw [ihm (by omega), zero m (by omega)]
          cases S m (dn c b) <;> rfl
      exact z 6 (Nat.le_refl _)
    have w0 : wt (dn c b) = 0 := by
      unfold wt
      rw [S_congr (g := fun _ => 0) fun i hi => by rw [zero i hi, Nat.mul_zero], S_zero]
    rw [r1, cb1, hz] at h3
    rw [ways_last 0 0 c hz, hz]
    have e : S 6 (fun b => if 0 < c b then ways 0 (dn c b) else 0) = 1 := by
      rw [S_single _ hb fun j hj hne => by
        have := zero j hj
        unfold dn at this
        rw [if_neg hne] at this
        rw [if_neg (by omega)]]
      rw [if_pos hcb, ways_zero (by omega)]
    rw [e]
    by_cases q : wt c < 0 + (0 + 1)
    · rw [if_pos q, show 0 + 1 - wt c = 1 by omega]; omega
    · rw [if_neg q, show 0 + 1 - wt c = 0 by omega]; omega
  | succ n ih =>
    intro c hz
    rw [ways_last (n + 1) 0 c hz]
    by_cases q : wt c < 0 + sz c
    · rw [if_pos q]
      refine Nat.eq_of_mul_eq_mul_right (show 0 < n + 1 by omega) ?_
      have e1 : S 6 (fun b => if 0 < c b then ways 0 (dn c b) else 0) * sz c * (n + 1) = rows 6 c * S 6 (fun b => c b * (sz c - 1 - wt c + b)) := by
        rw [← S_mul, Nat.mul_assoc, Nat.mul_comm _ (sz c * (n + 1)), ← S_mul]
        refine S_congr fun b hb => ?_
        by_cases qb : 0 < c b
        · rw [if_pos qb]
          have h1 := sz_dn hb qb
          have h2 := wt_dn hb qb
          have h3 := rows_dn hb qb
          have h4 := ih (dn c b) (by omega)
          have e5 : sz (dn c b) = n + 1 := by omega
          have e6 : sz (dn c b) - wt (dn c b) = sz c - 1 - wt c + b := by omega
          rw [e6, e5] at h4
          rw [← Nat.mul_assoc (rows 6 c), ← h3, Nat.mul_assoc (sz c), Nat.mul_comm (n + 1), h4]
          simp only [Nat.mul_assoc, Nat.mul_comm, Nat.mul_left_comm]
        · rw [if_neg qb, show c b = 0 by omega]; simp
      rw [e1]
      have e2 : S 6 (fun b => c b * (sz c - 1 - wt c + b)) = (sz c - 1 - wt c) * sz c + wt c := by
        rw [S_congr (g := fun b => (sz c - 1 - wt c) * c b + b * c b) fun b _ => by rw [Nat.mul_add, Nat.mul_comm (c b), Nat.mul_comm (c b)]]
        rw [S_add, S_mul]; rfl
      have e3 : (sz c - 1 - wt c) * sz c + wt c = (sz c - wt c) * (n + 1) := by
        obtain ⟨k, hk⟩ : ∃ k, sz c = wt c + k + 1 := ⟨sz c - 1 - wt c, by omega⟩
        have a1 : sz c - 1 - wt c = k := by omega
        have a2 : sz c - wt c = k + 1 := by omega
        have a3 : sz c = (n + 1) + 1 := by omega
        rw [a1, a2, a3, Nat.mul_succ, Nat.succ_mul]
        omega
      rw [e2, e3, Nat.mul_assoc]
    · rw [if_neg q, show sz c - wt c = 0 by omega]; simp
end KM
end PartKMath

section PartKRank
/-! ranks of ready rows -/
namespace KM
theorem S_mono {n m : Nat} (f : Nat → Nat) (h : n ≤ m) : S n f ≤ S m f := by
  induction m with
  | zero => have : n = 0 := by omega
            subst this; exact Nat.le_refl _
  | succ m ih =>
    by_cases e : n = m + 1
    · subst e; exact Nat.le_refl _
    · have := ih (by omega)
      show S n f ≤ S m f + f m
      omega
theorem W_congr : ∀ (n h : Nat) (c d : Ct), (∀ i, i < 6 → c i = d i) → W n h c = W n h d := by
  intro n
  induction n with
  | zero => intro h c d _; rfl
  | succ n ih =>
    intro h c d e
    refine S_congr fun a ha => ?_
    rw [e a ha]
    by_cases q : 0 < d a ∧ a ≤ h
    · rw [if_pos q, if_pos q]
      refine ih _ _ _ fun i hi => ?_
      unfold dn
      rw [e i hi]
    · rw [if_neg q, if_neg q]
theorem sz_congr {c d : Ct} (e : ∀ i, i < 6 → c i = d i) : sz c = sz d := S_congr e
theorem wt_congr {c d : Ct} (e : ∀ i, i < 6 → c i = d i) : wt c = wt d := S_congr fun i hi => by rw [e i hi]
theorem ways_congr {h : Nat} {c d : Ct} (e : ∀ i, i < 6 → c i = d i) : ways h c = ways h d := by
  unfold ways
  rw [sz_congr e]
  exact W_congr _ _ _ _ e
/-- the weight of an arity -/
def fw (h : Nat) (c : Ct) (a : Nat) : Nat := if 0 < c a ∧ a ≤ h then ways (h + 1 - a) (dn c a) else 0
theorem ways_fw {h : Nat} {c : Ct} (z : 0 < sz c) : ways h c = S 6 (fw h c) := ways_step z
/-! ### the arities that may follow -/
def fo (h : Nat) (c : Ct) : Nat → Nat → List Nat
  | _, 0 => []
  | a, k + 1 => if 0 < c a ∧ a ≤ h then a :: fo h c (a + 1) k else fo h c (a + 1) k
theorem fo_succ (h : Nat) (c : Ct) (a k : Nat) : fo h c a (k + 1) = if 0 < c a ∧ a ≤ h then a :: fo h c (a + 1) k else fo h c (a + 1) k := rfl
def wsum (h : Nat) (c : Ct) (l : List Nat) : Nat := (l.map (fw h c)).sum
theorem fo_sum (h : Nat) (c : Ct) : ∀ (k a : Nat), S a (fw h c) + wsum h c (fo h c a k) = S (a + k) (fw h c)
  | 0, a => by show S a (fw h c) + 0 = _; rfl
  | k + 1, a => by
    have ih := fo_sum h c k (a + 1)
    have e : S (a + 1) (fw h c) = S a (fw h c) + fw h c a := rfl
    rw [show a + (k + 1) = (a + 1) + k by omega, ← ih, e, fo_succ]
    by_cases q : 0 < c a ∧ a ≤ h
    · rw [if_pos q]
      show _ + (List.map (fw h c) (a :: fo h c (a + 1) k)).sum = _
      rw [List.map_cons, List.sum_cons]
      show _ + (fw h c a + wsum h c (fo h c (a + 1) k)) = _
      omega
    · rw [if_neg q]
      have : fw h c a = 0 := by unfold fw; rw [if_neg q]
      rw [this]; rfl
/-- the place of an arity in the list -/
theorem fo_at (h : Nat) (c : Ct) : ∀ (k a i x : Nat), (fo h c a k)[i]? = some x → a ≤ x ∧ x < a + k ∧ 0 < c x ∧ x ≤ h ∧ S a (fw h c) + wsum h c ((fo h c a k).take i) = S x (fw h c)
  | 0, a, i, x => by intro q; unfold fo at q; simp at q
  | k + 1, a, i, x => by
    intro q
    unfold fo at q ⊢
    by_cases p : 0 < c a ∧ a ≤ h
    · rw [if_pos p] at q ⊢
      cases i with
      | zero =>
        have e : a = x := by simpa using q
        subst e
        exact ⟨Nat.le_refl _, by omega, p.1, p.2, by show _ + 0 = _; rfl⟩
      | succ i =>
        have q' : (fo h c (a + 1) k)[i]? = some x := by simpa using q
        obtain ⟨h1, h2, h3, h4, h5⟩ := fo_at h c k (a + 1) i x q'
        refine ⟨by omega, by omega, h3, h4, ?_⟩
        rw [List.take_succ_cons]
        show _ + (List.map (fw h c) (a :: _)).sum = _
        rw [List.map_cons, List.sum_cons, ← h5]
        show S a (fw h c) + (fw h c a + wsum h c ((fo h c (a + 1) k).take i)) = (S a (fw h c) + fw h c a) + _
        omega
    · rw [if_neg p] at q ⊢
      obtain ⟨h1, h2, h3, h4, h5⟩ := fo_at h c k (a + 1) i x q
      refine ⟨by omega, by omega, h3, h4, ?_⟩
      have : fw h c a = 0 := by unfold fw; rw [if_neg p]
      rw [← h5]
      show _ = (S a (fw h c) + fw h c a) + _
      rw [this]; omega
theorem fo_all {h : Nat} {c : Ct} (z : 0 < sz c) : wsum h c (fo h c 0 6) = ways h c := by
  have q := fo_sum h c 6 0
  rw [ways_fw z]
  have e : S 0 (fw h c) = 0 := rfl
  rw [e] at q
  rw [show 0 + 6 = 6 from rfl] at q
  omega
theorem fo_le {h : Nat} {c : Ct} : (fo h c 0 6).length ≤ 6 := by
  have : ∀ k a, (fo h c a k).length ≤ k := fun k => by
    induction k with
    | zero => intro a; exact Nat.le_refl _
    | succ k ih =>
      intro a
      unfold fo
      split
      · rw [List.length_cons]; have := ih (a + 1); omega
      · have := ih (a + 1); omega
  exact this 6 0
/-- the sum over those below t -/
def wlt (h : Nat) (c : Ct) (t : Nat) (l : List Nat) : Nat := (l.map fun a => if a < t then fw h c a else 0).sum
theorem fo_lt (h : Nat) (c : Ct) (t : Nat) : ∀ (k a : Nat), a ≤ t → t ≤ a + k → S a (fw h c) + wlt h c t (fo h c a k) = S t (fw h c)
  | 0, a => by intro h1 h2; have : a = t := by omega
               subst this; rfl
  | k + 1, a => by
    intro h1 h2
    by_cases e : a = t
    · subst e
      have z : ∀ (k b : Nat), a ≤ b → wlt h c a (fo h c b k) = 0 := fun k => by
        induction k with
        | zero => intro b _; rfl
        | succ k ih =>
          intro b hb
          unfold fo
          split
          · show (List.map _ (b :: _)).sum = 0
            rw [List.map_cons, List.sum_cons, if_neg (by omega)]
            have := ih (b + 1) (by omega)
            unfold wlt at this
            omega
          · exact ih (b + 1) (by omega)
      rw [z (k + 1) a (Nat.le_refl _)]; rfl
    · have ih := fo_lt h c t k (a + 1) (by omega) (by omega)
      have e2 : S (a + 1) (fw h c) = S a (fw h c) + fw h c a := rfl
      rw [← ih, e2, fo_succ]
      by_cases q : 0 < c a ∧ a ≤ h
      · rw [if_pos q]
        show _ + (List.map _ (a :: _)).sum = _
        rw [List.map_cons, List.sum_cons, if_pos (by omega)]
        show _ + (fw h c a + wlt h c t (fo h c (a + 1) k)) = _
        omega
      · rw [if_neg q]
        have : fw h c a = 0 := by unfold fw; rw [if_neg q]
        rw [this]; rfl
/-! ### rows -/
def Rd : Nat → Ct → List Nat → Prop
  | _, c, [] => sz c = 0
  | h, c, t :: r => t < 6 ∧ 0 < c t ∧ t ≤ h ∧ Rd (h + 1 - t) (dn c t) r
def rank : Nat → Ct → List Nat → Nat
  | _, _, [] => 0
  | h, c, t :: r => S t (fw h c) + rank (h + 1 - t) (dn c t) r
theorem rank_lt : ∀ (r : List Nat) (h : Nat) (c : Ct), Rd h c r → rank h c r < ways h c
  | [], h, c, q => by rw [ways_zero q]; exact Nat.one_pos
  | t :: r, h, c, ⟨q1, q2, q3, q4⟩ => by
    have ih := rank_lt r _ _ q4
    have hz := sz_dn q1 q2
    rw [ways_fw (by omega)]
    have m := S_mono (fw h c) (show t + 1 ≤ 6 by omega)
    have e : S (t + 1) (fw h c) = S t (fw h c) + fw h c t := rfl
    have e2 : fw h c t = ways (h + 1 - t) (dn c t) := by unfold fw; rw [if_pos ⟨q2, q3⟩]
    show S t (fw h c) + rank (h + 1 - t) (dn c t) r < _
    omega
def lex : List Nat → List Nat → Bool
  | [], [] => false
  | [], _ :: _ => true
  | _ :: _, [] => false
  | x :: xs, y :: ys => if x = y then lex xs ys else decide (x < y)
theorem rank_mono : ∀ (r s : List Nat) (h : Nat) (c : Ct), Rd h c r → Rd h c s → lex r s = true → rank h c r < rank h c s
  | [], [], _, _, _, _, l => by cases l
  | [], t :: s, h, c, q, ⟨p1, p2, _, _⟩, _ => by
    have := sz_dn p1 p2
    have q' : sz c = 0 := q
    omega
  | t :: r, [], h, c, ⟨p1, p2, _, _⟩, q, l => by cases l
  | t :: r, u :: s, h, c, ⟨q1, q2, q3, q4⟩, ⟨p1, p2, p3, p4⟩, l => by
    show S t (fw h c) + rank (h + 1 - t) (dn c t) r < S u (fw h c) + rank (h + 1 - u) (dn c u) s
    unfold lex at l
    by_cases e : t = u
    · subst e
      rw [if_pos rfl] at l
      have := rank_mono r s _ _ q4 p4 l
      omega
    · rw [if_neg e] at l
      have lt : t < u := of_decide_eq_true l
      have b := rank_lt r _ _ q4
      have e2 : fw h c t = ways (h + 1 - t) (dn c t) := by unfold fw; rw [if_pos ⟨q2, q3⟩]
      have m := S_mono (fw h c) (show t + 1 ≤ u by omega)
      have e3 : S (t + 1) (fw h c) = S t (fw h c) + fw h c t := rfl
      omega
theorem lex_total : ∀ (r s : List Nat), r = s ∨ lex r s = true ∨ lex s r = true
  | [], [] => .inl rfl
  | [], _ :: _ => .inr (.inl rfl)
  | _ :: _, [] => .inr (.inr rfl)
  | x :: r, y :: s => by
    by_cases e : x = y
    · subst e
      rcases lex_total r s with h | h | h
      · exact .inl (by rw [h])
      · exact .inr (.inl (by unfold lex; rw [if_pos rfl]; exact h))
      · exact .inr (.inr (by unfold lex; rw [if_pos rfl]; exact h))
    · rcases Nat.lt_or_ge x y with h | h
      · exact .inr (.inl (by unfold lex; rw [if_neg e]; exact decide_eq_true h))
      · exact .inr (.inr (by unfold lex; rw [if_neg (fun q => e q.symm)]; exact decide_eq_true (by omega)))
theorem rank_inj {r s : List Nat} {h : Nat} {c : Ct} (hr : Rd h c r) (hs : Rd h c s) (e : rank h c r = rank h c s) : r = s := by
  rcases lex_total r s with q | q | q
  · exact q
  · have := rank_mono r s h c hr hs q; omega
  · have := rank_mono s r h c hs hr q; omega
theorem lex_irr : ∀ (r : List Nat), lex r r = false
  | [] => rfl
  | x :: r => by unfold lex; rw [if_pos rfl]; exact lex_irr r
theorem rank_lex {r s : List Nat} {h : Nat} {c : Ct} (hr : Rd h c r) (hs : Rd h c s) : lex r s = decide (rank h c r < rank h c s) := by
  rcases lex_total r s with q | q | q
  · subst q
    rw [lex_irr, decide_eq_false (by omega)]
  · rw [q, decide_eq_true (rank_mono r s h c hr hs q)]
  · have m := rank_mono s r h c hs hr q
    rw [decide_eq_false (by omega)]
    cases z : lex r s with
    | false => rfl
    | true => have := rank_mono r s h c hr hs z; omega
/-! ### readable rows, their counts -/
def OkR : Nat → List Nat → Prop
  | _, [] => True
  | h, t :: r => t < 6 ∧ t ≤ h ∧ OkR (h + 1 - t) r
def cnt (r : List Nat) : Ct := fun a => r.count a
theorem dn_cnt (t : Nat) (r : List Nat) : dn (cnt (t :: r)) t = cnt r := by
  funext i
  unfold dn cnt
  rw [List.count_cons]
  by_cases e : i = t
  · subst e; simp
  · have : ¬ t = i := fun q => e q.symm
    simp [e, this]
theorem sz_cnt : ∀ (r : List Nat), (∀ t ∈ r, t < 6) → sz (cnt r) = r.length
  | [], _ => by
    have e : S 6 (cnt []) = S 6 (fun _ => 0) := S_congr fun i _ => rfl
    exact e.trans (S_zero 6)
  | t :: r, h => by
    have ht := h t (List.mem_cons_self ..)
    have c1 : 0 < cnt (t :: r) t := by unfold cnt; rw [List.count_cons]; simp
    have q := sz_dn ht c1
    rw [dn_cnt, sz_cnt r fun u hu => h u (List.mem_cons_of_mem _ hu)] at q
    rw [List.length_cons]; omega
theorem OkR.small : ∀ {r : List Nat} {h : Nat}, OkR h r → ∀ t ∈ r, t < 6
  | _ :: r, _, ⟨q1, _, q3⟩, t, ht => by
    rcases List.mem_cons.mp ht with e | e
    · rw [e]; exact q1
    · exact OkR.small q3 t e
theorem OkR.rd : ∀ {r : List Nat} {h : Nat}, OkR h r → Rd h (cnt r) r
  | [], h, _ => by
    have e : S 6 (cnt []) = S 6 (fun _ => 0) := S_congr fun i _ => rfl
    exact e.trans (S_zero 6)
  | t :: r, h, ⟨q1, q2, q3⟩ => by
    refine ⟨q1, ?_, q2, ?_⟩
    · unfold cnt; rw [List.count_cons]; simp
    · rw [dn_cnt]; exact q3.rd
theorem Rd.ok : ∀ {r : List Nat} {h : Nat} {c : Ct}, Rd h c r → OkR h r
  | [], _, _, _ => trivial
  | _ :: _, _, _, ⟨q1, _, q3, q4⟩ => ⟨q1, q3, q4.ok⟩
theorem zero_of_sz {c : Ct} (z : sz c = 0) {a : Nat} (h : a < 6) : c a = 0 := by
  have := S_le_term c h
  have e : S 6 c = 0 := z
  omega
theorem Rd.cnt : ∀ {r : List Nat} {h : Nat} {c : Ct}, Rd h c r → ∀ a, a < 6 → KM.cnt r a = c a
  | [], _, c, q, a, ha => by
    rw [zero_of_sz q ha]; rfl
  | t :: r, h, c, ⟨q1, q2, q3, q4⟩, a, ha => by
    have ih := Rd.cnt q4 a ha
    unfold KM.cnt at ih ⊢
    rw [List.count_cons, ih]
    unfold dn
    by_cases e : a = t
    · subst e
      rw [if_pos rfl]
      simp
      omega
    · rw [if_neg e]
      have : ¬ t = a := fun q => e q.symm
      simp [this]
theorem fw_congr {h : Nat} {c d : Ct} (e : ∀ i, i < 6 → c i = d i) {a : Nat} (ha : a < 6) : fw h c a = fw h d a := by
  unfold fw
  rw [e a ha]
  by_cases q : 0 < d a ∧ a ≤ h
  · rw [if_pos q, if_pos q]
    refine ways_congr fun i hi => ?_
    unfold dn
    rw [e i hi]
  · rw [if_neg q, if_neg q]
theorem Rd.congr : ∀ {r : List Nat} {h : Nat} {c d : Ct}, (∀ i, i < 6 → c i = d i) → Rd h c r → Rd h d r
  | [], _, c, d, e, q => by rw [show Rd _ d [] = (sz d = 0) from rfl, ← sz_congr e]; exact q
  | t :: r, h, c, d, e, ⟨q1, q2, q3, q4⟩ => ⟨q1, by rw [← e t q1]; exact q2, q3, q4.congr fun i hi => by unfold dn; rw [e i hi]⟩
theorem rank_congr : ∀ (r : List Nat) {h : Nat} {c d : Ct}, (∀ i, i < 6 → c i = d i) → (∀ t ∈ r, t < 6) → rank h c r = rank h d r
  | [], _, _, _, _, _ => rfl
  | t :: r, h, c, d, e, hs => by
    have ht := hs t (List.mem_cons_self ..)
    show S t (fw h c) + _ = S t (fw h d) + _
    rw [S_congr fun i hi => fw_congr e (show i < 6 by omega), rank_congr r (c := dn c t) (d := dn d t) (fun i hi => by unfold dn; rw [e i hi]) fun u hu => hs u (List.mem_cons_of_mem _ hu)]
/-! ### a row read to a place -/
def hh : Nat → List Nat → Nat
  | h, [] => h
  | h, t :: r => hh (h + 1 - t) r
def cc : Ct → List Nat → Ct
  | c, [] => c
  | c, t :: r => cc (dn c t) r
/-- a row that can be read so far, its tokens there -/
def PRd : Nat → Ct → List Nat → Prop
  | _, _, [] => True
  | h, c, t :: r => t < 6 ∧ 0 < c t ∧ t ≤ h ∧ PRd (h + 1 - t) (dn c t) r
theorem rank_append : ∀ (p s : List Nat) (h : Nat) (c : Ct), rank h c (p ++ s) = rank h c p + rank (hh h p) (cc c p) s
  | [], s, h, c => by show rank h c s = 0 + rank h c s; omega
  | t :: p, s, h, c => by
    show S t (fw h c) + rank _ _ (p ++ s) = (S t (fw h c) + rank _ _ p) + rank (hh _ p) (cc _ p) s
    rw [rank_append p s]; omega
theorem Rd_append : ∀ (p s : List Nat) (h : Nat) (c : Ct), Rd h c (p ++ s) ↔ PRd h c p ∧ Rd (hh h p) (cc c p) s
  | [], s, h, c => ⟨fun q => ⟨trivial, q⟩, fun q => q.2⟩
  | t :: p, s, h, c => by
    constructor
    · intro ⟨q1, q2, q3, q4⟩
      obtain ⟨a, b⟩ := (Rd_append p s _ _).mp q4
      exact ⟨⟨q1, q2, q3, a⟩, b⟩
    · intro ⟨⟨q1, q2, q3, a⟩, b⟩
      exact ⟨q1, q2, q3, (Rd_append p s _ _).mpr ⟨a, b⟩⟩
theorem PRd_snoc : ∀ (p : List Nat) (t h : Nat) (c : Ct), PRd h c p → t < 6 → 0 < cc c p t → t ≤ hh h p → PRd h c (p ++ [t])
  | [], t, h, c, _, q1, q2, q3 => ⟨q1, q2, q3, trivial⟩
  | u :: p, t, h, c, ⟨a, b, d, e⟩, q1, q2, q3 => ⟨a, b, d, PRd_snoc p t _ _ e q1 q2 q3⟩
theorem hh_snoc : ∀ (p : List Nat) (t h : Nat), hh h (p ++ [t]) = hh h p + 1 - t
  | [], _, _ => rfl
  | u :: p, t, h => hh_snoc p t _
theorem cc_snoc : ∀ (p : List Nat) (t : Nat) (c : Ct), cc c (p ++ [t]) = dn (cc c p) t
  | [], _, _ => rfl
  | u :: p, t, c => cc_snoc p t _
theorem rank_snoc (p : List Nat) (t h : Nat) (c : Ct) : rank h c (p ++ [t]) = rank h c p + S t (fw (hh h p) (cc c p)) := by
  rw [rank_append]; rfl
theorem sz_cc : ∀ (p : List Nat) (h : Nat) (c : Ct), PRd h c p → sz (cc c p) + p.length = sz c
  | [], _, _, _ => rfl
  | t :: p, h, c, ⟨a, b, _, e⟩ => by
    have := sz_dn a b
    have ih := sz_cc p _ _ e
    show sz (cc (dn c t) p) + (p.length + 1) = _
    omega
theorem hh_sum : ∀ (p : List Nat) (h : Nat) (c : Ct), PRd h c p → hh h p + p.sum = h + p.length
  | [], _, _, _ => rfl
  | t :: p, h, c, ⟨_, _, d, e⟩ => by
    have ih := hh_sum p _ _ e
    show hh (h + 1 - t) p + (t :: p).sum = _
    rw [List.sum_cons, List.length_cons]
    omega
theorem PRd.of_prefix {p s : List Nat} {h : Nat} {c : Ct} (q : Rd h c (p ++ s)) : PRd h c p := ((Rd_append p s h c).mp q).1
/-- all tokens read: the row itself -/
theorem Rd.of_done {p : List Nat} {h : Nat} {c : Ct} (q : PRd h c p) (z : sz (cc c p) = 0) : Rd h c p := by
  have := (Rd_append p [] h c).mpr ⟨q, z⟩
  rw [List.append_nil] at this
  exact this
/-- the balance along a row -/
theorem bal_dn {h : Nat} {c : Ct} {a : Nat} (ha : a < 6) (h0 : 0 < c a) (hl : a ≤ h) : ((h + 1 - a : Nat) : Int) + sz (dn c a) - wt (dn c a) = (h : Int) + sz c - wt c := by
  have h1 := sz_dn ha h0
  have h2 := wt_dn ha h0
  omega
end KM
end PartKRank

section PartKRules
/-! rules that the layer lacks: sum, count, enumerate, a turned pair of tuples; set of a list of ints -/
namespace KR
open PySem PySem.Spec PyProof.Rows L2
section
variable {X : Cx}
/-! ### sum(t), t a tuple of ints -/
theorem sum_tup {prog : Program} {w : World} {A : Around} {E : Value → Shared → Prop} {s : Shared} {l : Addr} {its : List Value} {ns : List Int} {Q : Value → Shared → Prop} (hh : A.handled = none) (hl : s.heap.IsTuple l its.toArray) (hi : IntsAre its ns)
    (h : ∀ h' tk t', (∀ b o, s.heap.get? b = some o → h'.get? b = some o) → Q (.int ns.sum t') { s with heap := h', toks := tk }) : wpAny (model prog w) A (call (.builtin "sum") [.ref l]) Q E s := by
  obtain ⟨xs, e⟩ := hi.allInts.items
  have hn : numsOf (intItems xs).toList = ns := by rw [← e]; exact hi.numsOf
  rw [nums_intItems] at hn
  rw [e] at hl
  refine call_sum_walkG (wpAny_pyIter_tuple hl ?_)
  have hlt : l < s.heap.objs.size := by obtain ⟨o, ho, _⟩ := hl; exact Heap.lt_size ho
  have hne : l ≠ s.heap.objs.size := Nat.ne_of_lt hlt
  refine ⟨_, _, _, _, _, _, numAt xs, rfl, Walks.tuple (A := A.in1) hh s.heap.objs.size l hne (intItems xs), ⟨⟨_, Heap.get?_push_size _ rfl, rfl, rfl⟩, hl.push _⟩, fun b hb => ?_, fun _ _ => intItems_at, fun h' tk t' hk => ?_⟩
  · have hz : (s.heap.push { cls := .type "tuple_iterator", data := .fields #[.ref l, .int 0 0] }).objs.size = s.heap.objs.size + 1 := Heap.size_push ..
    have e : b = s.heap.objs.size ∨ b = l := by simpa using hb
    show b < (s.heap.push _).objs.size
    rw [hz]
    rcases e with z | z
    · rw [z]; exact Nat.lt_succ_self _
    · rw [z]; exact Nat.lt_succ_of_lt hlt
  · have q := h h' tk t' fun b o e => hk b o (fun z => by
      have z' : b = s.heap.objs.size := by simpa using z
      exact Nat.ne_of_lt (Heap.lt_size e) z') (Heap.get?_push_of_some _ e)
    rw [← hn, ← show preSum (numAt xs) xs.size = (xs.toList.map (·.1)).sum from by rw [preSum_eq, List.take_of_length_le (by simp)]] at q
    simpa [intItems] using q
def rSumT (K : PySem.W.Frag) : List V → Hp → VK → Prop := fun vs H Q => ∃ (a : Addr) (ns : List Int), vs = [V.ref a] ∧ SqT K H a (ns.map V.int) ∧ Q (.int ns.sum) H
theorem cr_sumT (hc : X.calm = true) : CallR X (.builtin "sum") (rSumT X.K) := by
  intro pins s σ H vs us Q I r h
  obtain ⟨a, ns, rfl, hs, q⟩ := h
  obtain ⟨its, rv, hl, _⟩ := I.tuple hs
  rw [Vals.ref1 r]
  exact sum_tup (I.ok.hd hc) hl rv.ints fun h' tk t' hk => ⟨.int _, H, I.kept hk, ⟨_, rfl⟩, q⟩
/-! ### t.count(k) -/
def rCntT (K : PySem.W.Frag) : V → List V → Hp → VK → Prop := fun x xs H Q => ∃ (p : Addr) (ns : List Int) (k : Int), x = .ref p ∧ xs = [.int k] ∧ SqT K H p (ns.map V.int) ∧ Q (.int (ns.count k : Nat)) H
theorem mt_tcount : MtR X "tuple.count" (rCntT X.K) := by
  intro pins s σ H x xs v us Q I rx rxs h
  obtain ⟨p, ns, k, rfl, rfl, hs, q⟩ := h
  cases rx
  obtain ⟨u, rfl, ru⟩ := rxs.one
  obtain ⟨t, rfl⟩ := ru
  obtain ⟨its, rv, ⟨⟨cls, dd, data, sl⟩, ho, hc, n, hd⟩, hlen⟩ := I.tuple hs
  simp only at hc hd
  subst hc hd
  have hi := ints_of_vals rv
  refine call_meets PySem.F.slot_tuple_count ⟨_, ho, rfl⟩ PySem.F.entry_tuple_count (PySem.F.args_tuple_count_2 _ _)
    (SeqAt.tuple_countAt p its.toArray n dd sl (.int k t) (eqk k)) ⟨ho, fun y hy => (eqk_gives hi y (by simpa using hy)).at _ _, ?_⟩
  have ec : its.toArray.toList.countP (eqk k) = ns.count k := eqk_count hi
  refine ⟨.int (ns.count k : Nat), H, I.tok _, ⟨s.toks, ?_⟩, q⟩
  show Value.int ((its.toArray.toList.countP (eqk k) : Nat) : Int) s.toks = Value.int ((ns.count k : Nat) : Int) s.toks
  rw [ec]
end

/-! ### for i, x in enumerate(t), t a tuple -/
theorem next_tenum_end {prog : Program} {w : World} {A : Around} {E : Value → Shared → Prop} {s : Shared} {e it l : Addr} {i : Nat} {items : Array Value} {old : Value} {c : Int} {Q : Option Value → Shared → Prop} (hh : A.in1.handled = none)
    (he : IsEnum s.heap e it c old) (hit : s.heap.IsTupleIter it l i) (hl : s.heap.IsTuple l items) (hx : items[i]? = none)
    (hQ : ∀ h', Heap.ExtBut it s.heap h' → Q none { s with heap := h' }) : wpAny (model prog w) A (pyNext (.ref e)) Q E s := by
  have tyE : s.TypeIs (.ref e) "enumerate" := ⟨_, he, rfl⟩
  unfold pyNext
  refine wpAny_bind (wpAny_attempt (wpAny_callSpecial?_slot (name := Str.ofString "__next__") tyE F.slot_enumerate_next (wpAny_call_entry F.slot_enumerate_next tyE F.entry_enumerate_next ?_ (F.args_enumerate_next_1 _))))
  show wpAny _ _ (field (.ref e) 2 >>= _) _ _ _
  refine wpAny_bind (wpAny_field he rfl (x := .ref it) rfl (wpAny_bind (wpAny_nextOf_tuple_end hh hit hl hx fun h' x he' hx' => ?_)))
  obtain ⟨o, ho, hc⟩ := hx'
  exact wpAny_bind (wpAny_isInstance (T := "StopIteration") (b := true) ⟨o, ho, hc⟩ isSubtype_stop (wpAny_pure (hQ _ he')))
def IteT (K : PySem.W.Frag) (a : Addr) : It :=
  ⟨fun i H => ∃ (xs : List V) (x : V), SqT K H a xs ∧ xs[i]? = some x, fun i H v H' => ∃ T x, v = .ref T ∧ H T = none ∧ H' = upd H T (.tup [.int (i : Nat), x]) ∧ ∀ xs, SqT K H a xs → xs[i]? = some x, fun i H => ∃ xs : List V, SqT K H a xs ∧ xs.length ≤ i⟩
theorem turn_enumT {P : Program} {w : World} {K : PySem.W.Frag} {elts : List Expr} {kk : Nat} {tpos : Pos} (a e it : Addr) :
    Turn P w K (.Tuple elts kk tpos) (IteT K a) [e, it] e (fun i h => (∃ old, IsEnum h e it ((i : Nat) : Int) old) ∧ h.IsTupleIter it a i ∧ e ≠ it ∧ a ≠ it ∧ a ≠ e) where
  mem := by simp
  obj := fun i h st b hb => by
    obtain ⟨⟨old, he⟩, ⟨o, ho, hc, hd⟩, _⟩ := st
    have e' : b = e ∨ b = it := by simpa using hb
    rcases e' with z | z
    · rw [z]; exact ⟨_, he, fun v q => nomatch q⟩
    · rw [z]; exact ⟨o, ho, fun v q => by rw [hd] at q; cases q⟩
  keep := fun i h h' st k => let ⟨⟨old, he⟩, hi, hne⟩ := st; ⟨⟨old, k e (by simp) _ he⟩, hi.at fun o q => k it (by simp) o q, hne⟩
  item := by
    intro X hP hw hK hc i pins s σ H E I hf st hg
    subst hP hw hK
    obtain ⟨⟨old, he⟩, hit, hne, hai, hae⟩ := st
    obtain ⟨xs, x, hq, hx⟩ := hg
    obtain ⟨its, rv, p, hz⟩ := I.tuple hq
    obtain ⟨u, hu, ru⟩ := rv.get hx
    have hel : e < s.heap.objs.size := Heap.lt_size he
    have hil : it < s.heap.objs.size := by obtain ⟨_, q, _⟩ := hit; exact Heap.lt_size q
    have hh : X.A.in1.handled = none := I.ok.hd hc
    have D := Draws.tuple (prog := X.prog) (w := X.w) (A := X.A.in1) hh it a hai its.toArray
    have hlt : i < its.toArray.size := by rw [List.size_toArray]; exact (List.getElem?_eq_some_iff.mp hu).1
    refine wpAny_pyNext_enum_itemC D he ⟨hit, p⟩ hlt hne (by simp [hne, Ne.symm hae]) fun y h' tk hy ho hst hT hsz hk => ?_
    have ey : y = u := by
      have q : its[i]? = some y := by simpa using hy
      rw [hu] at q
      exact (Option.some.inj q).symm
    subst ey
    refine ⟨_, rfl, wpAny_letOwnedTupleGo_enum (s := { s with heap := h', toks := tk + 1 }) ho fun h'' he' sb => ?_⟩
    have hT2 : h''.get? s.heap.objs.size = some { cls := .type "tuple", data := .seq #[.int i tk, y] } := (sb.2 _ (Nat.ne_of_gt hel)).trans hT
    have new : ObjOk X.prog X.w (upd H s.heap.objs.size (.tup [.int (i : Nat), x])) h'' s.heap.objs.size (.tup [.int (i : Nat), x]) :=
      ⟨by show 2 ≤ sizeLine; decide, [.int i tk, y], .cons ⟨_, rfl⟩ (.cons ru .nil), ⟨_, hT2, rfl, _, rfl⟩⟩
    have I1 : L2.Inv X pins σ (upd H s.heap.objs.size (.tup [.int (i : Nat), x])) { s with heap := h'', toks := tk + 1 } :=
      I.turnedNew (ch := [e, it]) (fun b ob hb q => (sb.2 b (fun z => hb (by simp [z]))).trans (hk b ob (fun z => hb (by simp [z])) (fun z => hb (by simp [z])) q)) hf (Nat.le_refl _) new
    refine ⟨.ref s.heap.objs.size, _, I1, rfl, ⟨_, x, rfl, I.hok.fresh (Nat.le_refl _), rfl, fun ys hy => by rw [I.tuple_inj hy hq]; exact hx⟩, ⟨⟨y, ?_⟩, hst.1.at fun o q => (sb.2 it (Ne.symm hne)).trans q, hne, hai, hae⟩, fun b hb => ?_⟩
    · have e1 : ((i + 1 : Nat) : Int) = (i : Int) + 1 := by omega
      rw [e1]; exact he'
    · have hb' : b < s.heap.objs.size := by
        have e' : b = e ∨ b = it := by simpa using hb
        rcases e' with z | z
        · rw [z]; exact hel
        · rw [z]; exact hil
      rw [upd_ne (Nat.ne_of_lt hb')]
      exact (hf b hb).1
  done := by
    intro X hP hw hK hc i pins s σ H E I hf st hg
    subst hP hw hK
    obtain ⟨⟨old, he⟩, hit, hne, hai, hae⟩ := st
    obtain ⟨xs, hq, hx⟩ := hg
    obtain ⟨its, rv, p, hz⟩ := I.tuple hq
    obtain ⟨f0, f1, f2, f3, f4, f5⟩ := hf it (by simp)
    have hl := rv.length
    have hh : X.A.in1.handled = none := I.ok.hd hc
    exact next_tenum_end hh he hit p (by simp; omega) fun h' eb => ⟨rfl, I.turned (t' := s.toks) (fun b o hb q => eb b o hb q) f0 f1 f3 f4 f5⟩
  self := fun A i s Q E st h => let ⟨⟨_, he⟩, _⟩ := st; wpAny_pyIter_enum he h
def iEnumT (K : PySem.W.Frag) (ta : TA) : TI := fun σ H R => ta σ H fun vs H1 => ∃ a xs, vs = [.ref a] ∧ SqT K H1 a xs ∧ R (IteT K a) H1
theorem pi_enumT {X : Cx} {e : Expr} {ta : TA} {p pos tpos : Pos} {elts : List Expr} {kk : Nat} (hg : Gl X "enumerate") (hm : X.mg "enumerate" = none) (ha : PA X [e] ta) (hs : starEach [e] X.env = [(false, eval e X.env)] := by rfl) :
    PI X (.Tuple elts kk tpos) (.Call (.Name "enumerate" p) [e] [] pos) (iEnumT X.K ta) := by
  refine ⟨fun pins s σ H R I h => ?_⟩
  refine Call_ (ld_blt I hg hm boot_enumerate (PyProof.Rows.callWith_type1 (thn (ha.run pos pins s σ H _ I h) fun us s1 ⟨vs, H1, I1, r1, q1⟩ => ?_) hs rfl))
  obtain ⟨a, xs, ex, hq, q⟩ := q1
  subst ex
  cases r1 with
  | cons r rr =>
    cases rr
    cases r
    obtain ⟨its, rv, p', hz⟩ := I1.tuple hq
    have hal : a < s1.heap.objs.size := by obtain ⟨o, ho, _⟩ := id p'; exact Heap.lt_size ho
    refine KEn.call_enumerate_tup p' fun h' he hit hsz hk => wpAny_pyIter_enum he ?_
    have I2 : L2.Inv X pins σ H1 { s1 with heap := h' } := I1.kept (t' := s1.toks) hk
    refine ⟨s1.heap.objs.size + 1, [s1.heap.objs.size + 1, s1.heap.objs.size], _, _, H1, rfl, I2, turn_enumT a (s1.heap.objs.size + 1) s1.heap.objs.size, ⟨⟨.none, he⟩, hit, Nat.succ_ne_self _, Nat.ne_of_lt hal, Nat.ne_of_lt (Nat.lt_succ_of_lt hal)⟩, fun b hb => ?_, q⟩
    have e' : b = s1.heap.objs.size + 1 ∨ b = s1.heap.objs.size := by simpa using hb
    have hle : s1.heap.objs.size ≤ b := by
      rcases e' with z | z
      · rw [z]; exact Nat.le_succ _
      · rw [z]; exact Nat.le_refl _
    exact I1.fpOk hle (I1.hok.fresh hle)
/-! ### (x, y)[::-1] -/
theorem getItem_pair_back {prog : Program} {w : World} {A : Around} {E : Value → Shared → Prop} {s : Shared} {t sl : Addr} {x y : Value} {k : Tok} {Q : Value → Shared → Prop} (ht : IsTup s.heap t #[x, y]) (hs : s.heap.IsSliceOf sl .none .none (.int (-1) k))
    (h : Q (.ref s.heap.objs.size) { s with heap := s.heap.push { cls := .type "tuple", data := .seq #[y, x] } }) : wpAny (model prog w) A (getItem (.ref t) (.ref sl)) Q E s := by
  obtain ⟨os, hos, hcs, hds⟩ := id hs
  have hTs : s.TypeIs (.ref sl) "slice" := ⟨os, hos, hcs⟩
  unfold getItem
  try with_reducible refine wpAny_holding ?_
  first | refine wpAny_bind (wpAny_pure ?_) | skip
  refine wpAny_bind (wpAny_sequenceKey ht.typeIs (by decide) ?_)
  refine wpAny_bind (wpAny_callSpecial?_slot (name := Str.ofString "__getitem__") ht.typeIs PyProof.Rows.slot_tuple_getitem
    (wpAny_call_entry PyProof.Rows.slot_tuple_getitem ht.typeIs entry_tuple_getitem ?_ (args_tuple_getitem _ _)))
  show wpAny _ _ (Builtin.Tuple.tupleItemsOf (.ref t) >>= _) _ _ s
  refine wpAny_bind (tupleItemsOf_ ht ?_)
  refine wpAny_bind (wpAny_typeOf hTs ?_)
  rw [if_pos (by decide)]
  have part : wpAny (model prog w) A.in1 (Builtin.Slice.sliceApplied (.ref sl) (pure (2 : Int))) (fun r s' => r = ((1 : Int), (-1 : Int), 2) ∧ s' = s) E s := by
    unfold Builtin.Slice.sliceApplied Builtin.Slice.sliceFields
    refine wpAny_bind (wpAny_bind (wpAny_field hos hds (x := .none) rfl (wpAny_bind (wpAny_field hos hds (x := .none) rfl (wpAny_bind (wpAny_field hos hds (x := .int (-1) k) rfl (wpAny_pure ?_)))))))
    refine wpAny_bind (slicePart_int ?_)
    show wpAny _ _ (if ((-1 : Int) == 0) = true then _ else _) _ _ s
    rw [if_neg (by decide)]
    refine wpAny_bind (slicePart_none (wpAny_bind (slicePart_none (wpAny_bind (wpAny_pure ?_)))))
    exact wpAny_pure ⟨rfl, rfl⟩
  refine wpAny_bind (wpAny_mono part (fun r s' q => ?_) fun _ _ z => z)
  obtain ⟨rfl, rfl⟩ := q
  show wpAny _ _ (if ((1 : Int) == 0 && (-1 : Int) == 1 && (2 : Nat) == 2) = true then _ else _) _ _ s'
  rw [if_neg (by decide)]
  first
    | exact wpAny_bind (m := Builtin.Tuple.tupleExact _) (wpAny_newObj_type (wpAny_pure ⟨_, rfl, wpAny_pure h⟩) (by show 2 ≤ sizeLine; decide))
    | exact wpAny_bind (m := Builtin.Tuple.tupleExact _) (wpAny_newObj_type (wpAny_bind (wpAny_pure (wpAny_pure ⟨_, rfl, wpAny_pure h⟩))) (by show 2 ≤ sizeLine; decide))
    | exact wpAny_bind (wpAny_bind (m := Builtin.Tuple.tupleExact _) (wpAny_newObj_type (wpAny_pure (wpAny_pure ⟨_, rfl, wpAny_pure h⟩)) (by show 2 ≤ sizeLine; decide)))
    | exact wpAny_bind (wpAny_bind (m := Builtin.Tuple.tupleExact _) (wpAny_newObj_type (wpAny_pure ⟨_, rfl, wpAny_pure h⟩) (by show 2 ≤ sizeLine; decide)))
section
variable {X : Cx}
end
end KR
end PartKRules

section PartKSet
/-! set(xs) of a list of ints, tracked so that sorted serves it -/
namespace KR
open PySem PySem.Spec PyProof.Rows L2
/-- the object that set() lays -/
abbrev newSet (w : World) : Obj := { cls := .type "set", dict := none, data := .set #[] 0 (.fresh 0 0 (!w.params.followText "set-order")) }
section
variable {P : Program} {w : World} {A : Around} {E : Value → Shared → Prop} {s : Shared}
set_option maxHeartbeats 3200000 in
theorem call_set_listI {l : Addr} {items : Array Value} (ns : List Int) {Q : Value → Shared → Prop} (hh : A.handled = none) (hl : s.heap.IsList l items) (hit : IntsAre items.toList ns) (hb : ns.length + 1 < scanBound)
    (h : ∀ (h' : Heap) (tk c : Nat), SetR w h' s.heap.objs.size (fun j => decide (j ∈ ns)) c → c ≤ ns.length → (∀ b o, s.heap.get? b = some o → h'.get? b = some o) → Q (.ref s.heap.objs.size) { s with heap := h', toks := tk }) :
    wpAny (model P w) A (call (.type "set") [.ref l]) Q E s := by
  have hisz : items.size = ns.length := by
    have q := IntsAre.length hit
    rw [Array.length_toList] at q
    exact q
  obtain ⟨c, tl, hmro⟩ := F.called_set.mro
  have hmade := F.called_set.made
  have hsub := F.called_set.sub
  refine wpAny_call (codeAny_of_tree ?_)
  show wpAny _ _ (callAny (.type "set") _) _ _ _
  refine wpAny_pure ⟨Code.quiet_builtin _ (by decide +kernel), codeAny_builtin F.entry_type_call ?_⟩
  rw [Around.under_plain (weight_type_call_type "set" [.ref l] []) rfl]
  have h1 := F.called_set.notType
  have h2 := F.called_set.canCreate
  have hct := F.typeCall_set_1 (.ref l)
  repeat (any_goals (first | assumption | wp_step))
  refine codeAny_mono (code_set_led1 (.ref l) (E := E) (Q₁ := fun obj s₁ => obj = .ref s.heap.objs.size ∧ s₁ = { s with heap := s.heap.push (newSet w) }) ⟨rfl, rfl⟩) fun r s₁ hr => ?_
  cases r with
  | error e => exact hr
  | ok fl =>
    cases fl with
    | ret obj =>
      obtain ⟨rfl, rfl⟩ := hr
      have hS : (s.heap.push (newSet w)).get? s.heap.objs.size = some (newSet w) := Heap.get?_push_size _ rfl
      have hT : Shared.TypeIs { s with heap := s.heap.push (newSet w) } (.ref s.heap.objs.size) "set" := ⟨_, hS, rfl⟩
      have hli := F.called_set.init.lookup
      have hbi := F.called_set.init.bind (.ref s.heap.objs.size)
      repeat (any_goals (first | assumption | wp_step))
      refine codeAny_mono (codeAny_call_builtin (R := wants (fun r s₂ => r = .none ∧ ∃ h' tk c, s₂ = { s with heap := h', toks := tk } ∧ SetR w h' s.heap.objs.size (fun j => decide (j ∈ ns)) c ∧ c ≤ ns.length ∧
          (∀ b o, s.heap.get? b = some o → h'.get? b = some o)) E) F.called_set.init.plain F.entry_set_init (check_set_init_1 hT ?_)) fun r₂ s₂ hr₂ => ?_
      · obtain ⟨⟨ocls, odict, odata, oslots⟩, hol, hcl, nl, hdl⟩ := hl
        simp only at hcl hdl
        subst hcl; subst hdl
        have hol' : (s.heap.push (newSet w)).get? l = some { cls := .type "list", dict := odict, data := .seq items nl, slots := oslots } := Heap.get?_push_of_some _ hol
        have hsls := F.sub_list_set
        have hslf := F.sub_list_frozenset
        have hne : (Value.type "list" == Value.type "dict") = false := by decide
        have hl1 : (s.heap.push (newSet w)).IsList l items := ⟨_, hol', rfl, nl, rfl⟩
        unfold Builtin.«set.__init__» noKeywords Builtin.Frozenset.updateFrom
        generalize hPI : pyIter = PI
        wp_walk
        subst hPI
        refine wpAny_pyIter_list hl1 (wpAny_bind (wpAny_runValue ?_))
        have hlS : l < s.heap.objs.size := Heap.lt_size hol
        have hh3 : A.in1.in1.in1.handled = none := by simp [hh]
        have hz1 : (s.heap.push (newSet w)).objs.size = s.heap.objs.size + 1 := Heap.size_push ..
        have hneI : l ≠ (s.heap.push (newSet w)).objs.size := by rw [hz1]; exact Nat.ne_of_lt (Nat.lt_succ_of_lt hlS)
        have hSf : s.heap.objs.size ∉ [(s.heap.push (newSet w)).objs.size, l] := by
          rw [hz1]; simp only [List.mem_cons, List.mem_singleton, List.not_mem_nil, or_false, not_or]
          exact ⟨Nat.ne_of_lt (Nat.lt_succ_self _), Nat.ne_of_gt hlS⟩
        have hval : ∀ (i : Nat) (v : Value), items[i]? = some v → ∃ k t, ns[i]? = some k ∧ v = .int k t := fun i v hv => by
          have hi : i < ns.length := by rw [← hisz]; exact (Array.getElem?_eq_some_iff.mp hv).1
          obtain ⟨t, e⟩ := PyProof.Rows.IntsAre.int_at hit i v (by rw [Array.getElem?_toList]; exact hv)
          refine ⟨ns[i], t, List.getElem?_eq_getElem hi, ?_⟩
          rw [e, List.getD_eq_getElem?_getD, List.getElem?_eq_getElem hi] <;> rfl
        refine set_update_ints ((Walks.list hh3 _ l hneI items).toS) s.heap.objs.size hSf ns hisz hb hval (items.size - 0) 0 _ (by omega) (Nat.zero_le _) ⟨⟨_, Heap.get?_push_size _ rfl, rfl, rfl⟩, (hl1.push _)⟩ ?hS0 ?hR
        case hS0 =>
          have hget : ((s.heap.push (newSet w)).push { cls := .type "list_iterator", data := .fields #[.ref l, .int 0 0] }).get? s.heap.objs.size = some (newSet w) := Heap.get?_push_of_some _ hS
          exact ⟨0, Nat.le_refl 0, setR_new_at hget⟩
        case hR =>
          intro s' c' hm hc' hS'
          obtain ⟨h', g2, d', tk', os'⟩ := s'
          have eg : g2 = s.gens := hm.gens
          have ed : d' = s.drawn := hm.drawn
          have eo : os' = s.os := hm.os
          subst eg; subst ed; subst eo
          show wpAny _ _ _ _ _ _
          refine wpAny_pure ?_
          show wpAny _ _ (ret Value.none) _ _ _
          rw [hisz] at hc'
          refine wpAny_pure ⟨rfl, h', tk', c', rfl, hS', hc', fun b o e => ?_⟩
          have hb0 : b < s.heap.objs.size := Heap.lt_size e
          refine hm.heap b o (fun q => ?_) (Heap.get?_push_of_some _ (Heap.get?_push_of_some _ e))
          have q' : b = s.heap.objs.size ∨ b = (s.heap.push (newSet w)).objs.size := by simpa using q
          rcases q' with z | z
          · exact Nat.ne_of_lt hb0 z
          · rw [hz1] at z; exact Nat.ne_of_lt (Nat.lt_succ_of_lt hb0) z
      · cases r₂ with
        | error e => exact hr₂
        | ok fl₂ =>
          cases fl₂ with
          | ret r =>
            obtain ⟨rfl, h', tk, c', rfl, hS', hc', hk'⟩ := hr₂
            repeat (any_goals (first | assumption | wp_step))
            exact h _ _ _ hS' hc' hk'
          | _ => exact hr₂.elim
    | _ => exact hr.elim
end
section
variable {X : Cx}
def rSetOfI (K : PySem.W.Frag) (w : World) : List V → Hp → VK → Prop := fun xs H Q => ∃ (l : Addr) (ns : List Int), xs = [V.ref l] ∧ SqL K H l (ns.map V.int) ∧ ns.length < 64 ∧
  ∀ a c, H a = none → c ≤ ns.length → Q (.ref a) (upd H a (SetO w a (fun j => decide (j ∈ ns)) c))
theorem cr_setOfI (hc : X.calm = true) : CallR X (.type "set") (rSetOfI X.K X.w) := by
  intro pins s σ H xs us Q I r h
  obtain ⟨l, ns, rfl, hl, hf, q⟩ := h
  rw [Vals.ref1 r]
  obtain ⟨its, rv, pl, hz⟩ := I.list hl
  have hn : H s.heap.objs.size = none := I.hok.fresh (Nat.le_refl _)
  refine call_set_listI (P := X.prog) (w := X.w) ns (I.ok.hd hc) pl.isList (by simpa using rv.ints) (by unfold scanBound; omega) fun h' tk c R hc' k => ?_
  exact ⟨.ref s.heap.objs.size, upd H s.heap.objs.size (SetO X.w s.heap.objs.size (fun j => decide (j ∈ ns)) c), I.laid (t' := tk) k (Nat.le_refl _) (setO_new R), rfl, q _ c hn hc'⟩
end
end KR
end PartKSet

section PartKFrz
/-! new tuples whose very object is known (so that their methods may be called) -/
namespace KR
open PySem PySem.Spec PyProof.Rows L2
/-- a tuple whose object has no dict -/
def NTup (H : Hp) (p : Addr) (xs : List V) : Prop := ∃ o : Obj, o.dict = none ∧ H p = some (.frz o (.tup xs))
theorem NTup.sq {K : PySem.W.Frag} {H : Hp} {p : Addr} {xs : List V} (h : NTup H p xs) : SqT K H p xs := by
  obtain ⟨o, _, e⟩ := h
  exact .inl (.inr ⟨o, e⟩)
theorem NTup.of {H : Hp} {p : Addr} {xs : List V} {o : Obj} (d : o.dict = none) : NTup (upd H p (.frz o (.tup xs))) p xs := ⟨o, d, upd_same⟩
section
variable {X : Cx}
theorem call_tuple_ofF : CallR X (.type "tuple") (fun xs H Q => ∃ p ys, xs = [.ref p] ∧ SqL X.K H p ys ∧ ∀ l o, H l = none → o.dict = none → Q (.ref l) (upd H l (.frz o (.tup ys)))) := by
  intro pins s σ H xs us Q I r h
  obtain ⟨p, ys, rfl, hq, q⟩ := h
  obtain ⟨u, rfl, rx⟩ := vals1 r
  cases rx
  obtain ⟨its, r', pl, hz⟩ := I.list hq
  have hlen := r'.length
  refine call_tuple_list pl.isList (fun h' kp => ?_) (by simp only [List.size_toArray] <;> omega)
  have I1 : Inv X pins σ H { s with heap := h' } := I.kept (t' := s.toks) kp
  have I2 : Inv X pins σ (upd H h'.objs.size (.frz { cls := .type "tuple", data := .seq its.toArray } (.tup ys))) { s with heap := h'.push { cls := .type "tuple", data := .seq its.toArray } } :=
    I1.laid (t' := s.toks) (fun b o e => Heap.get?_push_of_some _ e) (Nat.le_refl _) (show ObjOk X.prog X.w _ _ _ (.frz _ (.tup ys)) from ⟨Heap.get?_push_size _ rfl, hz, its, r', IsTup.new _ _⟩)
  exact ⟨.ref h'.objs.size, _, I2, rfl, q _ _ (I1.hok.fresh (Nat.le_refl _)) rfl⟩
/-- t + u -/
def rCatF (K : PySem.W.Frag) : R2 := fun x y H Q => ∃ a b xs ys, x = .ref a ∧ y = .ref b ∧ SqT K H a xs ∧ SqT K H b ys ∧ xs.length + ys.length ≤ sizeLine ∧
  (xs = [] → Q (.ref b) H) ∧ (xs ≠ [] → ys = [] → Q (.ref a) H) ∧ (xs ≠ [] → ys ≠ [] → ∀ p o, H p = none → o.dict = none → Q (.ref p) (upd H p (.frz o (.tup (xs ++ ys)))))
theorem op_catF : OpR X (binaryOp .Add) (rCatF X.K) := by
  intro pins s σ H x y v u Q I rx ry h
  obtain ⟨a, b, xs, ys, rfl, rfl, ha, hb, hz, q0, q1, q2⟩ := h
  by_cases hx : xs = []
  · subst hx
    cases rx
    cases ry
    obtain ⟨its, r1, p1, _⟩ := I.tuple ha
    obtain ⟨its2, r2, p2, _⟩ := I.tuple hb
    cases r1
    exact cat_tup0 p1 p2 ⟨.ref b, H, I, rfl, q0 rfl⟩
  · cases rx
    cases ry
    obtain ⟨its, r1, p1, _⟩ := I.tuple ha
    obtain ⟨its2, r2, p2, _⟩ := I.tuple hb
    refine HT.cat_tup p1 p2 (fun z => hx (r1.nil_iff.mp z)) (fun z => ⟨.ref a, H, I, rfl, q1 hx (r2.nil_iff.mp z)⟩) (fun z => ?_) (by rw [← r1.length, ← r2.length]; exact hz)
    refine ⟨.ref s.heap.objs.size, _, I.laid (t' := s.toks) (o := .frz { cls := .type "tuple", data := .seq (its ++ its2).toArray } (.tup (xs ++ ys))) (fun b ob q => Heap.get?_push_of_some _ q) (Nat.le_refl _) ?_, rfl, q2 hx (fun w => z (r2.nil_iff.mpr w)) _ _ (I.hok.fresh (Nat.le_refl _)) rfl⟩
    exact ⟨Heap.get?_push_size _ rfl, by rw [List.length_append]; exact hz, _, r1.append r2, IsTup.new _ _⟩
def tRev2F (K : PySem.W.Frag) (te : TE) : TE := fun σ H Q => te σ H fun x H1 => ∃ a y z, x = .ref a ∧ SqT K H1 a [y, z] ∧ ∀ p o, H1 p = none → o.dict = none → Q (.ref p) (upd H1 p (.frz o (.tup [z, y])))
theorem pe_rev2F {e : Expr} {te : TE} {k : Nat} {p1 p2 p3 pos : Pos} (he : PE X e te) : PE X (.Subscript e (.Slice none none (some (.UnaryOp .USub (.Constant (.int 1) k p1) p2)) p3) pos) (tRev2F X.K te) := by
  refine ⟨fun pins s σ H Q I h => ?_⟩
  refine Subscript_ (thn (he.run pins s σ H _ I h) fun v s1 ⟨x, H1, I1, r1, q1⟩ => ?_)
  obtain ⟨a, y, z, ex, hx, q⟩ := q1
  subst ex
  cases r1
  have minus : PO X (some (.UnaryOp .USub (.Constant (.int 1) k p1) p2)) (tPart (tUn (rU fun i => .int (-i)) (tC (.int 1)))) := po_some (pe_un un_neg pe_int)
  refine wpAny_Slice (thn (po_none.run pins s1 σ H1 (fun o H2 => o = none ∧ H2 = H1) I1 ⟨rfl, rfl⟩) fun vl s2 ⟨l, H2, I2, pl, el, e2⟩ => ?_)
  subst el e2
  refine thn (po_none.run pins s2 σ H2 (fun o H3 => o = none ∧ H3 = H2) I2 ⟨rfl, rfl⟩) fun vu s3 ⟨u, H3, I3, pu, eu, e3⟩ => ?_
  subst eu e3
  refine thn (minus.run pins s3 σ H3 (fun o H4 => o = some (-1) ∧ H4 = H3) I3 ⟨1, rfl, -1, rfl, rfl, rfl⟩) fun vs s4 ⟨o, H4, I4, ps, eo, e4⟩ => ?_
  subst eo e4
  cases pl
  cases pu
  cases ps with
  | int i t =>
  have I5 : L2.Inv X pins σ H4 { s4 with heap := s4.heap.push { cls := .type "slice", data := .fields #[.none, .none, .int (-1) t] } } := I4.kept (t' := s4.toks) fun b ob q => Heap.get?_push_of_some _ q
  obtain ⟨its, r, ht, hz⟩ := I5.tuple hx
  obtain ⟨u1, u2, rfl, r1, r2⟩ : ∃ u1 u2, its = [u1, u2] ∧ RelV y u1 ∧ RelV z u2 := by
    cases r with
    | cons a1 a2 =>
      cases a2 with
      | cons b1 b2 =>
        cases b2
        exact ⟨_, _, rfl, a1, b1⟩
  show wpAny (model X.prog X.w) X.A (subscriptTail e (.Slice none none (some (.UnaryOp .USub (.Constant (.int 1) k p1) p2)) p3) (.ref a) (.ref s4.heap.objs.size)) (EP X pins σ Q) X.xe { s4 with heap := s4.heap.push { cls := .type "slice", data := .fields #[.none, .none, .int (-1) t] } }
  refine tail_any (ops := [.ref a, .ref s4.heap.objs.size]) ht.typeIs PyProof.Rows.slot_tuple_getitem.lookup ?_ (by with_unfolding_all rfl)
  refine getItem_pair_back ht (Heap.IsSliceOf.new _ .none .none (.int (-1) t)) ?_
  refine ⟨.ref _, _, I5.laid (t' := s4.toks) (o := .frz { cls := .type "tuple", data := .seq #[u2, u1] } (.tup [z, y])) (fun b ob q => Heap.get?_push_of_some _ q) (Nat.le_refl _) ?_, rfl, q _ _ (I5.hok.fresh (Nat.le_refl _)) rfl⟩
  exact ⟨Heap.get?_push_size _ rfl, by show 2 ≤ sizeLine; decide, [u2, u1], .cons r2 (.cons r1 .nil), ⟨_, Heap.get?_push_size _ rfl, rfl, _, rfl⟩⟩
/-- t.m(e, ..), t a new tuple -/
def tBMT (r : V → List V → Hp → VK → Prop) (to : TE) (t : TA) : TE := fun σ H Q => to σ H fun x H1 => (∃ p xs, x = V.ref p ∧ NTup H1 p xs) ∧ t σ H1 fun vs H2 => r x vs H2 Q
theorem pe_bmT {name : Str} {id : String} {r : V → List V → Hp → VK → Prop} {o e : Expr} {to : TE} {t : TA} {apos cpos : Pos} (slot : Slot "tuple" name id) (hty : typeOf (.builtin id) = pure (.type "method_descriptor")) (hm : MtR X id r) (ho : PE X o to) (ha : PA X [e] t)
    (m : M1 X o name apos e cpos) (hs : starEach [e] X.env = [(false, eval e X.env)] := by rfl) : PE X (.Call (.Attribute o name apos) [e] [] cpos) (tBMT r to t) := by
  refine ⟨fun pins s σ H Q I h => wpAny_Call_method_late m.base m.few m.line rfl (thn (ho.run pins s σ H _ I h) fun v s1 ⟨x, H1, I1, r1, known, rest⟩ => ?_)⟩
  obtain ⟨p, xs, rfl, ob, bare, at_p⟩ := known
  obtain rfl : v = Value.ref p := r1
  obtain ⟨hob, _, its, rv, ob', hob', hc, _⟩ := I1.hok p _ at_p
  obtain rfl : ob' = ob := Option.some.inj (hob'.symm.trans hob)
  refine ⟨"tuple", id, PySem.F.plainAttrs_tuple, slot, hty, ⟨ob', hob, hc⟩, fun a e => ⟨ob', by cases e; exact hob, bare⟩, ?_⟩
  have args := ha.run cpos pins s1 σ H1 _ I1 rest
  rw [hs] at args ⊢
  exact Calls.callWith_builtin rfl (Calls.evalArgs_plain (thn args fun us s2 ⟨vs, H2, I2, r2, q2⟩ => hm pins s2 σ H2 (V.ref p) vs _ us Q I2 rfl r2 q2))
end
end KR
end PartKFrz

section PartKTop
/-! the text by places; the values of counts and rows -/
namespace KP
open PySem L2
def topS (i : Nat) : Stmt := PySem.Challenge.pw_ringpostfix_k49_whole_numbers_there_and.main.body.getD i (.Pass ⟨0, 0, 0, 0⟩)
abbrev sIsInt : Stmt := topS 6
abbrev sHeights : Stmt := topS 7
abbrev sNeed : Stmt := topS 8
abbrev sReady : Stmt := topS 10
abbrev sBalance : Stmt := topS 12
abbrev sRows : Stmt := topS 13
abbrev sCount : Stmt := topS 14
abbrev sTaken : Stmt := topS 15
abbrev sNext : Stmt := topS 16
abbrev sWays : Stmt := topS 17
abbrev sAt : Stmt := topS 18
abbrev sCounts : Stmt := topS 19
abbrev sIndex : Stmt := topS 20
abbrev sStream : Stmt := topS 22
abbrev sDraw : Stmt := topS 23
abbrev sMissing : Stmt := topS 24
abbrev sLReady : Stmt := topS 25
abbrev sCounted : Stmt := topS 26
abbrev sSwapped : Stmt := topS 27
abbrev sLaw : Stmt := topS 28
/-- a row's, a counts' values -/
def rl (r : List Nat) : List Int := r.map Int.ofNat
def cl (c : KM.Ct) : List Int := [(c 0 : Int), (c 1 : Int), (c 2 : Int), (c 3 : Int), (c 4 : Int), (c 5 : Int)]
theorem rl_len (r : List Nat) : (rl r).length = r.length := List.length_map _
theorem rl_get {r : List Nat} {i t : Nat} (h : r[i]? = some t) : (rl r)[i]? = some (t : Int) := by unfold rl; rw [List.getElem?_map, h]; rfl
/-- heaps -/
theorem same_new {H : Hp} {p : Addr} (h : H p = none) (o : HO) : Same H (upd H p o) := fun b u q => by rw [upd_ne (ne_of_none q h)]; exact q
theorem seqT {K : PySem.W.Frag} {H H' : Hp} {a : Addr} {xs : List V} (e : Same H H') (h : SqT K H a xs) : SqT K H' a xs := by
  rcases h with (z | ⟨o, z⟩) | z
  · exact .inl (.inl (e _ _ z))
  · exact .inl (.inr ⟨o, e _ _ z⟩)
  · exact .inr z
theorem nodupS {N P : List Str} {sc : Scope} (S : FnScope N P sc) : N.Nodup := S.nd
theorem naText : ∃ p1 p2 p3 p4 p5 p6 p7 p8 p9 p10 p11 p12 p13 p14 p15 p16 p17 p18 kk k2, KG.NaText sNext (KG.naBody p1 p2 p3 p4 p5 p6 p7 p8 p9 p10 p11 p12 p13 p14 p15 p16 p17 p18 kk k2) :=
  ⟨_, _, _, _, _, _, _, _, _, _, _, _, _, _, _, _, _, _, _, _, ⟨rfl, rfl, rfl, rfl, by decide +kernel, by decide +kernel, by decide +kernel, by decide +kernel, by decide +kernel, by decide +kernel⟩⟩
end KP
end PartKTop

section PartKData
/-! rows and lists of rows as data: == and != -/
namespace KP
open PySem L2
def tI (ns : List Int) : PyData := .tuple (ns.map PyData.int)
def lI (ns : List Int) : PyData := .list (ns.map PyData.int)
def lT (rs : List (List Int)) : PyData := .list (rs.map tI)
theorem can_ints : ∀ ns : List Int, PyData.canLayAll0 (ns.map PyData.int) = true
  | [] => by simp [PyData.canLayAll0]
  | n :: r => by rw [List.map_cons, PyData.canLayAll0, can_ints r]; simp [PyData.canLay0]
theorem dep_ints : ∀ ns : List Int, PyData.depthAll (ns.map PyData.int) = 0
  | [] => by simp [PyData.depthAll]
  | n :: r => by rw [List.map_cons, PyData.depthAll, dep_ints r]; simp [PyData.depth]
theorem shaped_tI (ns : List Int) : SeqAt.shaped (tI ns) = true := by
  unfold SeqAt.shaped tI
  rw [PyData.canLay0, can_ints, PyData.depth, dep_ints]; rfl
theorem shaped_lI (ns : List Int) : SeqAt.shaped (lI ns) = true := by
  unfold SeqAt.shaped lI
  rw [PyData.canLay0, can_ints, PyData.depth, dep_ints]; rfl
theorem can_tups : ∀ rs : List (List Int), PyData.canLayAll0 (rs.map tI) = true
  | [] => by simp [PyData.canLayAll0]
  | n :: r => by
    rw [List.map_cons, PyData.canLayAll0, can_tups r]
    unfold tI
    rw [PyData.canLay0, can_ints]; rfl
theorem dep_tups : ∀ rs : List (List Int), PyData.depthAll (rs.map tI) ≤ 1
  | [] => by simp [PyData.depthAll]
  | n :: r => by
    have ih := dep_tups r
    rw [List.map_cons, PyData.depthAll]
    have : (tI n).depth = 1 := by unfold tI; rw [PyData.depth, dep_ints]
    rw [this]
    omega
theorem shaped_lT (rs : List (List Int)) : SeqAt.shaped (lT rs) = true := by
  unfold SeqAt.shaped lT
  have := dep_tups rs
  rw [PyData.canLay0, can_tups, PyData.depth, decide_eq_true (by omega)]; rfl
theorem eqv_ints : ∀ a b : List Int, PyData.eqvAll (a.map PyData.int) (b.map PyData.int) = decide (a = b)
  | [], [] => by simp [PyData.eqvAll]
  | [], y :: b => by simp [PyData.eqvAll]
  | x :: a, [] => by simp [PyData.eqvAll]
  | x :: a, y :: b => by
    rw [List.map_cons, List.map_cons, PyData.eqvAll, eqv_ints a b]
    by_cases h1 : x = y <;> by_cases h2 : a = b <;> simp [PyData.eqv, h1, h2]
theorem eqv_tI (a b : List Int) : PyData.eqv (tI a) (tI b) = decide (a = b) := by
  unfold tI
  rw [PyData.eqv]
  exact eqv_ints a b
theorem eqv_lI (a b : List Int) : PyData.eqv (lI a) (lI b) = decide (a = b) := by
  unfold lI
  rw [PyData.eqv]
  exact eqv_ints a b
theorem eqv_tups : ∀ a b : List (List Int), PyData.eqvAll (a.map tI) (b.map tI) = decide (a = b)
  | [], [] => by simp [PyData.eqvAll]
  | [], y :: b => by simp [PyData.eqvAll]
  | x :: a, [] => by simp [PyData.eqvAll]
  | x :: a, y :: b => by
    rw [List.map_cons, List.map_cons, PyData.eqvAll, eqv_tups a b, eqv_tI]
    by_cases h1 : x = y <;> by_cases h2 : a = b <;> simp [h1, h2]
theorem eqv_lT (a b : List (List Int)) : PyData.eqv (lT a) (lT b) = decide (a = b) := by
  unfold lT
  rw [PyData.eqv]
  exact eqv_tups a b
section
variable {K : PySem.W.Frag} {H : Hp}
theorem dpAll_ints : ∀ ns : List Int, DpAll K H (ns.map V.int) (ns.map PyData.int)
  | [] => .nil
  | _ :: r => .cons (.int _) (dpAll_ints r)
theorem dp_tup {a : Addr} {ns : List Int} (h : SqT K H a (ns.map V.int)) : Dp K H (.ref a) (tI ns) := .tup h (dpAll_ints ns)
theorem dp_lst {a : Addr} {ns : List Int} (h : SqL K H a (ns.map V.int)) : Dp K H (.ref a) (lI ns) := .lst h (dpAll_ints ns)
theorem dpAll_tups : ∀ (ks : List (Addr × List Int)), (∀ p ∈ ks, SqT K H p.1 (p.2.map V.int)) → DpAll K H (ks.map fun p => V.ref p.1) ((ks.map (·.2)).map tI)
  | [], _ => .nil
  | p :: r, h => .cons (dp_tup (h p (List.mem_cons_self ..))) (dpAll_tups r fun q hq => h q (List.mem_cons_of_mem _ hq))
theorem dp_lstT {a : Addr} {ks : List (Addr × List Int)} (h : SqL K H a (ks.map fun p => V.ref p.1)) (hk : ∀ p ∈ ks, SqT K H p.1 (p.2.map V.int)) : Dp K H (.ref a) (lT (ks.map (·.2))) := .lst h (dpAll_tups ks hk)
end
end KP
end PartKData

section PartKW1
/-! is_integer, heights_of, need_of, is_ready -/
namespace KP
open PySem L2
/-! ### mathematics -/
/-- can be read from a height on -/
def RdH : Nat → List Nat → Prop
  | _, [] => True
  | h, t :: r => t ≤ h ∧ RdH (h + 1 - t) r
def hts : Int → List Int → List Int
  | _, [] => []
  | h, t :: r => (h + (1 - t)) :: hts (h + (1 - t)) r
theorem hts_len : ∀ (r : List Int) (h : Int), (hts h r).length = r.length
  | [], _ => rfl
  | _ :: r, h => by show (hts _ r).length + 1 = r.length + 1; rw [hts_len r]
def hgt (h : Int) : List Int → Int
  | [] => h
  | t :: r => hgt (h + (1 - t)) r
theorem hgt_snoc : ∀ (r : List Int) (h t : Int), hgt h (r ++ [t]) = hgt h r + (1 - t)
  | [], _, _ => rfl
  | _ :: r, h, t => hgt_snoc r _ t
theorem hts_snoc : ∀ (r : List Int) (h t : Int), hts h (r ++ [t]) = hts h r ++ [hgt h r + (1 - t)]
  | [], _, _ => rfl
  | u :: r, h, t => by show (h + (1 - u)) :: hts _ (r ++ [t]) = _; rw [hts_snoc r]; rfl
theorem take_snoc {r : List Int} {i : Nat} {t : Int} (h : r[i]? = some t) : r.take (i + 1) = r.take i ++ [t] := by
  rw [List.take_add_one, h]; rfl
theorem hts_pos : ∀ (r : List Nat) (h : Nat), RdH h r → ∀ x ∈ hts (h : Int) (rl r), 1 ≤ x
  | [], _, _, x, hx => by cases hx
  | t :: r, h, ⟨q1, q2⟩, x, hx => by
    have e : ((h : Int) + (1 - (t : Int))) = ((h + 1 - t : Nat) : Int) := by omega
    have hx' : x = (h : Int) + (1 - (t : Int)) ∨ x ∈ hts ((h : Int) + (1 - (t : Int))) (rl r) := List.mem_cons.mp hx
    rcases hx' with z | z
    · omega
    · rw [e] at z; exact hts_pos r _ q2 x z
theorem RdH.of_ok : ∀ {r : List Nat} {h : Nat}, KM.OkR h r → RdH h r
  | [], _, _ => trivial
  | _ :: _, _, ⟨_, q2, q3⟩ => ⟨q2, RdH.of_ok q3⟩
/-! ### promises -/
def spIsInt : Sp := fun vs H Q _ => ∃ v lo hi : Int, vs = [.int v, .int lo, .int hi] ∧ Q (.bl (decide (lo ≤ v ∧ v ≤ hi))) H
def spHeights (K : PySem.W.Frag) : Sp := fun vs H Q _ => ∃ (a : Addr) (ns : List Int), vs = [.ref a] ∧ SqT K H a (ns.map V.int) ∧ ns.length ≤ 1000 ∧
  ∀ H' p, Same H H' → H p = none → H' p = some (.tup ((hts 0 ns).map V.int)) → Q (.ref p) H'
def spNeed (K : PySem.W.Frag) : Sp := fun vs H Q _ => ∃ (a : Addr) (r : List Nat), vs = [.ref a] ∧ SqT K H a ((rl r).map V.int) ∧ r.length ≤ 1000 ∧ RdH 0 r ∧ ∀ H', Same H H' → Q (.int 0) H'
def spReady (K : PySem.W.Frag) : Sp := fun vs H Q _ => ∃ (a : Addr) (r : List Nat), vs = [.ref a] ∧ SqT K H a ((rl r).map V.int) ∧ r.length ≤ 1000 ∧ r ≠ [] ∧ RdH 0 r ∧ ∀ H', Same H H' → Q (.bl true) H'
section
variable {P : Program} {w : World} {K : PySem.W.Frag} {mg : Str → Option Value} {base : Heap} {f g : Addr} {fd gd : FuncData} {k : Nat}
theorem scIsInt : FnScope ["value", "low", "high"] ["value", "low", "high"] (defScope sIsInt) := ⟨rfl, rfl, rfl, by decide +kernel, rfl, by decide +kernel, by decide +kernel⟩
theorem scHeights : FnScope ["row", "found", "height", "arity"] ["row"] (defScope sHeights) := ⟨rfl, rfl, rfl, by decide +kernel, rfl, by decide +kernel, by decide +kernel⟩
theorem scNeed : FnScope ["row"] ["row"] (defScope sNeed) := ⟨rfl, rfl, rfl, by decide +kernel, rfl, by decide +kernel, by decide +kernel⟩
theorem scReady : FnScope ["row"] ["row"] (defScope sReady) := ⟨rfl, rfl, rfl, by decide +kernel, rfl, by decide +kernel, by decide +kernel⟩
theorem boot_isinstance' : bootBuiltins "isinstance" = some (.builtin "isinstance") := by decide +kernel
theorem boot_int' : bootBuiltins "int" = some (.type "int") := by decide +kernel
theorem boot_bool' : bootBuiltins "bool" = some (.type "bool") := by decide +kernel
theorem boot_tuple' : bootBuiltins "tuple" = some (.type "tuple") := by decide +kernel
theorem boot_list' : bootBuiltins "list" = some (.type "list") := by decide +kernel
theorem boot_min' : bootBuiltins "min" = some (.builtin "min") := by decide +kernel
theorem boot_max' : bootBuiltins "max" = some (.builtin "max") := by decide +kernel
theorem boot_sum' : bootBuiltins "sum" = some (.builtin "sum") := by decide +kernel

theorem ok_heights (F : Fun K "heights_of" "heights_of" sHeights f fd) (mt : mg "tuple" = none) : FnOk P w K mg base CX0 (k + 1) f fd ["row"] (spHeights K) := by
  refine F.ok scHeights (fun vs H Q E h => ?_) (fun cdv A outer s H vs Q E hr h => ?_)
  · obtain ⟨a, ns, rfl, _⟩ := h
    rfl
  obtain ⟨a, ns, rfl, hS, hlen, q⟩ := h
  refine ⟨_, pss_cons (ps_set (i := 1) scHeights.nd rfl (.inl rfl) (pe_lst pa_nil))
    (pss_cons (ps_set (i := 2) scHeights.nd rfl (.inl rfl) pe_int)
    (pss_cons (ps_for PassesOwn.never rfl (pi_tup (pv 0)) (pg_name (i := 3) scHeights.nd rfl (.inl rfl))
      (pss_cons (ps_aug (i := 2) scHeights.nd rfl (.inl rfl) (pe_op op_sub pe_int (pv 3)) ip_add)
      (pss_one (ps_expr (pe_bm PySem.F.plainAttrs_list PySem.F.slot_list_append PySem.F.type_list_append mt_append (pv 1) (pa_cons (pv 2) pa_nil))))))
    (pss_one (ps_ret (pe_callTy call_tuple_of (by rfl) mt boot_tuple' (pa_cons (pv 1) pa_nil)))))), ?_⟩
  refine ⟨Nat.zero_le _, fun o no => ?_⟩
  have s1 : Same H (upd H o (.lst [])) := same_new no _
  have hT1 : SqT K (upd H o (.lst [])) a (ns.map V.int) := seqT s1 hS
  refine ⟨.ref a, rfl, a, rfl, ⟨_, hT1⟩, ?_⟩
  refine for_tup (xs := ns.map V.int) (fun i σ H3 => ∃ y3, σ = [some (.ref a), some (.ref o), some (.int (hgt 0 (ns.take i))), y3] ∧ Same H H3 ∧ H3 o = some (.lst ((hts 0 (ns.take i)).map V.int)))
    ⟨none, rfl, s1, by rw [upd_same]; rfl⟩ (fun i σ H3 hi hp => ?_) (fun i x σ H3 hx hp => ?_) (fun σ H3 hp => ?_)
  · obtain ⟨_, _, sm, _⟩ := hp
    exact seqT sm hS
  · obtain ⟨y3, rfl, sm, eo⟩ := hp
    rw [List.getElem?_map] at hx
    obtain ⟨t, ht, rfl⟩ := Option.map_eq_some_iff.mp hx
    have hi : i < ns.length := (List.getElem?_eq_some_iff.mp ht).1
    refine ⟨_, rfl, .int t, rfl, 1, t, rfl, rfl, _, _, rfl, rfl, ?_⟩
    refine ⟨.ref o, rfl, .inl ⟨rfl, _, SqL.of eo⟩, _, rfl, o, _, _, rfl, rfl, eo, ?_, ?_⟩
    · rw [List.length_map, hts_len, List.length_take]
      exact small1000 (by omega)
    · refine ⟨some (.int t), ?_, fun b u e => ?_, ?_⟩
      · rw [take_snoc ht, hgt_snoc]; rfl
      · have nb : b ≠ o := ne_of_none e no
        rw [upd_ne nb]
        exact sm _ _ e
      · rw [upd_same, take_snoc ht, hts_snoc, List.map_append]
        rfl
  · obtain ⟨y3, rfl, sm, eo⟩ := hp
    rw [List.length_map, List.take_length] at eo
    refine ⟨.ref o, rfl, o, _, rfl, .inl ⟨SqL.of eo, fun l hl => ?_⟩⟩
    refine q _ l (sm.trans (same_new hl _)) (sm.free hl) (by rw [upd_same])
theorem ok_isInt (F : Fun K "is_integer" "is_integer" sIsInt f fd) (mi : mg "isinstance" = none) (m1 : mg "int" = none) (m2 : mg "bool" = none) : FnOk P w K mg base CX0 (k + 1) f fd ["value", "low", "high"] spIsInt := by
  refine F.ok scIsInt (fun vs H Q E h => ?_) (fun cdv A outer s H vs Q E hr h => ?_)
  · obtain ⟨v, lo, hi, rfl, _⟩ := h
    rfl
  obtain ⟨v, lo, hi, rfl, q⟩ := h
  refine ⟨_, pss_one (ps_ret (pe_and (pe_callB call_isi (by rfl) mi boot_isinstance' (pa_cons (pv 0) (pa_cons (pe_bltn (v := .ty "int") (by rfl) m1 boot_int' rfl) pa_nil)))
    (pe_and (pe_not (pe_callB call_isi (by rfl) mi boot_isinstance' (pa_cons (pv 0) (pa_cons (pe_bltn (v := .ty "bool") (by rfl) m2 boot_bool' rfl) pa_nil))))
      (pe_one (pe_chain op_le op_le (pv 1) (pv 0) (pv 2)))))), ?_⟩
  refine ⟨_, rfl, _, _, .type "int", .type "int", true, rfl, .ty _, .base (.int _), kit_ty (by decide +kernel), true, rfl, iteT ?_⟩
  refine ⟨_, rfl, _, _, .type "int", .type "bool", false, rfl, .ty _, .base (.int _), kit_ty (by decide +kernel), false, rfl, true, rfl, iteT ?_⟩
  refine ⟨_, rfl, _, rfl, lo, v, rfl, rfl, decide (lo ≤ v), rfl, ?_⟩
  refine ite2 (fun e => ?_) (fun e => ?_)
  · have e' : lo ≤ v := of_decide_eq_true e
    refine ⟨_, rfl, v, hi, rfl, rfl, ?_⟩
    have e2 : (decide (v ≤ hi)) = decide (lo ≤ v ∧ v ≤ hi) := by
      by_cases z : v ≤ hi
      · rw [decide_eq_true z, decide_eq_true ⟨e', z⟩]
      · rw [decide_eq_false z, decide_eq_false fun q => z q.2]
    show Q (.bl (decide (v ≤ hi))) H
    rw [e2]
    exact q
  · have e' : ¬ lo ≤ v := of_decide_eq_false (Bool.eq_false_iff.mpr e)
    rw [decide_eq_false fun z => e' z.1] at q
    exact q
theorem ok_need (F : Fun K "need_of" "need_of" sNeed f fd) (FH : Fun K "heights_of" "heights_of" sHeights g gd) (bH : Binds K gd ["row"] []) (mH : mg "heights_of" = some (.ref g)) (mt : mg "tuple" = none) (mm : mg "min" = none) (ml : mg "list" = none) :
    FnOk P w K mg base CX0 (k + 2) f fd ["row"] (spNeed K) := by
  have GH : FnOk P w K mg base CX0 (k + 1) g gd ["row"] (spHeights K) := ok_heights FH mt
  refine F.ok scNeed (fun vs H Q E h => ?_) (fun cdv A outer s H vs Q E hr h => ?_)
  · obtain ⟨a, r, rfl, _⟩ := h
    rfl
  obtain ⟨a, r, rfl, hS, hlen, hrd, q⟩ := h
  refine ⟨_, pss_one (ps_ret (pe_op op_sub pe_int (pe_callB (cr_min rfl) (by rfl) mm boot_min' (pa_cons (pe_op op_cat (pe_lst (pa_cons pe_int pa_nil))
    (pe_callTy call_list_of (by rfl) ml boot_list' (pa_cons (pe_call GH hr rfl mH FH.kp bH .nil pass0 (pa_cons (pv 0) pa_nil)) pa_nil))) pa_nil)))), ?_⟩
  refine ⟨by show 1 ≤ sizeLine; decide, fun p hp => ?_⟩
  refine ⟨.ref a, rfl, a, rl r, rfl, seqT (same_new hp _) hS, by rw [rl_len]; exact hlen, fun H1 o s1 no eo => ?_⟩
  refine ⟨o, _, rfl, .inr (SqT.of eo), fun l hl => ?_⟩
  have s2 : Same (upd H p (.lst [.int 1])) (upd H1 l (.lst ((hts 0 (rl r)).map V.int))) := s1.trans (same_new hl _)
  refine ⟨p, l, [.int 1], _, rfl, rfl, s2 _ _ upd_same, upd_same, ?_, fun m hm => ?_⟩
  · rw [List.length_map, hts_len, rl_len]
    exact (by show 1 + r.length ≤ 16777216; omega)
  refine ⟨m, 1 :: hts 0 (rl r), rfl, SqL.of (by rw [upd_same]; rfl), Nat.succ_pos _, fun mn h1 h2 => ?_⟩
  have e : mn = 1 := by
    have le := h2 1 (List.mem_cons_self ..)
    rcases List.mem_cons.mp h1 with z | z
    · exact z
    · have := hts_pos r 0 hrd mn z; omega
  subst e
  refine ⟨1, 1, rfl, rfl, ?_⟩
  exact q _ ((same_new hp _).trans (s2.trans (same_new hm _)))
theorem ok_ready (F : Fun K "is_ready" "is_ready" sReady f fd) (GN : FnOk P w K mg base CX0 (k + 2) g gd ["row"] (spNeed K)) (kN : PySem.W.keepIn K (.ref g) = true) (bN : Binds K gd ["row"] []) (mN : mg "need_of" = some (.ref g)) :
    FnOk P w K mg base CX0 (k + 3) f fd ["row"] (spReady K) := by
  refine F.ok scReady (fun vs H Q E h => ?_) (fun cdv A outer s H vs Q E hr h => ?_)
  · obtain ⟨a, r, rfl, _⟩ := h
    rfl
  obtain ⟨a, r, rfl, hS, hlen, hne, hrd, q⟩ := h
  refine ⟨_, pss_one (ps_ret (pe_and (pe_cmpR (op_neD hr.units) (pv 0) (pe_tup pa_nil) (nomark _))
    (pe_one (pe_cmpR op_eq (pe_call GN hr rfl mN kN bN .nil pass0 (pa_cons (pv 0) pa_nil)) pe_int (nomark _))))), ?_⟩
  refine ⟨.ref a, rfl, Nat.zero_le _, fun p hp => ?_⟩
  have s1 : Same H (upd H p (.tup [])) := same_new hp _
  refine ⟨tI (rl r), tI [], dp_tup (seqT s1 hS), dp_tup (SqT.of (by rw [upd_same]; rfl)), shaped_tI _, shaped_tI _, true, ?_, iteT ?_⟩
  · rw [eqv_tI, decide_eq_false]
    · rfl
    · intro e
      cases r with
      | nil => exact hne rfl
      | cons _ _ => cases e
  refine ⟨.ref a, rfl, a, r, rfl, seqT s1 hS, hlen, hrd, fun H1 s2 => ?_⟩
  refine ⟨rfl, ?_⟩
  exact q _ (s1.trans s2)
end
end KP
end PartKW1

section PartKW2
/-! taken_from, counts_of, balance_of, count_rows, count_ready -/
namespace KP
open PySem L2
/-! ### mathematics -/
theorem cl_len (c : KM.Ct) : (cl c).length = 6 := rfl
theorem cl_get {c : KM.Ct} {t : Nat} (h : t < 6) : (cl c)[t]? = some (c t : Int) := by
  match t, h with
  | 0, _ => rfl
  | 1, _ => rfl
  | 2, _ => rfl
  | 3, _ => rfl
  | 4, _ => rfl
  | 5, _ => rfl
theorem cl_dn {c : KM.Ct} {t : Nat} (h : t < 6) (h0 : 0 < c t) : ((cl c).take t) ++ ((c t : Int) - 1) :: (cl c).drop (t + 1) = cl (KM.dn c t) := by
  have e : ((c t : Int) - 1) = (((c t - 1 : Nat)) : Int) := by omega
  rw [e]
  match t, h with
  | 0, _ => rfl
  | 1, _ => rfl
  | 2, _ => rfl
  | 3, _ => rfl
  | 4, _ => rfl
  | 5, _ => rfl
theorem cl_congr {c d : KM.Ct} (e : ∀ i, i < 6 → c i = d i) : cl c = cl d := by
  unfold cl
  rw [e 0 (by omega), e 1 (by omega), e 2 (by omega), e 3 (by omega), e 4 (by omega), e 5 (by omega)]
theorem cl_inj {c d : KM.Ct} (e : cl c = cl d) : ∀ i, i < 6 → c i = d i := fun i hi => by
  have q := cl_get (c := c) hi
  rw [e, cl_get hi] at q
  have := Option.some.inj q
  omega
theorem count_rl (r : List Nat) (a : Nat) : (rl r).count (a : Int) = r.count a := by
  unfold rl
  induction r with
  | nil => rfl
  | cons t r ih =>
    rw [List.map_cons, List.count_cons, List.count_cons, ih]
    by_cases e : t = a
    · subst e; simp
    · have z : ¬ (Int.ofNat t) = (a : Int) := fun q => e (Int.ofNat.inj q)
      have z1 : ((Int.ofNat t) == (a : Int)) = false := beq_eq_false_iff_ne.mpr z
      have z2 : (t == a) = false := beq_eq_false_iff_ne.mpr e
      rw [z1, z2]
theorem cl_sum (c : KM.Ct) : (cl c).sum = (KM.sz c : Int) := by
  show (c 0 : Int) + (c 1 + (c 2 + (c 3 + (c 4 + (c 5 + 0))))) = ((((((((0 + c 0) + c 1) + c 2) + c 3) + c 4) + c 5 : Nat)) : Int)
  omega
theorem rows_le (c : KM.Ct) (n j : Nat) : KM.rows n c * KM.choose (KM.S n c + j) j ≤ KM.fact (KM.S n c + j) := by
  have h1 := KM.rows_fact n c
  have h2 := KM.choose_fact (KM.S n c) j
  have p1 := KM.pf_pos n c
  have p2 := KM.fact_pos j
  have a1 : KM.rows n c ≤ KM.fact (KM.S n c) := by rw [← h1]; exact Nat.le_mul_of_pos_right _ p1
  have a2 : KM.choose (KM.S n c + j) j * KM.fact (KM.S n c) ≤ KM.fact (KM.S n c + j) := by
    rw [← h2, Nat.mul_assoc, Nat.mul_comm (KM.fact j), ← Nat.mul_assoc]
    exact Nat.le_mul_of_pos_right _ p2
  exact Nat.le_trans (Nat.mul_le_mul_right _ a1) (by rw [Nat.mul_comm]; exact a2)
theorem fact_mono : ∀ {n m : Nat}, n ≤ m → KM.fact n ≤ KM.fact m := by
  intro n m h
  induction m with
  | zero => have : n = 0 := by omega
            subst this; exact Nat.le_refl _
  | succ m ih =>
    by_cases e : n = m + 1
    · subst e; exact Nat.le_refl _
    · exact Nat.le_trans (ih (by omega)) (Nat.le_mul_of_pos_left _ (Nat.succ_pos _))
theorem choose_step (R s j : Nat) : ((R * KM.choose (s + j) j : Nat) : Int) * (((s + j : Nat) : Int) + 1) = ((R * KM.choose (s + (j + 1)) (j + 1) : Nat) : Int) * ((j : Int) + 1) := by
  have q := KM.choose_succ (s + j) j
  have e : R * KM.choose (s + j) j * (s + j + 1) = R * KM.choose (s + (j + 1)) (j + 1) * (j + 1) := by
    rw [Nat.mul_assoc, ← q, ← Nat.mul_assoc]; rfl
  have := congrArg (Int.ofNat) e
  simpa using this
theorem nT {H H' : Hp} {a : Addr} {xs : List V} (e : Same H H') (h : KR.NTup H a xs) : KR.NTup H' a xs := by
  obtain ⟨o, d, z⟩ := h
  exact ⟨o, d, e _ _ z⟩
/-! ### promises -/
def spTaken (K : PySem.W.Frag) : Sp := fun vs H Q _ => ∃ (a : Addr) (c : KM.Ct) (t : Nat), vs = [.ref a, .int t] ∧ SqT K H a ((cl c).map V.int) ∧ t < 6 ∧ 0 < c t ∧
  ∀ H' p, Same H H' → H p = none → H' p = some (.tup ((cl (KM.dn c t)).map V.int)) → Q (.ref p) H'
def spCounts : Sp := fun vs H Q _ => ∃ (a : Addr) (r : List Nat), vs = [.ref a] ∧ KR.NTup H a ((rl r).map V.int) ∧
  ∀ H' p, Same H H' → H p = none → H' p = some (.tup ((cl (KM.cnt r)).map V.int)) → Q (.ref p) H'
def spBalance (K : PySem.W.Frag) : Sp := fun vs H Q _ => ∃ (a : Addr) (c : KM.Ct), vs = [.ref a] ∧ SqT K H a ((cl c).map V.int) ∧ KM.sz c ≤ 10 ∧ ∀ H', Same H H' → Q (.int ((KM.sz c : Int) - KM.wt c)) H'
def spRows (K : PySem.W.Frag) : Sp := fun vs H Q _ => ∃ (a : Addr) (c : KM.Ct), vs = [.ref a] ∧ SqT K H a ((cl c).map V.int) ∧ KM.sz c ≤ 10 ∧ ∀ H', Same H H' → Q (.int (KM.rows 6 c : Nat)) H'
def spCount (K : PySem.W.Frag) : Sp := fun vs H Q _ => ∃ (a : Addr) (c : KM.Ct), vs = [.ref a] ∧ SqT K H a ((cl c).map V.int) ∧ 0 < KM.sz c ∧ KM.sz c ≤ 10 ∧ ∀ H', Same H H' → Q (.int (KM.ways 0 c : Nat)) H'
section
variable {P : Program} {w : World} {K : PySem.W.Frag} {mg : Str → Option Value} {base : Heap} {f g : Addr} {fd gd : FuncData} {k : Nat}
theorem scTaken : FnScope ["counts", "arity"] ["counts", "arity"] (defScope sTaken) := ⟨rfl, rfl, rfl, by decide +kernel, rfl, by decide +kernel, by decide +kernel⟩
theorem scCounts : FnScope ["row", "arity"] ["row"] (defScope sCounts) := ⟨rfl, rfl, rfl, by decide +kernel, rfl, by decide +kernel, by decide +kernel⟩
theorem scBalance : FnScope ["counts", "arity", "many"] ["counts"] (defScope sBalance) := ⟨rfl, rfl, rfl, by decide +kernel, rfl, by decide +kernel, by decide +kernel⟩
theorem scRows : FnScope ["counts", "found", "size", "many", "step"] ["counts"] (defScope sRows) := ⟨rfl, rfl, rfl, by decide +kernel, rfl, by decide +kernel, by decide +kernel⟩
theorem scCount : FnScope ["counts"] ["counts"] (defScope sCount) := ⟨rfl, rfl, rfl, by decide +kernel, rfl, by decide +kernel, by decide +kernel⟩
theorem boot_enum' : bootBuiltins "enumerate" = some (.type "enumerate") := by decide +kernel
theorem boot_range' : bootBuiltins "range" = some (.type "range") := by decide +kernel

theorem ok_taken (F : Fun K "taken_from" "taken_from" sTaken f fd) : FnOk P w K mg base CX0 (k + 1) f fd ["counts", "arity"] (spTaken K) := by
  refine F.ok scTaken (fun vs H Q E h => ?_) (fun cdv A outer s H vs Q E hr h => ?_)
  · obtain ⟨a, c, t, rfl, _⟩ := h
    rfl
  obtain ⟨a, c, t, rfl, hS, ht, hc, q⟩ := h
  refine ⟨_, pss_one (ps_ret (pe_tup (StX.pa_star (pe_slice sl_tup (pv 0) po_none (po_some (pv 1))) (pa_cons (pe_op op_sub (pe_ix ix_tup (pv 0) (pv 1) (fun _ _ => rfl)) pe_int)
    (StX.pa_star (pe_slice sl_tup (pv 0) (po_some (pe_op op_add (pv 1) pe_int)) po_none) pa_nil))))), ?_⟩
  have e1 : HT.sIx 6 6 (some (t : Int)) = t := by rw [HT.sIx_nat]; omega
  have e2 : HT.sIx 6 0 (some ((t : Int) + 1)) = t + 1 := by
    have : ((t : Int) + 1) = ((t + 1 : Nat) : Int) := by omega
    rw [this, HT.sIx_nat]; omega
  have g1 : cutV ((cl c).map V.int) none (some (t : Int)) = ((cl c).take t).map V.int := by
    match t, ht with
    | 0, _ => rfl
    | 1, _ => rfl
    | 2, _ => rfl
    | 3, _ => rfl
    | 4, _ => rfl
    | 5, _ => rfl
  have g2 : cutV ((cl c).map V.int) (some ((t : Int) + 1)) none = ((cl c).drop (t + 1)).map V.int := by
    match t, ht with
    | 0, _ => rfl
    | 1, _ => rfl
    | 2, _ => rfl
    | 3, _ => rfl
    | 4, _ => rfl
    | 5, _ => rfl
  refine ⟨.ref a, rfl, .int (t : Int), rfl, (t : Int), rfl, a, _, rfl, hS, ?_, fun p hp => ?_⟩
  · rintro ⟨_, z⟩
    have z : HT.sIx 6 6 (some (t : Int)) = 6 := z
    rw [e1] at z
    omega
  have s1 : Same H (upd H p (.tup (cutV ((cl c).map V.int) none (some (t : Int))))) := same_new hp _
  refine ⟨p, _, rfl, .inl (SqT.of upd_same), ?_⟩
  refine ⟨.ref a, rfl, .int (t : Int), rfl, a, _, (t : Int), .int (c t : Int), rfl, rfl, seqT s1 hS, ?_, _, 1, rfl, rfl, ?_⟩
  · exact atI_nat (by rw [List.getElem?_map, cl_get ht]; rfl)
  refine ⟨.ref a, rfl, .int (t : Int), rfl, (t : Int), 1, rfl, rfl, _, rfl, a, _, rfl, seqT s1 hS, ?_, fun p2 hp2 => ?_⟩
  · rintro ⟨z, _⟩
    have z : HT.sIx 6 0 (some ((t : Int) + 1)) = 0 := z
    rw [e2] at z
    omega
  refine ⟨p2, _, rfl, .inl (SqT.of upd_same), ?_⟩
  have e : cutV ((cl c).map V.int) none (some (t : Int)) ++ (V.int ((c t : Int) - 1) :: (cutV ((cl c).map V.int) (some ((t : Int) + 1)) none ++ [])) = (cl (KM.dn c t)).map V.int := by
    rw [g1, g2, List.append_nil, ← cl_dn ht hc, List.map_append, List.map_cons]
  refine ⟨?_, fun p3 hp3 => ?_⟩
  · rw [e]
    show 6 ≤ sizeLine
    decide
  · rw [e]
    exact q _ p3 ((s1.trans (same_new hp2 _)).trans (same_new hp3 _)) (by
      by_cases z : p3 = p2
      · subst z; exact s1.free (by
          have := hp3
          rw [upd_same] at this; cases this)
      · rw [upd_ne z] at hp3
        exact s1.free hp3) upd_same
/-- enumerate of a tuple, as a walk -/
theorem walk_enumT {a : Addr} (xs : List V) : Walk (KR.IteT K a) xs.length (fun H => SqT K H a xs) (fun i H v H' => ∃ T x, v = .ref T ∧ H T = none ∧ H' = upd H T (.tup [.int (i : Nat), x]) ∧ xs[i]? = some x) where
  goes := fun i H hi h => ⟨xs, xs[i], h, List.getElem?_eq_getElem hi⟩
  stops := fun H h => ⟨xs, h, Nat.le_refl _⟩
  yields := fun i H x H' _ h ⟨T, z, e1, e2, e3, e4⟩ => ⟨T, z, e1, e2, e3, e4 xs h⟩
theorem ok_counts (F : Fun K "counts_of" "counts_of" sCounts f fd) (mt : mg "tuple" = none) (mr : mg "range" = none) {tk : Tok} (mA : mg "MAX_ARITY" = some (.int 5 tk)) : FnOk P w K mg base CX0 (k + 1) f fd ["row"] spCounts := by
  refine F.ok scCounts (fun vs H Q E h => ?_) (fun cdv A outer s H vs Q E hr h => ?_)
  · obtain ⟨a, r, rfl, _⟩ := h
    rfl
  obtain ⟨a, r, rfl, hS, q⟩ := h
  refine ⟨_, pss_one (ps_ret (pe_callTy call_tuple_of (by rfl) mt boot_tuple' (pa_cons (pe_lc rfl scCounts.nd
    (pi_range1 (by rfl) mr (pa_cons (pe_op op_add (pe_glob (v := .int 5) (by rfl) mA ⟨_, rfl⟩) pe_int) pa_nil)) (own := [("arity", 1)]) (g := gName 1) (tt := tYes) (te := KR.tBMT (KR.rCntT K) (tVar 0) (tCons (tVar 1) tNil)) (blkOk_by (N := ["row", "arity"]) (sc := defScope sCounts) (by decide +kernel))
    (fun _ _ _ _ _ => pg_name (i := 1) scCounts.nd rfl (.inl rfl)) (fun _ _ _ _ _ => pts_nil)
    (fun _ _ _ _ _ => KR.pe_bmT PySem.F.slot_tuple_count PySem.F.type_tuple_count KR.mt_tcount (pv 0) (pa_cons (pv 1) pa_nil) ⟨rfl, rfl, rfl, rfl⟩)) pa_nil))), ?_⟩
  refine ⟨5, 1, rfl, rfl, _, rfl, by decide, by decide, fun D hD => ?_⟩
  have s1 : Same H (upd H D (.lst [])) := same_new hD _
  refine lc_range (n := 6) (Pv := fun i H3 => Same H H3 ∧ H3 D = some (.lst (((cl (KM.cnt r)).take i).map V.int))) ⟨s1, upd_same⟩ (fun i H3 hi hp => ?_) (fun H3 hp => ?_)
  · obtain ⟨sm, eD⟩ := hp
    refine ⟨rfl, ?_⟩
    refine ⟨.ref a, rfl, ⟨a, _, rfl, nT sm hS⟩, .int (0 + (i : Int)), rfl, a, rl r, (i : Int), rfl, by rw [Int.zero_add], (nT sm hS).sq, _, eD, ?_, ?_, ?_⟩
    · rw [List.length_map, List.length_take]
      exact small1000 (by rw [cl_len]; omega)
    · intro b u e
      have nb : b ≠ D := ne_of_none e hD
      rw [upd_ne nb]
      exact sm _ _ e
    · rw [upd_same, take_snoc (cl_get hi), List.map_append, count_rl]
      rfl
  · obtain ⟨sm, eD⟩ := hp
    refine ⟨D, _, rfl, .inl ⟨SqL.of eD, fun l hl => ?_⟩⟩
    exact q _ l (sm.trans (same_new hl _)) (sm.free hl) upd_same
def bl (c : KM.Ct) : List Int := [(c 0 : Int) * (1 - 0), (c 1 : Int) * (1 - 1), (c 2 : Int) * (1 - 2), (c 3 : Int) * (1 - 3), (c 4 : Int) * (1 - 4), (c 5 : Int) * (1 - 5)]
theorem bl_get {c : KM.Ct} {i : Nat} {x : Int} (h : (cl c)[i]? = some x) : (bl c)[i]? = some (x * (1 - (i : Int))) := by
  match i, h with
  | 0, h => obtain rfl := Option.some.inj h; rfl
  | 1, h => obtain rfl := Option.some.inj h; rfl
  | 2, h => obtain rfl := Option.some.inj h; rfl
  | 3, h => obtain rfl := Option.some.inj h; rfl
  | 4, h => obtain rfl := Option.some.inj h; rfl
  | 5, h => obtain rfl := Option.some.inj h; rfl
theorem bl_sum (c : KM.Ct) : (bl c).sum = (KM.sz c : Int) - KM.wt c := by
  show (c 0 : Int) * (1 - 0) + ((c 1 : Int) * (1 - 1) + ((c 2 : Int) * (1 - 2) + ((c 3 : Int) * (1 - 3) + ((c 4 : Int) * (1 - 4) + ((c 5 : Int) * (1 - 5) + 0))))) =
    ((((((((0 + c 0) + c 1) + c 2) + c 3) + c 4) + c 5 : Nat)) : Int) - ((((((((0 + 0 * c 0) + 1 * c 1) + 2 * c 2) + 3 * c 3) + 4 * c 4) + 5 * c 5 : Nat)) : Int)
  omega
theorem cl_le {c : KM.Ct} {i : Nat} {x : Int} (h : (cl c)[i]? = some x) : 0 ≤ x ∧ x ≤ KM.sz c := by
  have hi : i < 6 := (List.getElem?_eq_some_iff.mp h).1
  rw [cl_get hi] at h
  obtain rfl := Option.some.inj h
  have := KM.S_le_term c hi
  show _ ∧ (c i : Int) ≤ (KM.S 6 c : Nat)
  omega
theorem ok_balance (F : Fun K "balance_of" "balance_of" sBalance f fd) (ms : mg "sum" = none) (me : mg "enumerate" = none) : FnOk P w K mg base CX0 (k + 1) f fd ["counts"] (spBalance K) := by
  refine F.ok scBalance (fun vs H Q E h => ?_) (fun cdv A outer s H vs Q E hr h => ?_)
  · obtain ⟨a, c, rfl, _⟩ := h
    rfl
  obtain ⟨a, c, rfl, hS, hz, q⟩ := h
  refine ⟨_, pss_one (ps_ret (pe_callB (cr_sum rfl) (by rfl) ms boot_sum' (pa_cons (pe_lc rfl scBalance.nd
    (KR.pi_enumT (by rfl) me (pa_cons (pv 0) pa_nil)) (own := [("arity", 1), ("many", 2)]) (g := gTup K 2 (gCons (gName 1) (gCons (gName 2) gNil))) (tt := tYes) (blkOk_by (N := ["counts", "arity", "many"]) (sc := defScope sBalance) (by decide +kernel))
    (fun _ _ _ _ _ => pg_tup rfl (pgs_cons (pg_name (i := 1) scBalance.nd rfl (.inl rfl)) (pgs_cons (pg_name (i := 2) scBalance.nd rfl (.inl rfl)) pgs_nil))) (fun _ _ _ _ _ => pts_nil)
    (fun _ _ _ _ _ => pe_op op_mul (pv 2) (pe_op op_sub pe_int (pv 1)))) pa_nil))), ?_⟩
  refine ⟨.ref a, rfl, a, _, rfl, hS, fun D hD => ?_⟩
  have s1 : Same H (upd H D (.lst [])) := same_new hD _
  refine lc_it (walk_enumT ((cl c).map V.int)) (Pv := fun i H3 => Same H H3 ∧ H3 D = some (.lst (((bl c).take i).map V.int))) ⟨s1, upd_same⟩ (fun i H3 hi hp => seqT hp.1 hS) (fun i y H3 H4 hi6 hp hy => ?_) (fun H3 hp => ?_)
  · obtain ⟨sm, eD⟩ := hp
    obtain ⟨T, x, rfl, hT, rfl, hx⟩ := hy
    rw [List.getElem?_map] at hx
    obtain ⟨t, ht, rfl⟩ := Option.map_eq_some_iff.mp hx
    have hi : i < 6 := (List.getElem?_eq_some_iff.mp ht).1
    have hb := cl_le ht
    refine ⟨T, _, rfl, SqT.of upd_same, rfl, _, _, rfl, _, _, rfl, rfl, rfl, ?_⟩
    have nT : D ≠ T := ne_of_none eD hT
    refine ⟨.int t, rfl, .int (i : Int), rfl, 1, (i : Int), rfl, rfl, t, 1 - (i : Int), rfl, rfl, .inl ⟨by omega, by omega⟩, _, by rw [upd_ne nT]; exact eD, ?_, ?_, ?_⟩
    · rw [List.length_map, List.length_take]
      exact small1000 (by omega)
    · intro b u e
      have nb : b ≠ D := ne_of_none e hD
      rw [upd_ne nb, upd_ne (ne_of_none (sm _ _ e) hT)]
      exact sm _ _ e
    · rw [upd_same, take_snoc (bl_get ht), List.map_append]
      rfl
  · obtain ⟨sm, eD⟩ := hp
    refine ⟨D, bl c, rfl, SqL.of eD, ?_⟩
    rw [bl_sum]
    exact q _ sm
theorem ok_rows (F : Fun K "count_rows" "count_rows" sRows f fd) (mr : mg "range" = none) : FnOk P w K mg base CX0 (k + 1) f fd ["counts"] (spRows K) := by
  refine F.ok scRows (fun vs H Q E h => ?_) (fun cdv A outer s H vs Q E hr h => ?_)
  · obtain ⟨a, c, rfl, _⟩ := h
    rfl
  obtain ⟨a, c, rfl, hS, hz, q⟩ := h
  refine ⟨_, pss_cons (ps_asg (pe_tup (pa_cons pe_int (pa_cons pe_int pa_nil))) (pg_tup rfl (pgs_cons (pg_name (i := 1) scRows.nd rfl (.inl rfl)) (pgs_cons (pg_name (i := 2) scRows.nd rfl (.inl rfl)) pgs_nil))))
    (pss_cons (ps_for PassesOwn.never rfl (pi_tup (pv 0)) (pg_name (i := 3) scRows.nd rfl (.inl rfl))
      (pss_one (ps_for PassesOwn.never rfl (pi_range1 (by rfl) mr (pa_cons (pv 3) pa_nil)) (pg_name (i := 4) scRows.nd rfl (.inl rfl))
        (pss_cons (ps_aug (i := 2) scRows.nd rfl (.inl rfl) pe_int ip_add)
        (pss_one (ps_set (i := 1) scRows.nd rfl (.inl rfl) (pe_op op_fdiv (pe_op op_mul (pv 1) (pv 2)) (pe_op op_add (pv 4) pe_int))))))))
    (pss_one (ps_ret (pv 1)))), ?_⟩
  refine ⟨by show 2 ≤ sizeLine; decide, fun p hp => ⟨p, _, rfl, SqT.of upd_same, rfl, _, _, rfl, _, _, rfl, rfl, ?_⟩⟩
  have s1 : Same H (upd H p (.tup [.int 1, .int 0])) := same_new hp _
  refine ⟨.ref a, rfl, a, rfl, ⟨_, seqT s1 hS⟩, ?_⟩
  refine for_tup (xs := (cl c).map V.int) (fun i σ H3 => ∃ y3 y4, σ = [some (.ref a), some (.int (KM.rows i c : Nat)), some (.int (KM.S i c : Nat)), y3, y4] ∧ Same H H3)
    ⟨none, none, rfl, s1⟩ (fun i σ H3 hi hp => ?_) (fun i x σ H3 hx hp => ?_) (fun σ H3 hp => ?_)
  · obtain ⟨_, _, _, sm⟩ := hp
    exact seqT sm hS
  · obtain ⟨y3, y4, rfl, sm⟩ := hp
    rw [List.getElem?_map] at hx
    obtain ⟨t, ht, rfl⟩ := Option.map_eq_some_iff.mp hx
    have hi : i < 6 := (List.getElem?_eq_some_iff.mp ht).1
    rw [cl_get hi] at ht
    obtain rfl := Option.some.inj ht
    have hm : KM.S i c + c i ≤ 10 := Nat.le_trans (KM.S_mono (n := i + 1) (m := 6) c (by omega)) hz
    refine ⟨.int (c i : Int), rfl, _, rfl, by omega, by omega, ?_⟩
    refine for_range (n := c i) (fun j σ H4 => ∃ y4, σ = [some (.ref a), some (.int ((KM.rows i c * KM.choose (KM.S i c + j) j : Nat) : Int)), some (.int ((KM.S i c + j : Nat) : Int)), some (.int (c i : Int)), y4] ∧ H4 = H3)
      ⟨y4, ?_, rfl⟩ (fun j σ H4 hj hp => ?_) (fun σ H4 hp => ?_)
    · have : KM.choose (KM.S i c + 0) 0 = 1 := by cases KM.S i c <;> rfl
      rw [this, Nat.mul_one]; rfl
    · obtain ⟨y4, rfl, rfl⟩ := hp
      have hf : KM.rows i c * KM.choose (KM.S i c + j) j ≤ 3628800 := Nat.le_trans (rows_le c i j) (fact_mono (m := 10) (by omega))
      refine ⟨_, rfl, _, 1, rfl, rfl, ?_⟩
      refine ⟨_, rfl, _, rfl, _, _, rfl, rfl, .inl ⟨by omega, by omega⟩, .int (0 + (j : Int)), rfl, _, 1, rfl, rfl, _, _, rfl, rfl, ⟨by omega, by omega⟩, ?_⟩
      have e := choose_step (KM.rows i c) (KM.S i c) j
      have e2 : ((KM.rows i c * KM.choose (KM.S i c + j) j : Nat) : Int) * (((KM.S i c + j : Nat) : Int) + 1) / (0 + (j : Int) + 1) = ((KM.rows i c * KM.choose (KM.S i c + (j + 1)) (j + 1) : Nat) : Int) := by
        rw [e, Int.zero_add]
        exact Int.mul_ediv_cancel _ (by omega)
      refine ⟨some (.int (0 + (j : Int))), ?_, rfl⟩
      have e3 : (((KM.S i c + j : Nat) : Int) + 1) = ((KM.S i c + (j + 1) : Nat) : Int) := by omega
      rw [← e2, ← e3]
      rfl
    · obtain ⟨y4, rfl, rfl⟩ := hp
      exact ⟨_, y4, rfl, sm⟩
  · obtain ⟨y3, y4, rfl, sm⟩ := hp
    exact ⟨_, rfl, q _ sm⟩
theorem ok_count {gB gR : Addr} {fdB fdR : FuncData} (F : Fun K "count_ready" "count_ready" sCount f fd) (FB : Fun K "balance_of" "balance_of" sBalance gB fdB) (FR : Fun K "count_rows" "count_rows" sRows gR fdR)
    (bB : Binds K fdB ["counts"] []) (bR : Binds K fdR ["counts"] []) (mB : mg "balance_of" = some (.ref gB)) (mR : mg "count_rows" = some (.ref gR)) (ms : mg "sum" = none) (me : mg "enumerate" = none) (mr : mg "range" = none) (mx : mg "max" = none) :
    FnOk P w K mg base CX0 (k + 2) f fd ["counts"] (spCount K) := by
  have GB : FnOk P w K mg base CX0 (k + 1) gB fdB ["counts"] (spBalance K) := ok_balance FB ms me
  have GR : FnOk P w K mg base CX0 (k + 1) gR fdR ["counts"] (spRows K) := ok_rows FR mr
  refine F.ok scCount (fun vs H Q E h => ?_) (fun cdv A outer s H vs Q E hr h => ?_)
  · obtain ⟨a, c, rfl, _⟩ := h
    rfl
  obtain ⟨a, c, rfl, hS, hz0, hz, q⟩ := h
  refine ⟨_, pss_one (ps_ret (pe_op op_fdiv (pe_op op_mul (pe_call GR hr rfl mR FR.kp bR .nil pass0 (pa_cons (pv 0) pa_nil))
    (pe_callB (call_max2 rfl) (by rfl) mx boot_max' (pa_cons pe_int (pa_cons (pe_call GB hr rfl mB FB.kp bB .nil pass0 (pa_cons (pv 0) pa_nil)) pa_nil))))
    (pe_callB (KR.cr_sumT rfl) (by rfl) ms boot_sum' (pa_cons (pv 0) pa_nil)))), ?_⟩
  refine ⟨.ref a, rfl, a, c, rfl, hS, hz, fun H1 s1 => ?_⟩
  refine ⟨.ref a, rfl, a, c, rfl, seqT s1 hS, hz, fun H2 s2 => ?_⟩
  have s3 := s1.trans s2
  have hr1 : KM.rows 6 c ≤ 3628800 := by
    have h1 := KM.rows_fact 6 c
    have p1 := KM.pf_pos 6 c
    have a1 : KM.rows 6 c ≤ KM.fact (KM.S 6 c) := by rw [← h1]; exact Nat.le_mul_of_pos_right _ p1
    exact Nat.le_trans a1 (fact_mono (m := 10) hz)
  refine ⟨_, _, rfl, _, _, rfl, rfl, .inl ⟨by omega, by omega⟩, ?_⟩
  refine ⟨.ref a, rfl, a, cl c, rfl, seqT s3 hS, ?_⟩
  rw [cl_sum]
  refine ⟨_, _, rfl, rfl, ⟨by omega, by omega⟩, ?_⟩
  have e : ((KM.rows 6 c : Nat) : Int) * (if ((KM.sz c : Int) - KM.wt c) > 0 then ((KM.sz c : Int) - KM.wt c) else 0) / (KM.sz c : Int) = (KM.ways 0 c : Nat) := by
    have r := KM.ready_count (KM.sz c - 1) c (by omega)
    have e1 : (if ((KM.sz c : Int) - KM.wt c) > 0 then ((KM.sz c : Int) - KM.wt c) else 0) = ((KM.sz c - KM.wt c : Nat) : Int) := by
      split <;> omega
    rw [e1, ← Int.natCast_mul, ← r, Int.natCast_mul]
    exact Int.mul_ediv_cancel _ (by omega)
  have q2 := q _ s3
  rw [← e] at q2
  exact q2
end
end KP
end PartKW2

section PartKW3
/-! ways_to_end -/
namespace KP
open PySem L2
/-! ### the dict -/
def kc (c : KM.Ct) : List Key := (cl c).map Sum.inl
theorem kc_kV (c : KM.Ct) : (kc c).map kV = (cl c).map V.int := by
  unfold kc
  rw [List.map_map]; rfl
theorem kc_inj {c d : KM.Ct} (e : kc c = kc d) : cl c = cl d := by
  have := congrArg (List.map fun k : Key => match k with | .inl i => i | .inr _ => 0) e
  unfold kc at this
  rw [List.map_map, List.map_map] at this
  have h : ∀ l : List Int, l.map ((fun k : Key => match k with | .inl i => i | .inr _ => 0) ∘ Sum.inl) = l := fun l => by
    induction l with
    | nil => rfl
    | cons x l ih => rw [List.map_cons, ih]; rfl
  rw [h, h] at this
  exact this
def code (c : KM.Ct) : Nat := c 0 + 11 * (c 1 + 11 * (c 2 + 11 * (c 3 + 11 * (c 4 + 11 * c 5))))
theorem code_inj {c d : KM.Ct} (hc : ∀ i, i < 6 → c i ≤ 10) (hd : ∀ i, i < 6 → d i ≤ 10) (e : code c = code d) : cl c = cl d := by
  have a0 := hc 0 (by omega); have a1 := hc 1 (by omega); have a2 := hc 2 (by omega); have a3 := hc 3 (by omega); have a4 := hc 4 (by omega); have a5 := hc 5 (by omega)
  have b0 := hd 0 (by omega); have b1 := hd 1 (by omega); have b2 := hd 2 (by omega); have b3 := hd 3 (by omega); have b4 := hd 4 (by omega); have b5 := hd 5 (by omega)
  unfold code at e
  have e0 : c 0 = d 0 := by omega
  have e1 : c 1 = d 1 := by omega
  have e2 : c 2 = d 2 := by omega
  have e3 : c 3 = d 3 := by omega
  have e4 : c 4 = d 4 := by omega
  have e5 : c 5 = d 5 := by omega
  unfold cl
  rw [e0, e1, e2, e3, e4, e5]
theorem code_lt {c : KM.Ct} (hc : ∀ i, i < 6 → c i ≤ 10) : code c < 1771561 := by
  have a0 := hc 0 (by omega); have a1 := hc 1 (by omega); have a2 := hc 2 (by omega); have a3 := hc 3 (by omega); have a4 := hc 4 (by omega); have a5 := hc 5 (by omega)
  unfold code
  omega
structure KInv (B : Int) (kvs : List (List Key × V)) : Prop where
  nd : (kvs.map (·.1)).Nodup
  of : ∀ e ∈ kvs, ∃ (h : Nat) (c : KM.Ct), e = (kc c, V.int (KM.ways h c : Nat)) ∧ (h : Int) + KM.sz c - KM.wt c = B ∧ ∀ i, i < 6 → c i ≤ 10
theorem KInv.nil (B : Int) : KInv B [] := ⟨List.nodup_nil, fun e he => by cases he⟩
theorem KInv.room {B : Int} {kvs : List (List Key × V)} (K : KInv B kvs) : kvs.length < sizeLine := by
  have hch : ∀ l : List (List Key × V), (∀ e ∈ l, e ∈ kvs) → (l.map (·.1)).Nodup → ∃ ns : List Nat, ns.length = l.length ∧ ns.Nodup ∧ ∀ n ∈ ns, ∃ e ∈ l, ∃ c : KM.Ct, e.1 = kc c ∧ n = code c ∧ ∀ i, i < 6 → c i ≤ 10 := by
    intro l
    induction l with
    | nil => exact fun _ _ => ⟨[], rfl, List.nodup_nil, fun n hn => by cases hn⟩
    | cons e l ih =>
      intro hs hn
      obtain ⟨ns, h1, h2, h3⟩ := ih (fun x hx => hs x (List.mem_cons_of_mem _ hx)) (List.nodup_cons.mp hn).2
      obtain ⟨h, c, he, _, hc⟩ := K.of e (hs e (List.mem_cons_self ..))
      refine ⟨code c :: ns, by simp [h1], List.nodup_cons.mpr ⟨fun hm => ?_, h2⟩, fun n hm => ?_⟩
      · obtain ⟨e2, he2, c2, q1, q2, q3⟩ := h3 _ hm
        have z := code_inj hc q3 q2
        have z2 : e.1 = e2.1 := by rw [he, q1]; show kc c = kc c2; unfold kc; rw [z]
        exact (List.nodup_cons.mp hn).1 (by show e.1 ∈ _; rw [z2]; exact List.mem_map_of_mem he2)
      · rcases List.mem_cons.mp hm with z | z
        · exact ⟨e, List.mem_cons_self .., c, by rw [he], z, hc⟩
        · obtain ⟨e2, he2, q⟩ := h3 n z
          exact ⟨e2, List.mem_cons_of_mem _ he2, q⟩
  obtain ⟨ns, h1, h2, h3⟩ := hch kvs (fun _ h => h) K.nd
  have hsub : ns ⊆ List.range 1771561 := fun n hn => by
    obtain ⟨_, _, c, _, rfl, hc⟩ := h3 n hn
    exact List.mem_range.mpr (code_lt hc)
  have := h2.length_le_of_subset hsub
  rw [h1, List.length_range] at this
  exact Nat.lt_of_le_of_lt this (by show 1771561 < 16777216; decide)
theorem KInv.get {B : Int} {kvs : List (List Key × V)} {h : Nat} {c : KM.Ct} {v : V} (K : KInv B kvs) (hB : (h : Int) + KM.sz c - KM.wt c = B) (g : valV kvs (kc c) = some v) : v = .int (KM.ways h c : Nat) := by
  unfold valV at g
  obtain ⟨e, he, rfl⟩ := Option.map_eq_some_iff.mp g
  have hm := List.mem_of_find?_eq_some he
  have hk := List.find?_some he
  have hk : e.1 = kc c := of_decide_eq_true hk
  show e.2 = _
  obtain ⟨h2, c2, e2, hB2, _⟩ := K.of e hm
  rw [e2] at hk
  have ec := cl_inj (kc_inj hk)
  have e1 : h2 = h := by
    rw [KM.sz_congr ec, KM.wt_congr ec] at hB2
    omega
  rw [e2, KM.ways_congr ec, e1]
theorem KInv.put {B : Int} {kvs : List (List Key × V)} {h : Nat} {c : KM.Ct} (K : KInv B kvs) (hB : (h : Int) + KM.sz c - KM.wt c = B) (hc : ∀ i, i < 6 → c i ≤ 10) : KInv B (putK kvs (kc c) (.int (KM.ways h c : Nat))) := by
  unfold putK
  by_cases a : (kvs.any fun kv => decide (kv.1 = kc c)) = true
  · rw [if_pos a]
    refine ⟨?_, fun e he => ?_⟩
    · have : (kvs.map fun kv => if kv.1 = kc c then (kv.1, V.int (KM.ways h c : Nat)) else kv).map (·.1) = kvs.map (·.1) := by
        rw [List.map_map]
        refine List.map_congr_left fun x _ => ?_
        show (if x.1 = kc c then (x.1, V.int (KM.ways h c : Nat)) else x).1 = x.1
        split <;> rfl
      rw [this]
      exact K.nd
    · obtain ⟨x, hx, rfl⟩ := List.mem_map.mp he
      split
      · rename_i z
        rw [z]
        exact ⟨h, c, rfl, hB, hc⟩
      · exact K.of x hx
  · rw [if_neg a]
    refine ⟨?_, fun e he => ?_⟩
    · rw [List.map_append]
      refine nd_snoc K.nd fun hm => a ?_
      obtain ⟨x, hx, e⟩ := List.mem_map.mp hm
      exact List.any_eq_true.mpr ⟨x, hx, decide_eq_true e⟩
    · rcases List.mem_append.mp he with z | z
      · exact K.of e z
      · rw [List.mem_singleton] at z
        subst z
        exact ⟨h, c, rfl, hB, hc⟩
theorem outs_fo (h : Nat) (c : KM.Ct) : ∀ k a : Nat, KG.outs (h : Int) a ((List.range' a k).map fun i => (c i : Int)) = (KM.fo h c a k).map Int.ofNat
  | 0, _ => rfl
  | k + 1, a => by
    rw [List.range'_succ, List.map_cons, KM.fo_succ]
    unfold KG.outs
    have ih := outs_fo h c k (a + 1)
    by_cases z : 0 < c a ∧ a ≤ h
    · rw [if_pos z, if_pos (by omega), ih]; rfl
    · rw [if_neg z, if_neg (by omega), ih]
theorem outs_cl (h : Nat) (c : KM.Ct) : KG.outs (h : Int) 0 (cl c) = (KM.fo h c 0 6).map Int.ofNat := outs_fo h c 6 0
theorem fw_pos {h : Nat} {c : KM.Ct} {t : Nat} (h0 : 0 < c t) (hl : t ≤ h) : KM.fw h c t = KM.ways (h + 1 - t) (KM.dn c t) := if_pos ⟨h0, hl⟩
theorem wsum_snoc {h : Nat} {c : KM.Ct} {l : List Nat} {i t : Nat} (ht : l[i]? = some t) : KM.wsum h c (l.take (i + 1)) = KM.wsum h c (l.take i) + KM.fw h c t := by
  unfold KM.wsum
  rw [List.take_add_one, ht, List.map_append, List.sum_append]
  simp
/-- all that is known stays, but what is at d -/
def Keep (d : Addr) (H H' : Hp) : Prop := ∀ b o, b ≠ d → H b = some o → H' b = some o
theorem Keep.refl (d : Addr) (H : Hp) : Keep d H H := fun _ _ _ h => h
theorem Keep.trans {d : Addr} {H H1 H2 : Hp} (a : Keep d H H1) (b : Keep d H1 H2) : Keep d H H2 := fun c o n h => b c o n (a c o n h)
theorem Keep.same {d : Addr} {H H1 : Hp} (a : Same H H1) : Keep d H H1 := fun c o n h => a c o h
theorem Keep.upd (d : Addr) (H : Hp) (o : HO) : Keep d H (upd H d o) := fun c u n h => by rw [upd_ne n]; exact h
theorem le10 {c : KM.Ct} (h : KM.sz c ≤ 10) : ∀ i, i < 6 → c i ≤ 10 := fun i hi => Nat.le_trans (KM.S_le_term c hi) h
def spWays (B : Int) (n : Nat) : Sp := fun vs H Q _ => ∃ (h : Nat) (ca d : Addr) (c : KM.Ct) (kvs : List (List Key × V)), vs = [.int h, .ref ca, .ref d] ∧ H ca = some (.tup ((cl c).map V.int)) ∧ H d = some (.dT kvs) ∧ KInv B kvs ∧
  (h : Int) + KM.sz c - KM.wt c = B ∧ KM.sz c < n ∧ KM.sz c ≤ 10 ∧ ∀ H' kvs', Keep d H H' → H' d = some (.dT kvs') → KInv B kvs' → Q (.int (KM.ways h c : Nat)) H'
section
variable {P : Program} {w : World} {K : PySem.W.Frag} {mg : Str → Option Value} {base : Heap} {f g : Addr} {fd gd : FuncData} {k : Nat}
theorem scWays : FnScope ["height", "counts", "known", "total", "arity"] ["height", "counts", "known"] (defScope sWays) := ⟨rfl, rfl, rfl, by decide +kernel, rfl, by decide +kernel, by decide +kernel⟩
theorem ok_ways {fT fN : Addr} {fdT fdN : FuncData} (B : Int) (F : Fun K "ways_to_end" "ways_to_end" sWays f fd) (FT : Fun K "taken_from" "taken_from" sTaken fT fdT) (FN : Fun K "next_arities" "next_arities" sNext fN fdN)
    (bW : Binds K fd ["height", "counts", "known"] []) (bT : Binds K fdT ["counts", "arity"] []) (bN : Binds K fdN ["height", "counts"] []) (mW : mg "ways_to_end" = some (.ref f)) (mT : mg "taken_from" = some (.ref fT)) (mN : mg "next_arities" = some (.ref fN))
    (ms : mg "sum" = none) (me : mg "enumerate" = none) : ∀ n, FnOk P w K mg base CX0 (n + 2) f fd ["height", "counts", "known"] (spWays B n) := by
  intro n
  induction n with
  | zero =>
    refine F.ok scWays (fun vs H Q E h => ?_) (fun cdv A outer s H vs Q E hr h => ?_)
    · obtain ⟨_, _, _, _, _, rfl, _⟩ := h
      rfl
    · obtain ⟨_, _, _, _, _, _, _, _, _, _, z, _⟩ := h
      exact absurd z (Nat.not_lt_zero _)
  | succ n GW =>
    refine F.ok scWays (fun vs H Q E h => ?_) (fun cdv A outer s H vs Q E hr h => ?_)
    · obtain ⟨_, _, _, _, _, rfl, _⟩ := h
      rfl
    obtain ⟨h, ca, d, c, kvs, rfl, hC, hD, hK, hB, hn, hz, q⟩ := h
    have GT : FnOk P w K mg base CX0 (n + 2) fT fdT ["counts", "arity"] (spTaken K) := ok_taken FT
    obtain ⟨p1, p2, p3, p4, p5, p6, p7, p8, p9, p10, p11, p12, p13, p14, p15, p16, p17, p18, kk, k2, T⟩ := naText
    refine ⟨_, pss_cons (ps_if (pt_cmp (pc_eqI (pe_callB (KR.cr_sumT rfl) (by rfl) ms boot_sum' (pa_cons (pv 1) pa_nil)) pe_int)) (pss_one (ps_ret pe_int)) pss_nil)
      (pss_cons (ps_if (pt_cmp (pc_dnotin (hu_of hr) (pv 1) (pv 2)) (by rfl))
        (pss_cons (ps_set (i := 3) scWays.nd rfl (.inl rfl) pe_int)
        (pss_cons (KG.ps_forG (fun _ _ h => h) rfl FN T bN hr (by rfl) mN me (pa_cons (pv 0) (pa_cons (pv 1) pa_nil)) (pg_name (i := 4) scWays.nd rfl (.inl rfl))
          (pss_one (ps_aug (i := 3) scWays.nd rfl (.inl rfl) (pe_call GW hr rfl mW F.kp bW .nil pass0 (pa_cons (pe_op op_sub (pe_op op_add (pv 0) pe_int) (pv 4))
            (pa_cons (pe_call GT hr rfl mT FT.kp bT .nil pass0 (pa_cons (pv 1) (pa_cons (pv 4) pa_nil))) (pa_cons (pv 2) pa_nil)))) ip_add)))
        (pss_one (ps_dput (hu_of hr) (pv 2) (pv 1) (pv 3) rfl)))) pss_nil)
      (pss_one (ps_ret (pe_dget (hu_of hr) (pv 2) (pv 1) (fun _ _ => rfl))))), ?_⟩
    have hCq : SqT K H ca ((cl c).map V.int) := SqT.of hC
    have hdc : ca ≠ d := by
      intro e
      rw [e, hD] at hC
      cases hC
    refine ⟨.ref ca, rfl, ca, cl c, rfl, hCq, (cl c).sum, 0, rfl, rfl, _, rfl, ite2 (fun e => ?_) (fun e => ?_)⟩
    · have e' : (cl c).sum = 0 := of_decide_eq_true e
      rw [cl_sum] at e'
      have z : KM.sz c = 0 := by omega
      have q2 := q H kvs (Keep.refl d H) hD hK
      rw [KM.ways_zero z] at q2
      exact q2
    have e' : ¬ (cl c).sum = 0 := fun z => e (decide_eq_true z)
    rw [cl_sum] at e'
    have hz0 : 0 < KM.sz c := by omega
    have gD : ∀ {H1 : Hp} {kvs1 : List (List Key × V)}, Keep d H H1 → H1 d = some (.dT kvs1) → DGet H1 d (.ref ca) (valV kvs1 (kc c)) := fun kp e1 => DGet.t e1 (by rw [kc_kV]; exact kp _ _ hdc hC)
    refine ⟨.ref ca, rfl, .ref d, rfl, d, _, rfl, gD (Keep.refl d H) hD, _, rfl, ite2 (fun e2 => ?_) (fun e2 => ?_)⟩
    · refine ⟨.int h, rfl, .ref ca, rfl, (h : Int), ca, cl c, rfl, hCq, ?_⟩
      refine ⟨fun i σ H3 => ∃ y4 kvs3, σ = [some (.int (h : Int)), some (.ref ca), some (.ref d), some (.int (KM.wsum h c ((KM.fo h c 0 6).take i) : Nat)), y4] ∧ Keep d H H3 ∧ H3 d = some (.dT kvs3) ∧ KInv B kvs3, ?_, ?_, ?_, ?_⟩
      · exact ⟨none, kvs, rfl, Keep.refl d H, hD, hK⟩
      · rintro i σ H3 ⟨y4, kvs3, rfl, kp, _, _⟩
        exact SqT.of (kp _ _ hdc hC)
      · rintro i x σ H3 hx ⟨y4, kvs3, rfl, kp, hD3, hK3⟩
        rw [outs_cl, List.getElem?_map] at hx
        obtain ⟨t, ht, rfl⟩ := Option.map_eq_some_iff.mp hx
        obtain ⟨_, ht6, hct, hth, _⟩ := KM.fo_at h c 6 0 i t ht
        have ht6 : t < 6 := by omega
        refine ⟨_, rfl, .int (h : Int), rfl, (h : Int), 1, rfl, rfl, .int (t : Int), rfl, (h : Int) + 1, (t : Int), rfl, rfl, ?_⟩
        refine ⟨.ref ca, rfl, .int (t : Int), rfl, ca, c, t, rfl, SqT.of (kp _ _ hdc hC), ht6, hct, fun H4 p s4 hp4 e4 => ?_⟩
        have e5 : ((h : Int) + 1 - (t : Int)) = ((h + 1 - t : Nat) : Int) := by omega
        have hsz := KM.sz_dn ht6 hct
        have hdp : p ≠ d := by
          intro z
          rw [z, hD3] at hp4
          cases hp4
        refine ⟨.ref d, rfl, h + 1 - t, p, d, KM.dn c t, kvs3, by rw [← e5]; rfl, e4, s4 _ _ hD3, hK3, ?_, by omega, by omega, fun H5 kvs5 kp5 e5 hK5 => ?_⟩
        · rw [KM.bal_dn ht6 hct hth]; exact hB
        · refine ⟨_, _, rfl, rfl, ?_⟩
          refine ⟨some (.int (t : Int)), kvs5, ?_, (kp.trans (Keep.same s4)).trans kp5, e5, hK5⟩
          rw [wsum_snoc ht, fw_pos hct hth]
          rfl
      · rintro σ H3 ⟨y4, kvs3, rfl, kp, hD3, hK3⟩
        have ew : KM.wsum h c ((KM.fo h c 0 6).take (KG.outs (h : Int) 0 (cl c)).length) = KM.ways h c := by
          rw [outs_cl, List.length_map, List.take_length, KM.fo_all hz0]
        rw [ew]
        refine ⟨_, rfl, .ref d, rfl, .ref ca, rfl, d, _, rfl, DPut.t (k := kc c) hD3 (by rw [kc_kV]; exact kp _ _ hdc hC) hK3.room, ?_⟩
        have kp4 := kp.trans (Keep.upd d H3 (.dT (putK kvs3 (kc c) (.int (KM.ways h c : Nat)))))
        refine ⟨.ref d, rfl, .ref ca, rfl, d, .int (KM.ways h c : Nat), rfl, ?_, ?_⟩
        · have g := gD kp4 upd_same
          rw [valV_put, if_pos rfl] at g
          exact g
        · exact q _ _ kp4 upd_same (hK3.put hB (le10 hz))
    · have hv : ∃ v, valV kvs (kc c) = some v := by
        cases z : valV kvs (kc c) with
        | none => rw [z] at e2; exact absurd rfl e2
        | some v => exact ⟨v, rfl⟩
      obtain ⟨v, hv⟩ := hv
      have ev := hK.get hB hv
      subst ev
      refine ⟨.ref d, rfl, .ref ca, rfl, d, .int (KM.ways h c : Nat), rfl, ?_, ?_⟩
      · have g := gD (Keep.refl d H) hD
        rw [hv] at g
        exact g
      · exact q _ _ (Keep.refl d H) hD hK
end
end KP
end PartKW3

section PartKW4
/-! ready_index, ready_at -/
namespace KP
open PySem L2
theorem bal_cc : ∀ (p : List Nat) (h : Nat) (c : KM.Ct), KM.PRd h c p → ((KM.hh h p : Nat) : Int) + KM.sz (KM.cc c p) - KM.wt (KM.cc c p) = (h : Int) + KM.sz c - KM.wt c
  | [], _, _, _ => rfl
  | t :: p, h, c, ⟨q1, q2, q3, q4⟩ => by
    show ((KM.hh (h + 1 - t) p : Nat) : Int) + KM.sz (KM.cc (KM.dn c t) p) - KM.wt (KM.cc (KM.dn c t) p) = _
    rw [bal_cc p _ _ q4]
    exact KM.bal_dn q1 q2 q3
theorem wlt_snoc {h t : Nat} {c : KM.Ct} {l : List Nat} {i x : Nat} (hx : l[i]? = some x) : KM.wlt h c t (l.take (i + 1)) = KM.wlt h c t (l.take i) + (if x < t then KM.fw h c x else 0) := by
  unfold KM.wlt
  rw [List.take_add_one, hx, List.map_append, List.sum_append]
  simp
/-- a token of a readable row, by its place -/
theorem rd_at {r : List Nat} {h : Nat} {c : KM.Ct} {i t : Nat} (q : KM.Rd h c r) (ht : r[i]? = some t) : KM.PRd h c (r.take i) ∧ t < 6 ∧ 0 < KM.cc c (r.take i) t ∧ t ≤ KM.hh h (r.take i) := by
  obtain ⟨hi, he⟩ := List.getElem?_eq_some_iff.mp ht
  have e : r = r.take i ++ t :: r.drop (i + 1) := by
    rw [← he, ← List.drop_eq_getElem_cons hi, List.take_append_drop]
  have q1 : KM.Rd h c (r.take i ++ t :: r.drop (i + 1)) := e ▸ q
  have q2 := (KM.Rd_append _ _ _ _).mp q1
  exact ⟨q2.1, q2.2.1, q2.2.2.1, q2.2.2.2.1⟩
theorem rl_sum (p : List Nat) : (rl p).sum = ((p.sum : Nat) : Int) := by
  unfold rl
  induction p with
  | nil => rfl
  | cons x p ih => rw [List.map_cons, List.sum_cons, List.sum_cons, ih]; rfl
theorem takeN_snoc {r : List Nat} {i t : Nat} (h : r[i]? = some t) : r.take (i + 1) = r.take i ++ [t] := by
  rw [List.take_add_one, h]; rfl
def spIndex : Sp := fun vs H Q _ => ∃ (a : Addr) (r : List Nat), vs = [.ref a] ∧ KR.NTup H a ((rl r).map V.int) ∧ r.length ≤ 10 ∧ r ≠ [] ∧ KM.OkR 0 r ∧ ∀ H', Same H H' → Q (.int (KM.rank 0 (KM.cnt r) r : Nat)) H'
def spAt : Sp := fun vs H Q _ => ∃ (a : Addr) (c : KM.Ct) (n : Nat), vs = [.ref a, .int n] ∧ H a = some (.tup ((cl c).map V.int)) ∧ 0 < KM.sz c ∧ KM.sz c ≤ 10 ∧ n < KM.ways 0 c ∧
  ∀ H' p r, Same H H' → H p = none → KR.NTup H' p ((rl r).map V.int) → KM.Rd 0 c r → KM.rank 0 c r = n → Q (.ref p) H'
section
variable {P : Program} {w : World} {K : PySem.W.Frag} {mg : Str → Option Value} {base : Heap} {f g : Addr} {fd gd : FuncData} {k : Nat}
theorem scIndex : FnScope ["row", "rest", "height", "found", "known", "token", "arity"] ["row"] (defScope sIndex) := ⟨rfl, rfl, rfl, by decide +kernel, rfl, by decide +kernel, by decide +kernel⟩
theorem scAt : FnScope ["counts", "index", "row", "left", "known", "rest", "height", "chosen", "arity", "ways"] ["counts", "index"] (defScope sAt) := ⟨rfl, rfl, rfl, by decide +kernel, rfl, by decide +kernel, by decide +kernel⟩
theorem ok_index {fW fT fN fC fR : Addr} {fdW fdT fdN fdC fdR : FuncData} (F : Fun K "ready_index" "ready_index" sIndex f fd) (FT : Fun K "taken_from" "taken_from" sTaken fT fdT) (FN : Fun K "next_arities" "next_arities" sNext fN fdN)
    (GW : ∀ B : Int, FnOk P w K mg base CX0 13 fW fdW ["height", "counts", "known"] (spWays B 11)) (kW : PySem.W.keepIn K (.ref fW) = true) (GC : FnOk P w K mg base CX0 13 fC fdC ["row"] spCounts) (kC : PySem.W.keepIn K (.ref fC) = true)
    (GR : FnOk P w K mg base CX0 13 fR fdR ["row"] (spReady K)) (kR : PySem.W.keepIn K (.ref fR) = true)
    (bW : Binds K fdW ["height", "counts", "known"] []) (bT : Binds K fdT ["counts", "arity"] []) (bN : Binds K fdN ["height", "counts"] []) (bC : Binds K fdC ["row"] []) (bR : Binds K fdR ["row"] [])
    (mW : mg "ways_to_end" = some (.ref fW)) (mT : mg "taken_from" = some (.ref fT)) (mN : mg "next_arities" = some (.ref fN)) (mC : mg "counts_of" = some (.ref fC)) (mR : mg "is_ready" = some (.ref fR)) (me : mg "enumerate" = none) :
    FnOk P w K mg base CX0 14 f fd ["row"] spIndex := by
  refine F.ok scIndex (fun vs H Q E h => ?_) (fun cdv A outer s H vs Q E hr h => ?_)
  · obtain ⟨_, _, rfl, _⟩ := h
    rfl
  obtain ⟨a, r, rfl, hN, hlen, hne, hok, q⟩ := h
  have hrd := hok.rd
  have hsz : KM.sz (KM.cnt r) = r.length := KM.sz_cnt r hok.small
  have GT : FnOk P w K mg base CX0 13 fT fdT ["counts", "arity"] (spTaken K) := ok_taken FT
  obtain ⟨p1, p2, p3, p4, p5, p6, p7, p8, p9, p10, p11, p12, p13, p14, p15, p16, p17, p18, kk, k2, T⟩ := naText
  refine ⟨_, pss_cons (ps_if (pt_not (pt_val (pe_call GR hr rfl mR kR bR .nil pass0 (pa_cons (pv 0) pa_nil)))) pss_never pss_nil)
    (pss_cons (ps_asg (pe_tup (pa_cons (pe_call GC hr rfl mC kC bC .nil pass0 (pa_cons (pv 0) pa_nil)) (pa_cons pe_int (pa_cons pe_int (pa_cons pe_dnewT pa_nil)))))
      (pg_tup rfl (pgs_cons (pg_name (i := 1) scIndex.nd rfl (.inl rfl)) (pgs_cons (pg_name (i := 2) scIndex.nd rfl (.inl rfl)) (pgs_cons (pg_name (i := 3) scIndex.nd rfl (.inl rfl)) (pgs_cons (pg_name (i := 4) scIndex.nd rfl (.inl rfl)) pgs_nil))))))
    (pss_cons (ps_for PassesOwn.never rfl (pi_tup (pv 0)) (pg_name (i := 5) scIndex.nd rfl (.inl rfl))
      (pss_cons (KG.ps_forG (fun _ _ h => h) rfl FN T bN hr (by rfl) mN me (pa_cons (pv 2) (pa_cons (pv 1) pa_nil)) (pg_name (i := 6) scIndex.nd rfl (.inl rfl))
        (pss_one (ps_if (pt_cmp (pc_lt (pv 6) (pv 5)))
          (pss_one (ps_aug (i := 3) scIndex.nd rfl (.inl rfl) (pe_call (GW ((0 : Nat) + KM.sz (KM.cnt r) - KM.wt (KM.cnt r))) hr rfl mW kW bW .nil pass0 (pa_cons (pe_op op_sub (pe_op op_add (pv 2) pe_int) (pv 6))
            (pa_cons (pe_call GT hr rfl mT FT.kp bT .nil pass0 (pa_cons (pv 1) (pa_cons (pv 6) pa_nil))) (pa_cons (pv 4) pa_nil)))) ip_add)) pss_nil)))
      (pss_cons (ps_set (i := 1) scIndex.nd rfl (.inl rfl) (pe_call GT hr rfl mT FT.kp bT .nil pass0 (pa_cons (pv 1) (pa_cons (pv 5) pa_nil))))
      (pss_one (ps_aug (i := 2) scIndex.nd rfl (.inl rfl) (pe_op op_sub pe_int (pv 5)) ip_add)))))
    (pss_one (ps_ret (pv 3))))), ?_⟩
  refine ⟨.ref a, rfl, a, r, rfl, hN.sq, by omega, hne, RdH.of_ok hok, fun H1 s1 => ⟨true, rfl, iteF ?_⟩⟩
  refine ⟨.ref a, rfl, a, r, rfl, nT s1 hN, fun H2 c0 s2 hc0 e0 d hd => ?_⟩
  refine ⟨by show 4 ≤ sizeLine; decide, fun pt hpt => ⟨pt, _, rfl, SqT.of upd_same, rfl, _, _, rfl, _, _, rfl, _, _, rfl, _, _, rfl, rfl, ?_⟩⟩
  have sd : Same H2 (upd H2 d (.dT [])) := same_new hd _
  have sp : Same (upd H2 d (.dT [])) (upd (upd H2 d (.dT [])) pt (.tup [.ref c0, .int 0, .int 0, .ref d])) := same_new hpt _
  have hD0 : (upd (upd H2 d (.dT [])) pt (.tup [.ref c0, .int 0, .int 0, .ref d])) d = some (.dT []) := sp _ _ upd_same
  have sH2 : Same H H2 := s1.trans s2
  have hd0 : H d = none := sH2.free hd
  refine ⟨.ref a, rfl, a, rfl, ⟨_, (nT ((sH2.trans sd).trans sp) hN).sq⟩, ?_⟩
  refine for_tup (xs := (rl r).map V.int) (fun i σ H3 => ∃ (c1 : Addr) (kvs : List (List Key × V)) (y5 y6 : Option V), σ = [some (.ref a), some (.ref c1), some (.int (KM.hh 0 (r.take i) : Nat)), some (.int (KM.rank 0 (KM.cnt r) (r.take i) : Nat)), some (.ref d), y5, y6] ∧
      Same H H3 ∧ H3 d = some (.dT kvs) ∧ KInv ((0 : Nat) + KM.sz (KM.cnt r) - KM.wt (KM.cnt r)) kvs ∧ H3 c1 = some (.tup ((cl (KM.cc (KM.cnt r) (r.take i))).map V.int)))
    ⟨c0, [], none, none, rfl, (sH2.trans sd).trans sp, hD0, KInv.nil _, sp _ _ (sd _ _ e0)⟩ (fun i σ H3 hi hp => ?_) (fun i x σ H3 hx hp => ?_) (fun σ H3 hp => ?_)
  · obtain ⟨_, _, _, _, _, sm, _⟩ := hp
    exact (nT sm hN).sq
  · obtain ⟨c1, kvs, y5, y6, rfl, sm, hD, hK, e1⟩ := hp
    have hx : ∃ t, r[i]? = some t ∧ x = .int (t : Int) := by
      unfold rl at hx
      rw [List.getElem?_map, List.getElem?_map] at hx
      obtain ⟨y, hy, rfl⟩ := Option.map_eq_some_iff.mp hx
      obtain ⟨t, ht, rfl⟩ := Option.map_eq_some_iff.mp hy
      exact ⟨t, ht, rfl⟩
    obtain ⟨t, ht, rfl⟩ := hx
    obtain ⟨hpr, ht6, htc, hth⟩ := rd_at hrd ht
    have hb := bal_cc _ _ _ hpr
    have hs := KM.sz_cc _ _ _ hpr
    generalize hg : KM.hh 0 (r.take i) = hg0 at *
    generalize hc : KM.cc (KM.cnt r) (r.take i) = cc0 at *
    refine ⟨.int (hg0 : Int), rfl, .ref c1, rfl, (hg0 : Int), c1, cl cc0, rfl, SqT.of e1, ?_⟩
    refine ⟨fun j σ H4 => ∃ (kvs4 : List (List Key × V)) (y6 : Option V), σ = [some (.ref a), some (.ref c1), some (.int (hg0 : Nat)), some (.int ((KM.rank 0 (KM.cnt r) (r.take i) + KM.wlt hg0 cc0 t ((KM.fo hg0 cc0 0 6).take j) : Nat) : Int)), some (.ref d), some (.int (t : Int)), y6] ∧
      Same H H4 ∧ H4 d = some (.dT kvs4) ∧ KInv ((0 : Nat) + KM.sz (KM.cnt r) - KM.wt (KM.cnt r)) kvs4 ∧ H4 c1 = some (.tup ((cl cc0).map V.int)), ?_, ?_, ?_, ?_⟩
    · exact ⟨kvs, y6, rfl, sm, hD, hK, e1⟩
    · rintro j σ H4 ⟨_, _, _, _, _, _, e4⟩
      exact SqT.of e4
    · rintro j x σ H4 hx ⟨kvs4, y6, rfl, sm4, hD4, hK4, e4⟩
      rw [outs_cl, List.getElem?_map] at hx
      obtain ⟨u, hu, rfl⟩ := Option.map_eq_some_iff.mp hx
      obtain ⟨_, hu6, huc, huh, _⟩ := KM.fo_at hg0 cc0 6 0 j u hu
      have hu6 : u < 6 := by omega
      refine ⟨.int (u : Int), rfl, .int (t : Int), rfl, (u : Int), (t : Int), rfl, rfl, _, rfl, ite2 (fun e => ?_) (fun e => ?_)⟩
      · have e' : (u : Int) < (t : Int) := of_decide_eq_true e
        refine ⟨_, rfl, .int (hg0 : Int), rfl, (hg0 : Int), 1, rfl, rfl, .int (u : Int), rfl, (hg0 : Int) + 1, (u : Int), rfl, rfl, ?_⟩
        refine ⟨.ref c1, rfl, .int (u : Int), rfl, c1, cc0, u, rfl, SqT.of e4, hu6, huc, fun H5 p s5 hp5 e5 => ?_⟩
        have e6 : ((hg0 : Int) + 1 - (u : Int)) = ((hg0 + 1 - u : Nat) : Int) := by omega
        have hsd := KM.sz_dn hu6 huc
        refine ⟨.ref d, rfl, hg0 + 1 - u, p, d, KM.dn cc0 u, kvs4, by rw [← e6]; rfl, e5, s5 _ _ hD4, hK4, ?_, by omega, by omega, fun H6 kvs6 kp6 e6 hK6 => ?_⟩
        · rw [KM.bal_dn hu6 huc huh]; exact hb
        · refine ⟨_, _, rfl, rfl, ?_⟩
          have hdc : c1 ≠ d := by
            intro z
            rw [z, hD4] at e4
            cases e4
          refine ⟨kvs6, some (.int (u : Int)), ?_, fun b o eb => ?_, e6, hK6, kp6 _ _ hdc (s5 _ _ e4)⟩
          · rw [wlt_snoc hu, if_pos (by omega), fw_pos huc huh, ← Nat.add_assoc]
            rfl
          · have nb : b ≠ d := ne_of_none eb hd0
            exact kp6 _ _ nb (s5 _ _ (sm4 _ _ eb))
      · have e' : ¬ (u : Int) < (t : Int) := fun z => e (decide_eq_true z)
        refine ⟨kvs4, some (.int (u : Int)), ?_, sm4, hD4, hK4, e4⟩
        rw [wlt_snoc hu, if_neg (by omega)]
        rfl
    · rintro σ H4 ⟨kvs4, y6, rfl, sm4, hD4, hK4, e4⟩
      have ew : KM.wlt hg0 cc0 t ((KM.fo hg0 cc0 0 6).take (KG.outs (hg0 : Int) 0 (cl cc0)).length) = KM.S t (KM.fw hg0 cc0) := by
        rw [outs_cl, List.length_map, List.take_length]
        have := KM.fo_lt hg0 cc0 t 6 0 (Nat.zero_le _) (by omega)
        have z : KM.S 0 (KM.fw hg0 cc0) = 0 := rfl
        omega
      rw [ew]
      refine ⟨.ref c1, rfl, .int (t : Int), rfl, c1, cc0, t, rfl, SqT.of e4, ht6, htc, fun H5 p s5 hp5 e5 => ?_⟩
      refine ⟨_, rfl, .int (t : Int), rfl, 1, (t : Int), rfl, rfl, _, _, rfl, rfl, ?_⟩
      rw [takeN_snoc ht]
      refine ⟨p, kvs4, some (.int (t : Int)), y6, ?_, sm4.trans s5, s5 _ _ hD4, hK4, ?_⟩
      · rw [KM.hh_snoc, KM.rank_snoc, hg, hc]
        have e6 : ((hg0 + 1 - t : Nat) : Int) = (hg0 : Int) + (1 - (t : Int)) := by omega
        rw [e6]
        rfl
      · rw [KM.cc_snoc, hc]
        exact e5
  · obtain ⟨c1, kvs, y5, y6, rfl, sm, hD, hK, e1⟩ := hp
    have e : ((rl r).map V.int).length = r.length := by rw [List.length_map, rl_len]
    rw [e, List.take_length]
    exact ⟨_, rfl, q _ sm⟩
theorem ok_at {fW fT fN fI fC : Addr} {fdW fdT fdN fdI fdC : FuncData} (F : Fun K "ready_at" "ready_at" sAt f fd) (FT : Fun K "taken_from" "taken_from" sTaken fT fdT) (FN : Fun K "next_arities" "next_arities" sNext fN fdN)
    (GW : ∀ B : Int, FnOk P w K mg base CX0 13 fW fdW ["height", "counts", "known"] (spWays B 11)) (kW : PySem.W.keepIn K (.ref fW) = true) (GI : FnOk P w K mg base CX0 13 fI fdI ["value", "low", "high"] spIsInt) (kI : PySem.W.keepIn K (.ref fI) = true)
    (GC : FnOk P w K mg base CX0 13 fC fdC ["counts"] (spCount K)) (kC : PySem.W.keepIn K (.ref fC) = true)
    (bW : Binds K fdW ["height", "counts", "known"] []) (bT : Binds K fdT ["counts", "arity"] []) (bN : Binds K fdN ["height", "counts"] []) (bI : Binds K fdI ["value", "low", "high"] []) (bC : Binds K fdC ["counts"] [])
    (mW : mg "ways_to_end" = some (.ref fW)) (mT : mg "taken_from" = some (.ref fT)) (mN : mg "next_arities" = some (.ref fN)) (mI : mg "is_integer" = some (.ref fI)) (mC : mg "count_ready" = some (.ref fC)) (me : mg "enumerate" = none) (mt : mg "tuple" = none) (ms : mg "sum" = none) (ml : mg "len" = none) :
    FnOk P w K mg base CX0 14 f fd ["counts", "index"] spAt := by
  refine F.ok scAt (fun vs H Q E h => ?_) (fun cdv A outer s H vs Q E hr h => ?_)
  · obtain ⟨_, _, _, rfl, _⟩ := h
    rfl
  obtain ⟨a, c, n, rfl, hA, hz0, hz, hn, q⟩ := h
  have GT : FnOk P w K mg base CX0 13 fT fdT ["counts", "arity"] (spTaken K) := ok_taken FT
  obtain ⟨p1, p2, p3, p4, p5, p6, p7, p8, p9, p10, p11, p12, p13, p14, p15, p16, p17, p18, kk, k2, T⟩ := naText
  refine ⟨_, pss_cons (ps_if (pt_not (pt_val (pe_call GI hr rfl mI kI bI .nil pass0 (pa_cons (pv 1) (pa_cons pe_int (pa_cons (pe_op op_sub (pe_call GC hr rfl mC kC bC .nil pass0 (pa_cons (pv 0) pa_nil)) pe_int) pa_nil)))))) pss_never pss_nil)
    (pss_cons (ps_par3 (i := 2) (j := 3) (l := 4) rfl scAt.nd rfl rfl rfl (by decide) (by decide) (by decide) rfl rfl rfl (pa_cons (pe_lst pa_nil) (pa_cons (pv 1) (pa_cons pe_dnewT pa_nil))) (by rfl))
    (pss_cons (ps_set (i := 5) scAt.nd rfl (.inl rfl) (pe_callTy call_tuple_of (by rfl) mt boot_tuple' (pa_cons (pv 0) pa_nil)))
    (pss_cons (ps_while PassesOwn.never (pt_cmp (pc_gt (pe_callB (KR.cr_sumT rfl) (by rfl) ms boot_sum' (pa_cons (pv 5) pa_nil)) pe_int))
      (pss_cons (ps_par (i := 6) (j := 7) rfl scAt.nd rfl rfl (by decide) rfl rfl (pa_cons (pe_op op_sub (pe_callB call_len_seq (by rfl) ml boot_len (pa_cons (pv 2) pa_nil)) (pe_callB (cr_sum rfl) (by rfl) ms boot_sum' (pa_cons (pv 2) pa_nil))) (pa_cons pe_int pa_nil)) (by rfl))
      (pss_cons (KG.ps_forG (fun _ _ h => h) rfl FN T bN hr (by rfl) mN me (pa_cons (pv 6) (pa_cons (pv 5) pa_nil)) (pg_name (i := 8) scAt.nd rfl (.inl rfl))
        (pss_cons (ps_set (i := 7) scAt.nd rfl (.inl rfl) (pv 8))
        (pss_cons (ps_set (i := 9) scAt.nd rfl (.inl rfl) (pe_call (GW ((0 : Nat) + KM.sz c - KM.wt c)) hr rfl mW kW bW .nil pass0 (pa_cons (pe_op op_sub (pe_op op_add (pv 6) pe_int) (pv 8))
            (pa_cons (pe_call GT hr rfl mT FT.kp bT .nil pass0 (pa_cons (pv 5) (pa_cons (pv 8) pa_nil))) (pa_cons (pv 4) pa_nil)))))
        (pss_cons (ps_if (pt_cmp (pc_lt (pv 3) (pv 9))) (pss_one ps_break) pss_nil)
        (pss_one (ps_aug (i := 3) scAt.nd rfl (.inl rfl) (pv 9) ip_sub))))))
      (pss_cons (ps_expr (pe_bm PySem.F.plainAttrs_list PySem.F.slot_list_append PySem.F.type_list_append mt_append (pv 2) (pa_cons (pv 7) pa_nil)))
      (pss_one (ps_set (i := 5) scAt.nd rfl (.inl rfl) (pe_call GT hr rfl mT FT.kp bT .nil pass0 (pa_cons (pv 5) (pa_cons (pv 7) pa_nil)))))))))
    (pss_one (ps_ret (pe_callTy KR.call_tuple_ofF (by rfl) mt boot_tuple' (pa_cons (pv 2) pa_nil))))))), ?_⟩
  refine ⟨.int (n : Int), rfl, .ref a, rfl, a, c, rfl, SqT.of hA, hz0, hz, fun H1 s1 => ⟨_, 1, rfl, rfl, (n : Int), 0, ((KM.ways 0 c : Nat) : Int) - 1, rfl, true, ?_, iteF ?_⟩⟩
  · rw [decide_eq_true (by omega)]
  refine ⟨Nat.zero_le _, fun o no => ⟨.int (n : Int), rfl, fun d hd => ⟨_, _, _, rfl, ?_⟩⟩⟩
  have so : Same H1 (upd H1 o (.lst [])) := same_new no _
  have sd : Same (upd H1 o (.lst [])) (upd (upd H1 o (.lst [])) d (.dT [])) := same_new hd _
  have ho0 : H o = none := s1.free no
  have hd0 : H d = none := s1.free (so.free hd)
  have sA := (s1.trans so).trans sd
  refine ⟨.ref a, rfl, a, _, rfl, .inr ⟨SqT.of (sA _ _ hA), ?_⟩⟩
  refine ⟨fun m σ H3 => ∃ (p : List Nat) (left : Nat) (kvs : List (List Key × V)) (r : Addr) (y6 y7 y8 y9 : Option V), m = KM.sz (KM.cc c p) ∧
      σ = [some (.ref a), some (.int (n : Int)), some (.ref o), some (.int (left : Int)), some (.ref d), some (.ref r), y6, y7, y8, y9] ∧ Same H H3 ∧ H3 o = some (.lst ((rl p).map V.int)) ∧ H3 d = some (.dT kvs) ∧
      KInv ((0 : Nat) + KM.sz c - KM.wt c) kvs ∧ H3 r = some (.tup ((cl (KM.cc c p)).map V.int)) ∧ KM.PRd 0 c p ∧ left + KM.rank 0 c p = n ∧ left < KM.ways (KM.hh 0 p) (KM.cc c p),
    ⟨_, [], n, [], a, none, none, none, none, rfl, rfl, sA, sd _ _ upd_same, upd_same, KInv.nil _, sA _ _ hA, trivial, rfl, hn⟩, ?_⟩
  rintro m σ H3 ⟨p, left, kvs, r, y6, y7, y8, y9, rfl, rfl, sm, eo, eD, hK, er, hp, hl, hw⟩
  have hb := bal_cc _ _ _ hp
  have hs := KM.sz_cc _ _ _ hp
  have hsum := KM.hh_sum _ _ _ hp
  refine ⟨.ref r, rfl, r, cl (KM.cc c p), rfl, SqT.of er, _, 0, rfl, rfl, _, rfl, ite2 (fun e => ?_) (fun e => ?_)⟩
  · have e' : 0 < (cl (KM.cc c p)).sum := of_decide_eq_true e
    rw [cl_sum] at e'
    have hpos : 0 < KM.sz (KM.cc c p) := by omega
    refine ⟨fun σ H4 => ∃ (p2 : List Nat) (left2 : Nat) (kvs : List (List Key × V)) (r : Addr) (y6 y7 y8 y9 : Option V), KM.sz (KM.cc c p2) < KM.sz (KM.cc c p) ∧
      σ = [some (.ref a), some (.int (n : Int)), some (.ref o), some (.int (left2 : Int)), some (.ref d), some (.ref r), y6, y7, y8, y9] ∧ Same H H4 ∧ H4 o = some (.lst ((rl p2).map V.int)) ∧ H4 d = some (.dT kvs) ∧
      KInv ((0 : Nat) + KM.sz c - KM.wt c) kvs ∧ H4 r = some (.tup ((cl (KM.cc c p2)).map V.int)) ∧ KM.PRd 0 c p2 ∧ left2 + KM.rank 0 c p2 = n ∧ left2 < KM.ways (KM.hh 0 p2) (KM.cc c p2), ?_, ?_⟩
    · rintro σ' H' ⟨p2, left2, kvs2, r2, z6, z7, z8, z9, hlt, rest⟩
      exact ⟨_, hlt, p2, left2, kvs2, r2, z6, z7, z8, z9, rfl, rest⟩
    have hor : o ≠ r := by
      intro z
      rw [← z, eo] at er
      cases er
    have hod : o ≠ d := by
      intro z
      rw [← z, eo] at eD
      cases eD
    have hrd : r ≠ d := by
      intro z
      rw [z, eD] at er
      cases er
    have eh : (((rl p).map V.int).length : Int) - (rl p).sum = (KM.hh 0 p : Nat) := by
      rw [List.length_map, rl_len, rl_sum]
      omega
    have hplen : p.length ≤ 10 := by omega
    refine ⟨.ref o, rfl, o, _, rfl, .inl (SqL.of eo), .ref o, rfl, o, rl p, rfl, SqL.of eo, _, _, rfl, rfl, .int (KM.hh 0 p : Nat), .int 0, by rw [← eh], ?_⟩
    clear eh
    generalize hg : KM.hh 0 p = hg0 at *
    generalize hc : KM.cc c p = cc0 at *
    refine ⟨.int (hg0 : Int), rfl, .ref r, rfl, (hg0 : Int), r, cl cc0, rfl, SqT.of er, ?_⟩
    refine ⟨fun j σ H4 => ∃ (kvs4 : List (List Key × V)) (left2 : Nat) (y7 y8 y9 : Option V), σ = [some (.ref a), some (.int (n : Int)), some (.ref o), some (.int (left2 : Int)), some (.ref d), some (.ref r), some (.int (hg0 : Int)), y7, y8, y9] ∧
      Same H H4 ∧ H4 o = some (.lst ((rl p).map V.int)) ∧ H4 d = some (.dT kvs4) ∧ KInv ((0 : Nat) + KM.sz c - KM.wt c) kvs4 ∧ H4 r = some (.tup ((cl cc0).map V.int)) ∧ left2 + KM.wsum hg0 cc0 ((KM.fo hg0 cc0 0 6).take j) = left, ?_, ?_, ?_, ?_⟩
    · exact ⟨kvs, left, _, _, _, rfl, sm, eo, eD, hK, er, rfl⟩
    · rintro j σ H4 ⟨_, _, _, _, _, _, _, _, _, _, e4, _⟩
      exact SqT.of e4
    · rintro j x σ H4 hx ⟨kvs4, left2, z7, z8, z9, rfl, sm4, eo4, eD4, hK4, er4, hl4⟩
      rw [outs_cl, List.getElem?_map] at hx
      obtain ⟨u, hu, rfl⟩ := Option.map_eq_some_iff.mp hx
      obtain ⟨_, hu6, huc, huh, hus⟩ := KM.fo_at hg0 cc0 6 0 j u hu
      have hu6 : u < 6 := by omega
      have hus : KM.wsum hg0 cc0 ((KM.fo hg0 cc0 0 6).take j) = KM.S u (KM.fw hg0 cc0) := by
        have z : KM.S 0 (KM.fw hg0 cc0) = 0 := rfl
        omega
      refine ⟨.int (u : Int), rfl, .int (hg0 : Int), rfl, (hg0 : Int), 1, rfl, rfl, .int (u : Int), rfl, (hg0 : Int) + 1, (u : Int), rfl, rfl, ?_⟩
      refine ⟨.ref r, rfl, .int (u : Int), rfl, r, cc0, u, rfl, SqT.of er4, hu6, huc, fun H5 t s5 hp5 e5 => ?_⟩
      have e6 : ((hg0 : Int) + 1 - (u : Int)) = ((hg0 + 1 - u : Nat) : Int) := by omega
      have hsd := KM.sz_dn hu6 huc
      refine ⟨.ref d, rfl, hg0 + 1 - u, t, d, KM.dn cc0 u, kvs4, by rw [← e6]; rfl, e5, s5 _ _ eD4, hK4, ?_, by omega, by omega, fun H6 kvs6 kp6 e6 hK6 => ?_⟩
      · rw [KM.bal_dn hu6 huc huh]; exact hb
      have eo6 : H6 o = some (.lst ((rl p).map V.int)) := kp6 _ _ hod (s5 _ _ eo4)
      have er6 : H6 r = some (.tup ((cl cc0).map V.int)) := kp6 _ _ hrd (s5 _ _ er4)
      have sm6 : Same H H6 := fun b ob eb => kp6 _ _ (ne_of_none eb hd0) (s5 _ _ (sm4 _ _ eb))
      refine ⟨.int (left2 : Int), rfl, .int (KM.ways (hg0 + 1 - u) (KM.dn cc0 u) : Nat), rfl, _, _, rfl, rfl, _, rfl, ite2 (fun e => ?_) (fun e => ?_)⟩
      · have e' : (left2 : Int) < (KM.ways (hg0 + 1 - u) (KM.dn cc0 u) : Nat) := of_decide_eq_true e
        refine ⟨.ref o, rfl, .inl ⟨rfl, _, SqL.of eo6⟩, .int (u : Int), rfl, o, _, _, rfl, rfl, eo6, ?_, ?_⟩
        · rw [List.length_map, rl_len]
          exact small1000 (by omega)
        have hro : r ≠ o := fun z => hor z.symm
        refine ⟨.ref r, rfl, .int (u : Int), rfl, r, cc0, u, rfl, SqT.of (by rw [upd_ne hro]; exact er6), hu6, huc, fun H7 r2 s7 hr2 e7 => ?_⟩
        refine ⟨p ++ [u], left2, kvs6, r2, _, _, _, _, ?_, rfl, fun b ob eb => s7 _ _ ?_, ?_, s7 _ _ ?_, hK6, ?_, ?_, ?_, ?_⟩
        · rw [KM.cc_snoc, hc]; omega
        · rw [upd_ne (ne_of_none eb ho0)]; exact sm6 _ _ eb
        · have z := s7 o _ upd_same
          rw [z]
          unfold rl
          rw [List.map_append, List.map_append]
          rfl
        · rw [upd_ne (Ne.symm hod)]; exact e6
        · rw [KM.cc_snoc, hc]; exact e7
        · exact KM.PRd_snoc p u 0 c hp hu6 (by rw [hc]; exact huc) (by rw [hg]; exact huh)
        · rw [KM.rank_snoc, hg, hc]; omega
        · rw [KM.hh_snoc, KM.cc_snoc, hg, hc]; omega
      · have e' : ¬ (left2 : Int) < (KM.ways (hg0 + 1 - u) (KM.dn cc0 u) : Nat) := fun z => e (decide_eq_true z)
        refine ⟨_, rfl, .int (KM.ways (hg0 + 1 - u) (KM.dn cc0 u) : Nat), rfl, _, _, rfl, rfl, ?_⟩
        refine ⟨kvs6, left2 - KM.ways (hg0 + 1 - u) (KM.dn cc0 u), some (.int (u : Int)), some (.int (u : Int)), some (.int (KM.ways (hg0 + 1 - u) (KM.dn cc0 u) : Nat)), ?_, sm6, eo6, e6, hK6, er6, ?_⟩
        · have e8 : ((left2 - KM.ways (hg0 + 1 - u) (KM.dn cc0 u) : Nat) : Int) = (left2 : Int) - (KM.ways (hg0 + 1 - u) (KM.dn cc0 u) : Nat) := by omega
          rw [e8]
          rfl
        · rw [wsum_snoc hu, fw_pos huc huh]
          omega
    · rintro σ H4 ⟨kvs4, left2, z7, z8, z9, rfl, sm4, eo4, eD4, hK4, er4, hl4⟩
      exfalso
      rw [outs_cl, List.length_map, List.take_length, KM.fo_all hpos] at hl4
      omega
  · have e' : ¬ 0 < (cl (KM.cc c p)).sum := fun z => e (decide_eq_true z)
    rw [cl_sum] at e'
    have hz1 : KM.sz (KM.cc c p) = 0 := by omega
    rw [KM.ways_zero hz1] at hw
    refine ⟨.ref o, rfl, o, _, rfl, SqL.of eo, fun l ob hl' hob => ?_⟩
    exact q _ l p (sm.trans (same_new hl' _)) (sm.free hl') (KR.NTup.of hob) (KM.Rd.of_done hp hz1) (by omega)
end
end KP
end PartKW4

section PartKW5
/-! _law_stream, _law_draw -/
namespace KP
open PySem L2
/-- the stream of numbers: its list S, the big ones A, the cells B; at most n numbers drawn from the cells -/
structure StOk (K : PySem.W.Frag) (H : Hp) (S A B : Addr) (n : Nat) : Prop where
  ex : ∃ (t : Nat) (as bs : List Int), H S = some (.lst [.ref A, .ref B, .int t]) ∧ H A = some (.lst (as.map V.int)) ∧ H B = some (.lst (bs.map V.int)) ∧ A ≠ B ∧ bs ≠ [] ∧ t ≤ n
/-- all that is known stays, but what is at S and A -/
def Kp2 (S A : Addr) (H H' : Hp) : Prop := ∀ b o, b ≠ S → b ≠ A → H b = some o → H' b = some o
theorem Kp2.refl (S A : Addr) (H : Hp) : Kp2 S A H H := fun _ _ _ _ h => h
theorem Kp2.trans {S A : Addr} {H H1 H2 : Hp} (a : Kp2 S A H H1) (b : Kp2 S A H1 H2) : Kp2 S A H H2 := fun c o n m h => b c o n m (a c o n m h)
theorem Kp2.same {S A : Addr} {H H1 : Hp} (a : Same H H1) : Kp2 S A H H1 := fun c o _ _ h => a c o h
theorem StOk.same {K : PySem.W.Frag} {H H' : Hp} {S A B : Addr} {n : Nat} (s : Same H H') (x : StOk K H S A B n) : StOk K H' S A B n := by
  obtain ⟨t, as, bs, h1, h2, h3, h4, h5, h6⟩ := x.ex
  exact ⟨t, as, bs, s _ _ h1, s _ _ h2, s _ _ h3, h4, h5, h6⟩
theorem StOk.le {K : PySem.W.Frag} {H : Hp} {S A B : Addr} {n m : Nat} (x : StOk K H S A B n) (h : n ≤ m) : StOk K H S A B m := by
  obtain ⟨t, as, bs, h1, h2, h3, h4, h5, h6⟩ := x.ex
  exact ⟨t, as, bs, h1, h2, h3, h4, h5, by omega⟩
theorem Kp2.free {K : PySem.W.Frag} {H H' : Hp} {S A B : Addr} {n : Nat} (k : Kp2 S A H H') (x : StOk K H' S A B n) {l : Addr} (h : H' l = none) : H l = none := by
  obtain ⟨t, as, bs, h1, h2, _⟩ := x.ex
  cases z : H l with
  | none => rfl
  | some o =>
    have nS : l ≠ S := fun e => by rw [e, h1] at h; cases h
    have nA : l ≠ A := fun e => by rw [e, h2] at h; cases h
    rw [k _ _ nS nA z] at h
    cases h
theorem StOk.ne {K : PySem.W.Frag} {H : Hp} {S A B : Addr} {n : Nat} (x : StOk K H S A B n) {l : Addr} (h : H l = none) : l ≠ S ∧ l ≠ A ∧ l ≠ B := by
  obtain ⟨t, as, bs, h1, h2, h3, _⟩ := x.ex
  exact ⟨fun e => (by rw [e, h1] at h; cases h), fun e => (by rw [e, h2] at h; cases h), fun e => (by rw [e, h3] at h; cases h)⟩
theorem StOk.upd {K : PySem.W.Frag} {H : Hp} {S A B : Addr} {n : Nat} (x : StOk K H S A B n) {l : Addr} (h : l ≠ S ∧ l ≠ A ∧ l ≠ B) (o : HO) : StOk K (upd H l o) S A B n := by
  obtain ⟨t, as, bs, h1, h2, h3, h4, h5, h6⟩ := x.ex
  exact ⟨t, as, bs, by rw [upd_ne (Ne.symm h.1)]; exact h1, by rw [upd_ne (Ne.symm h.2.1)]; exact h2, by rw [upd_ne (Ne.symm h.2.2)]; exact h3, h4, h5, h6⟩
def spDraw (K : PySem.W.Frag) : Sp := fun vs H Q _ => ∃ (S A B : Addr) (n : Nat) (m : Int), vs = [.ref S, .int m] ∧ StOk K H S A B n ∧ n < 1000000 ∧ 0 < m ∧ m < 2 ^ 60 ∧
  ∀ H' (v : Nat), Kp2 S A H H' → StOk K H' S A B (n + 1) → (v : Int) < m → Q (.int v) H'
def spStream (K : PySem.W.Frag) : Sp := fun vs H Q _ => ∃ (a : Addr) (ns : List Int), vs = [.ref a] ∧ SqL K H a (ns.map V.int) ∧ ns.length ≤ 1000 ∧
  ∀ H' S A B, Same H H' → H S = none → H A = none → StOk K H' S A B 0 → Q (.ref S) H'
section
variable {P : Program} {w : World} {K : PySem.W.Frag} {mg : Str → Option Value} {base : Heap} {f g : Addr} {fd gd : FuncData} {k : Nat}
def absI (i : Int) : Int := if i < 0 then -i else i
theorem scStream : FnScope ["_law_script", "_law_cells", "_law_cell"] ["_law_script"] (defScope sStream) := ⟨rfl, rfl, rfl, by decide +kernel, rfl, by decide +kernel, by decide +kernel⟩
theorem scDraw : FnScope ["_law_stream_here", "_law_many", "_law_rest", "_law_turn", "_law_cell", "_law_mixed"] ["_law_stream_here", "_law_many"] (defScope sDraw) := ⟨rfl, rfl, rfl, by decide +kernel, rfl, by decide +kernel, by decide +kernel⟩
theorem boot_abs' : bootBuiltins "abs" = some (.builtin "abs") := by decide +kernel
theorem ok_stream (F : Fun K "_law_stream" "_law_stream" sStream f fd) (ma : mg "abs" = none) (ml : mg "len" = none) : FnOk P w K mg base CX0 (k + 1) f fd ["_law_script"] (spStream K) := by
  refine F.ok scStream (fun vs H Q E h => ?_) (fun cdv A outer s H vs Q E hr h => ?_)
  · obtain ⟨_, _, rfl, _⟩ := h
    rfl
  obtain ⟨a, ns, rfl, hS, hlen, q⟩ := h
  refine ⟨_, pss_cons (ps_setLc (i := 1) (own := [("_law_cell", 2)]) (g := gName 2) (tt := tYes) rfl scStream.nd rfl rfl (sw_true rfl rfl rfl (by decide +kernel)) (pi_list (pv 0))
      (blkOk_by (N := ["_law_script", "_law_cells", "_law_cell"]) (sc := defScope sStream) (by decide +kernel)) (fun _ _ _ _ _ => pg_name (i := 2) scStream.nd rfl (Or.inl rfl)) (fun _ _ _ _ _ => pts_nil)
      (fun _ _ _ _ _ => pe_callB call_abs (by rfl) ma boot_abs' (pa_cons (pv 2) pa_nil)))
    (pss_one (ps_ret (pe_lst (pa_cons (pe_lc (own := [("_law_cell", 2)]) (g := gName 2) rfl scStream.nd (pi_list (pv 1))
      (blkOk_by (N := ["_law_script", "_law_cells", "_law_cell"]) (sc := defScope sStream) (by decide +kernel)) (fun _ _ _ _ _ => pg_name (i := 2) scStream.nd rfl (Or.inl rfl))
      (fun _ _ _ _ _ => pts_one (pt_cmp (pc_ge (pv 2) (pe_op op_pow pe_int pe_int)))) (fun _ _ _ _ _ => pv 2))
      (pa_cons (pe_op op_cat (pv 1) (pe_lst (pa_cons (pe_op op_add (pe_callB call_len_seq (by rfl) ml boot_len (pa_cons (pv 1) pa_nil)) pe_int) pa_nil))) (pa_cons pe_int pa_nil)))))), ?_⟩
  refine ⟨.ref a, rfl, a, rfl, ⟨_, hS⟩, fun D hD => ?_⟩
  have s1 : Same H (upd H D (.lst [])) := same_new hD _
  refine lc_list (xs := ns.map V.int) (Pv := fun i H3 => Same H H3 ∧ H3 D = some (.lst (((ns.map absI).take i).map V.int))) ⟨s1, upd_same⟩ (fun i H3 hi hp => hp.1.seq hS) (fun i x H3 hx hp => ?_) (fun H3 hp => ?_)
  · obtain ⟨sm, eD⟩ := hp
    rw [List.getElem?_map] at hx
    obtain ⟨t, ht, rfl⟩ := Option.map_eq_some_iff.mp hx
    have hi : i < ns.length := (List.getElem?_eq_some_iff.mp ht).1
    refine ⟨rfl, ?_⟩
    refine ⟨.int t, rfl, t, rfl, _, eD, ?_, ?_, ?_⟩
    · rw [List.length_map, List.length_take, List.length_map]
      exact small1000 (by omega)
    · intro b u e
      have nb : b ≠ D := ne_of_none e hD
      rw [upd_ne nb]
      exact sm _ _ e
    · have hx2 : (ns.map absI)[i]? = some (absI t) := by rw [List.getElem?_map, ht]; rfl
      rw [upd_same, take_snoc hx2, List.map_append]
      rfl
  obtain ⟨sm, eD⟩ := hp
  rw [show (ns.map V.int).length = (ns.map absI).length by rw [List.length_map, List.length_map], List.take_length] at eD
  refine ⟨.ref D, rfl, D, rfl, ⟨_, SqL.of eD⟩, fun D2 hD2 => ?_⟩
  have s2 : Same H3 (upd H3 D2 (.lst [])) := same_new hD2 _
  refine lc_list (xs := (ns.map absI).map V.int) (Pv := fun i H4 => Same H3 H4 ∧ ∃ acc : List Int, acc.length ≤ i ∧ H4 D2 = some (.lst (acc.map V.int))) ⟨s2, [], Nat.le_refl _, upd_same⟩ (fun i H4 hi hp => hp.1.seq (SqL.of eD)) (fun i x H4 hx hp => ?_) (fun H4 hp => ?_)
  · obtain ⟨sm4, acc, hacc, eA⟩ := hp
    rw [List.getElem?_map] at hx
    obtain ⟨t, ht, rfl⟩ := Option.map_eq_some_iff.mp hx
    have hi : i < ns.length := by
      have := (List.getElem?_eq_some_iff.mp ht).1
      rw [List.length_map] at this
      exact this
    refine ⟨rfl, ?_⟩
    refine ⟨.int t, rfl, 10, 18, rfl, rfl, ⟨by decide, by decide, by decide⟩, _, _, rfl, rfl, _, rfl, ite2 (fun e => ?_) (fun e => ?_)⟩
    · refine ⟨.int t, rfl, _, eA, ?_, ?_, acc ++ [t], ?_, ?_⟩
      · rw [List.length_map]
        exact small1000 (by omega)
      · intro b u e
        have nb : b ≠ D2 := ne_of_none e hD2
        rw [upd_ne nb]
        exact sm4 _ _ e
      · rw [List.length_append]
        exact Nat.add_le_add_right hacc 1
      · rw [upd_same, List.map_append]
        rfl
    · exact ⟨sm4, acc, Nat.le_succ_of_le hacc, eA⟩
  obtain ⟨sm4, acc, hacc, eA⟩ := hp
  have eD4 := sm4 _ _ eD
  refine ⟨.ref D, rfl, .ref D, rfl, D, _, rfl, .inl (SqL.of eD4), _, 17, rfl, rfl, by show 1 ≤ sizeLine; decide, fun p1 hp1 => ?_⟩
  have s5 : Same H4 (upd H4 p1 (.lst [.int ((((ns.map absI).map V.int).length : Int) + 17)])) := same_new hp1 _
  refine ⟨D, p1, _, _, rfl, rfl, s5 _ _ eD4, upd_same, ?_, fun B hB => ?_⟩
  · rw [List.length_map, List.length_map]
    show ns.length + 1 ≤ 16777216
    omega
  refine ⟨by show 3 ≤ sizeLine; decide, fun S hS2 => ?_⟩
  have s6 := same_new hB (HO.lst ((ns.map absI).map V.int ++ [V.int ((((ns.map absI).map V.int).length : Int) + 17)]))
  have s7 := same_new hS2 (HO.lst [V.ref D2, V.ref B, V.int 0])
  have sA := ((sm.trans sm4).trans s5).trans s6
  have nAB : D2 ≠ B := ne_of_none (s5 _ _ eA) hB
  refine q _ S D2 B (sA.trans s7) (sA.free hS2) (sm.free hD2) ⟨0, acc, ns.map absI ++ [(((ns.map absI).map V.int).length : Int) + 17], upd_same, s7 _ _ (s6 _ _ (s5 _ _ eA)), s7 _ _ ?_, nAB, by simp, Nat.le_refl _⟩
  rw [upd_same, List.map_append]
  rfl
theorem ok_draw (F : Fun K "_law_draw" "_law_draw" sDraw f fd) (ml : mg "len" = none) : FnOk P w K mg base CX0 (k + 1) f fd ["_law_stream_here", "_law_many"] (spDraw K) := by
  refine F.ok scDraw (fun vs H Q E h => ?_) (fun cdv A outer s H vs Q E hr h => ?_)
  · obtain ⟨_, _, _, _, _, rfl, _⟩ := h
    rfl
  obtain ⟨S, A, B, n, m, rfl, hst, hn, hm, hm2, q⟩ := h
  refine ⟨_, pss_cons (ps_while PassesOwn.never (pt_cmpR (op_neD hr.units) (pe_ix ix_list (pv 0) pe_int (fun _ _ => rfl)) (pe_lst pa_nil) (nomark _))
      (pss_cons (ps_set (i := 2) scDraw.nd rfl (.inl rfl) (pe_ix ix_list (pe_ix ix_list (pv 0) pe_int (fun _ _ => rfl)) pe_int (fun _ _ => rfl)))
      (pss_cons (ps_if (pt_cmp (pc_gt (pv 2) pe_int))
        (pss_cons (ps_asg (pe_op op_fdivW (pv 2) (pv 1)) (pg_sub (pe_ix ix_list (pv 0) pe_int (fun _ _ => rfl)) pe_int set_list))
        (pss_one (ps_ret (pe_op op_mod (pv 2) (pv 1))))) pss_nil)
      (pss_one (ps_expr (pe_bm PySem.F.plainAttrs_list PySem.F.slot_list_pop PySem.F.type_list_pop mt_popAt (pe_ix ix_list (pv 0) pe_int (fun _ _ => rfl)) (pa_cons pe_int pa_nil)))))))
    (pss_cons (ps_set (i := 3) scDraw.nd rfl (.inl rfl) (pe_op op_add (pe_ix ix_list (pv 0) pe_int (fun _ _ => rfl)) pe_int))
    (pss_cons (ps_asg (pv 3) (pg_sub (pv 0) pe_int set_list))
    (pss_cons (ps_set (i := 4) scDraw.nd rfl (.inl rfl) (pe_op op_mod (pe_ix ix_list (pe_ix ix_list (pv 0) pe_int (fun _ _ => rfl)) (pe_op op_mod (pv 3) (pe_callB call_len_seq (by rfl) ml boot_len (pa_cons (pe_ix ix_list (pv 0) pe_int (fun _ _ => rfl)) pa_nil))) (fun _ _ => rfl)) pe_int))
    (pss_cons (ps_set (i := 5) scDraw.nd rfl (.inl rfl) (pe_op op_mod (pe_op op_add (pe_op op_add (pe_op op_mul (pv 4) (pe_op op_add pe_int (pe_op op_mul pe_int (pv 3)))) (pe_op op_mul (pe_op op_mul pe_int (pv 3)) (pv 3))) pe_int) pe_int))
    (pss_one (ps_ret (pe_op op_mod (pe_op op_fdiv (pe_op op_mod (pe_op op_mul (pv 5) (pv 5)) pe_int) pe_int) (pv 1)))))))), ?_⟩
  obtain ⟨t0, as, bs, eS, eA, eB, nAB, hb, ht⟩ := hst.ex
  have nSA : S ≠ A := by
    intro z
    rw [z, eA] at eS
    have z2 := (HO.lst.inj (Option.some.inj eS))
    cases as with
    | nil => cases z2
    | cons x as => cases z2
  have nSB : S ≠ B := by
    intro z
    rw [z, eB] at eS
    have z2 := (HO.lst.inj (Option.some.inj eS))
    cases bs with
    | nil => cases z2
    | cons x bs => cases z2
  refine ⟨fun j σ H3 => ∃ (as : List Int) (y2 y3 y4 y5 : Option V), j = as.length ∧ σ = [some (.ref S), some (.int m), y2, y3, y4, y5] ∧ Kp2 S A H H3 ∧ H3 S = some (.lst [.ref A, .ref B, .int t0]) ∧ H3 A = some (.lst (as.map V.int)) ∧ H3 B = some (.lst (bs.map V.int)),
    ⟨_, as, none, none, none, none, rfl, rfl, Kp2.refl _ _ _, eS, eA, eB⟩, ?_⟩
  rintro j σ H3 ⟨as, y2, y3, y4, y5, rfl, rfl, kp, eS, eA, eB⟩
  refine ⟨.ref S, rfl, S, _, 0, .ref A, rfl, rfl, SqL.of eS, rfl, Nat.zero_le _, fun l0 hl0 => ?_⟩
  have s0 := same_new hl0 (HO.lst [])
  refine ⟨lI as, lI [], dp_lst (SqL.of (s0 _ _ eA)), dp_lst (SqL.of (by rw [upd_same]; rfl)), shaped_lI _, shaped_lI _, _, rfl, ite2 (fun e => ?_) (fun e => ?_)⟩
  · rw [eqv_lI] at e
    cases as with
    | nil => exact absurd e (by decide)
    | cons x as =>
    have eS1 := s0 _ _ eS
    have eA1 := s0 _ _ eA
    have eB1 := s0 _ _ eB
    have kp1 : Kp2 S A H _ := kp.trans (Kp2.same s0)
    refine ⟨fun σ H4 => ∃ (as2 : List Int) (y2 y3 y4 y5 : Option V), as2.length < as.length + 1 ∧ σ = [some (.ref S), some (.int m), y2, y3, y4, y5] ∧ Kp2 S A H H4 ∧ H4 S = some (.lst [.ref A, .ref B, .int t0]) ∧ H4 A = some (.lst (as2.map V.int)) ∧ H4 B = some (.lst (bs.map V.int)), ?_, ?_⟩
    · rintro σ' H' ⟨as2, z2, z3, z4, z5, hlt, rest⟩
      exact ⟨_, hlt, as2, z2, z3, z4, z5, rfl, rest⟩
    have at0 : atI ((x :: as).map V.int) 0 = some (.int x) := atI_nat (j := 0) rfl
    refine ⟨.ref S, rfl, S, _, 0, .ref A, rfl, rfl, SqL.of eS1, rfl, A, _, 0, .int x, rfl, rfl, SqL.of eA1, at0, ?_⟩
    refine ⟨.int x, rfl, x, 0, rfl, rfl, _, rfl, ite2 (fun e => ?_) (fun e => ?_)⟩
    · have e' : 0 < x := of_decide_eq_true e
      refine ⟨.int x, rfl, .int m, rfl, x, m, rfl, rfl, wide_div (b := 60) hm (by omega) (by decide) (by decide), ?_⟩
      refine ⟨.ref S, rfl, S, _, 0, .ref A, rfl, rfl, SqL.of eS1, rfl, A, _, 0, 0, rfl, rfl, eA1, ?_, ?_⟩
      · unfold ixN
        rw [if_pos (by decide), if_pos (by rw [List.length_map, List.length_cons]; omega)]
        rfl
      refine ⟨.int x, rfl, .int m, rfl, x, m, rfl, rfl, hm, ?_⟩
      have h1 := Int.emod_nonneg x (by omega : m ≠ 0)
      have h2 := Int.emod_lt_of_pos x hm
      have ev : (((x % m).toNat : Nat) : Int) = x % m := by omega
      have kA : Kp2 S A H (upd (upd H3 l0 (.lst [])) A (.lst (((x :: as).map V.int).set 0 (.int (x / m))))) := kp1.trans fun b o _ n hb => by rw [upd_ne n]; exact hb
      have q2 := q _ (x % m).toNat kA ⟨t0, (x / m) :: as, bs, by rw [upd_ne nSA]; exact eS1, by rw [upd_same]; rfl, by rw [upd_ne (Ne.symm nAB)]; exact eB1, nAB, hb, by omega⟩ (by omega)
      rw [ev] at q2
      exact q2
    · refine ⟨.ref S, rfl, S, _, 0, .ref A, rfl, rfl, SqL.of eS1, rfl, .inl ⟨rfl, _, SqL.of eA1⟩, A, _, 0, 0, .int x, rfl, rfl, eA1, by decide, by decide, ?_, rfl, ?_⟩
      · unfold seqIndex?
        simp
      refine ⟨as, _, _, _, _, Nat.lt_succ_self _, rfl, kp1.trans fun b o _ n hb => by rw [upd_ne n]; exact hb, by rw [upd_ne nSA]; exact eS1, by rw [upd_same]; rfl, by rw [upd_ne (Ne.symm nAB)]; exact eB1⟩
  · have eS1 := s0 _ _ eS
    have eA1 := s0 _ _ eA
    have eB1 := s0 _ _ eB
    have kp1 : Kp2 S A H _ := kp.trans (Kp2.same s0)
    refine ⟨.ref S, rfl, S, _, 2, .int t0, rfl, rfl, SqL.of eS1, rfl, _, 1, rfl, rfl, ?_⟩
    refine ⟨_, rfl, .ref S, rfl, S, _, 2, 2, rfl, rfl, eS1, rfl, ?_⟩
    have kp2 : Kp2 S A H (upd (upd H3 l0 (.lst [])) S (.lst ([.ref A, .ref B, .int (t0 : Int)].set 2 (.int ((t0 : Int) + 1))))) := kp1.trans fun b o n _ hb => by rw [upd_ne n]; exact hb
    have eS2 : (upd (upd H3 l0 (.lst [])) S (.lst ([.ref A, .ref B, .int (t0 : Int)].set 2 (.int ((t0 : Int) + 1))))) S = some (.lst [.ref A, .ref B, .int ((t0 : Int) + 1)]) := upd_same
    have eA2 : (upd (upd H3 l0 (.lst [])) S (.lst ([.ref A, .ref B, .int (t0 : Int)].set 2 (.int ((t0 : Int) + 1))))) A = some (.lst (as.map V.int)) := by rw [upd_ne (Ne.symm nSA)]; exact eA1
    have eB2 : (upd (upd H3 l0 (.lst [])) S (.lst ([.ref A, .ref B, .int (t0 : Int)].set 2 (.int ((t0 : Int) + 1))))) B = some (.lst (bs.map V.int)) := by rw [upd_ne (Ne.symm nSB)]; exact eB1
    have hbl : 0 < bs.length := List.length_pos_iff.mpr hb
    have hmod1 := Int.emod_nonneg ((t0 : Int) + 1) (by omega : ((bs.length : Nat) : Int) ≠ 0)
    have hmod2 := Int.emod_lt_of_pos ((t0 : Int) + 1) (by omega : 0 < ((bs.length : Nat) : Int))
    have hj : (((t0 : Int) + 1) % ((bs.length : Nat) : Int)).toNat < bs.length := by omega
    refine ⟨.ref S, rfl, S, _, 1, .ref B, rfl, rfl, SqL.of eS2, rfl, .int ((t0 : Int) + 1), rfl, .ref S, rfl, S, _, 1, .ref B, rfl, rfl, SqL.of eS2, rfl, B, _, rfl, .inl (SqL.of eB2), _, _, rfl, rfl, ?_, ?_⟩
    · rw [List.length_map]; omega
    refine ⟨B, _, _, .int (bs[(((t0 : Int) + 1) % ((bs.length : Nat) : Int)).toNat]'hj), rfl, rfl, SqL.of eB2, ?_, ?_⟩
    · refine at_of (j := (((t0 : Int) + 1) % ((bs.length : Nat) : Int)).toNat) ?_ ?_
      · rw [List.length_map]; omega
      · rw [List.getElem?_map, List.getElem?_eq_getElem hj]; rfl
    generalize hy : bs[(((t0 : Int) + 1) % ((bs.length : Nat) : Int)).toNat]'hj = y
    refine ⟨y, 2147483587, rfl, rfl, (show (0 : Int) < 2147483587 by decide), ?_⟩
    have hc1 := Int.emod_nonneg y (by decide : (2147483587 : Int) ≠ 0)
    have hc2 := Int.emod_lt_of_pos y (by decide : (0 : Int) < 2147483587)
    generalize hcv : y % 2147483587 = cv at hc1 hc2
    refine ⟨.int cv, by rw [← hcv]; rfl, .int ((t0 : Int) + 1), rfl, 48271, (t0 : Int) + 1, rfl, rfl, .inl (by decide), 16807, _, rfl, rfl, cv, _, rfl, rfl, .inl (by omega), .int ((t0 : Int) + 1), rfl, 69621, (t0 : Int) + 1, rfl, rfl, .inl (by decide),
      .int ((t0 : Int) + 1), rfl, _, (t0 : Int) + 1, rfl, rfl, .inr (by omega), _, _, rfl, rfl, _, 5, rfl, rfl, _, 2147483647, rfl, rfl, (show (0 : Int) < 2147483647 by decide), ?_⟩
    generalize hz : (cv * (16807 + 48271 * ((t0 : Int) + 1)) + 69621 * ((t0 : Int) + 1) * ((t0 : Int) + 1) + 5) = z
    have hx1 := Int.emod_nonneg z (by decide : (2147483647 : Int) ≠ 0)
    have hx2 := Int.emod_lt_of_pos z (by decide : (0 : Int) < 2147483647)
    generalize hxv : z % 2147483647 = mx at hx1 hx2
    refine ⟨.int mx, by rw [← hxv, ← hz]; rfl, .int mx, by rw [← hxv, ← hz]; rfl, mx, mx, rfl, rfl, .inl (by omega), _, 2147483629, rfl, rfl, (show (0 : Int) < 2147483629 by decide), _, 16, rfl, rfl, ⟨by decide, by decide⟩, .int m, rfl, _, m, rfl, rfl, hm, ?_⟩
    have h1 := Int.emod_nonneg (mx * mx % 2147483629 / 16) (by omega : m ≠ 0)
    have h2 := Int.emod_lt_of_pos (mx * mx % 2147483629 / 16) hm
    have ev : (((mx * mx % 2147483629 / 16 % m).toNat : Nat) : Int) = mx * mx % 2147483629 / 16 % m := by omega
    have q2 := q _ (mx * mx % 2147483629 / 16 % m).toNat kp2 ⟨t0 + 1, as, bs, eS2, eA2, eB2, nAB, hb, by omega⟩ (by omega)
    rw [ev] at q2
    exact q2
end
end KP
end PartKW5

section PartKW6
/-! _law_missing, _law_ready, _law_counted, _law_swapped -/
namespace KP
open PySem L2
theorem RdH_snoc : ∀ (p : List Nat) (h t : Nat), RdH h (p ++ [t]) ↔ RdH h p ∧ t ≤ KM.hh h p
  | [], h, t => ⟨fun q => ⟨trivial, q.1⟩, fun q => ⟨q.2, trivial⟩⟩
  | u :: p, h, t => by
    have ih := RdH_snoc p (h + 1 - u) t
    constructor
    · rintro ⟨q1, q2⟩
      exact ⟨⟨q1, (ih.mp q2).1⟩, (ih.mp q2).2⟩
    · rintro ⟨⟨q1, q2⟩, q3⟩
      exact ⟨q1, ih.mpr ⟨q2, q3⟩⟩
theorem OkR_snoc : ∀ (p : List Nat) (h t : Nat), KM.OkR h p → t < 6 → t ≤ KM.hh h p → KM.OkR h (p ++ [t])
  | [], _, _, _, h1, h2 => ⟨h1, h2, trivial⟩
  | _ :: p, _, t, ⟨q1, q2, q3⟩, h1, h2 => ⟨q1, q2, OkR_snoc p _ t q3 h1 h2⟩
theorem OkR_of : ∀ {r : List Nat} {h : Nat}, RdH h r → (∀ t ∈ r, t < 6) → KM.OkR h r
  | [], _, _, _ => trivial
  | t :: r, _, ⟨q1, q2⟩, s => ⟨s t (List.mem_cons_self ..), q1, OkR_of q2 fun u hu => s u (List.mem_cons_of_mem _ hu)⟩
/-- two neighbours exchanged -/
def sw (r : List Nat) (i : Nat) : List Nat := r.take i ++ ((r.drop i).take 2).reverse ++ r.drop (i + 2)
def spMissing (K : PySem.W.Frag) : Sp := fun vs H Q _ => ∃ (a : Addr) (r : List Nat), vs = [.ref a] ∧ SqT K H a ((rl r).map V.int) ∧
  ∀ H' l (m d : Int), Same H H' → H l = none → H' l = some (.lst [.int m, .int d]) → 0 ≤ m → (m = 0 ↔ RdH 0 r) → Q (.ref l) H'
def spLReady (K : PySem.W.Frag) : Sp := fun vs H Q _ => ∃ (S A B : Addr) (n : Nat), vs = [.ref S, .int 10] ∧ StOk K H S A B n ∧ n + 12 < 1000000 ∧
  ∀ H' p r, Kp2 S A H H' → StOk K H' S A B (n + 12) → H p = none → KR.NTup H' p ((rl r).map V.int) → KM.OkR 0 r → r ≠ [] → r.length ≤ 10 → Q (.ref p) H'
def spSwapped (K : PySem.W.Frag) : Sp := fun vs H Q _ => ∃ (a : Addr) (r : List Nat) (i : Nat), vs = [.ref a, .int i] ∧ KR.NTup H a ((rl r).map V.int) ∧ r.length ≤ 10 ∧ i + 1 < r.length ∧
  ∀ H' p, Same H H' → KR.NTup H' p ((rl (sw r i)).map V.int) → Q (.ref p) H'
section
variable {P : Program} {w : World} {K : PySem.W.Frag} {mg : Str → Option Value} {base : Heap} {f g : Addr} {fd gd : FuncData} {k : Nat}
theorem scMissing : FnScope ["_law_row", "_law_depth", "_law_missing_here", "_law_token"] ["_law_row"] (defScope sMissing) := ⟨rfl, rfl, rfl, by decide +kernel, rfl, by decide +kernel, by decide +kernel⟩
theorem scLReady : FnScope ["_law_stream_here", "_law_most", "_law_found", "_law_size", "_law_greed", "_law_k"] ["_law_stream_here", "_law_most"] (defScope sLReady) := ⟨rfl, rfl, rfl, by decide +kernel, rfl, by decide +kernel, by decide +kernel⟩
theorem scCounted : FnScope ["_law_row", "_law_token"] ["_law_row"] (defScope sCounted) := ⟨rfl, rfl, rfl, by decide +kernel, rfl, by decide +kernel, by decide +kernel⟩
theorem scSwapped : FnScope ["_law_row", "_law_spot"] ["_law_row", "_law_spot"] (defScope sSwapped) := ⟨rfl, rfl, rfl, by decide +kernel, rfl, by decide +kernel, by decide +kernel⟩
theorem rl_at {r : List Nat} {i : Nat} {x : V} (hx : ((rl r).map V.int)[i]? = some x) : ∃ t, r[i]? = some t ∧ x = .int (t : Int) := by
  unfold rl at hx
  rw [List.getElem?_map, List.getElem?_map] at hx
  obtain ⟨y, hy, rfl⟩ := Option.map_eq_some_iff.mp hx
  obtain ⟨t, ht, rfl⟩ := Option.map_eq_some_iff.mp hy
  exact ⟨t, ht, rfl⟩
theorem ok_missing (F : Fun K "_law_missing" "_law_missing" sMissing f fd) : FnOk P w K mg base CX0 (k + 1) f fd ["_law_row"] (spMissing K) := by
  refine F.ok scMissing (fun vs H Q E h => ?_) (fun cdv A outer s H vs Q E hr h => ?_)
  · obtain ⟨_, _, rfl, _⟩ := h
    rfl
  obtain ⟨a, r, rfl, hS, q⟩ := h
  refine ⟨_, pss_cons (ps_asg (pe_tup (pa_cons pe_int (pa_cons pe_int pa_nil))) (pg_tup rfl (pgs_cons (pg_name (i := 1) scMissing.nd rfl (.inl rfl)) (pgs_cons (pg_name (i := 2) scMissing.nd rfl (.inl rfl)) pgs_nil))))
    (pss_cons (ps_for PassesOwn.never rfl (pi_tup (pv 0)) (pg_name (i := 3) scMissing.nd rfl (.inl rfl))
      (pss_cons (ps_if (pt_cmp (pc_lt (pv 1) (pv 3)))
        (pss_cons (ps_set (i := 2) scMissing.nd rfl (.inl rfl) (pe_op op_sub (pe_op op_add (pv 2) (pv 3)) (pv 1)))
        (pss_one (ps_set (i := 1) scMissing.nd rfl (.inl rfl) (pv 3)))) pss_nil)
      (pss_one (ps_set (i := 1) scMissing.nd rfl (.inl rfl) (pe_op op_add (pe_op op_sub (pv 1) (pv 3)) pe_int)))))
    (pss_one (ps_ret (pe_lst (pa_cons (pv 2) (pa_cons (pv 1) pa_nil)))))), ?_⟩
  refine ⟨by show 2 ≤ sizeLine; decide, fun p hp => ⟨p, _, rfl, SqT.of upd_same, rfl, _, _, rfl, _, _, rfl, rfl, ?_⟩⟩
  have s1 : Same H (upd H p (.tup [.int 0, .int 0])) := same_new hp _
  refine ⟨.ref a, rfl, a, rfl, ⟨_, seqT s1 hS⟩, ?_⟩
  refine for_tup (xs := (rl r).map V.int) (fun i σ H3 => ∃ (d m : Int) (y3 : Option V), σ = [some (.ref a), some (.int d), some (.int m), y3] ∧ Same H H3 ∧ 0 ≤ m ∧ 0 ≤ d ∧ (m = 0 → RdH 0 (r.take i) ∧ d = (KM.hh 0 (r.take i) : Nat)) ∧ (RdH 0 (r.take i) → m = 0))
    ⟨0, 0, none, rfl, s1, by decide, by decide, fun _ => ⟨trivial, rfl⟩, fun _ => rfl⟩ (fun i σ H3 hi hp => ?_) (fun i x σ H3 hx hp => ?_) (fun σ H3 hp => ?_)
  · obtain ⟨_, _, _, _, sm, _⟩ := hp
    exact seqT sm hS
  · obtain ⟨d, m, y3, rfl, sm, hm, hd, h1, h2⟩ := hp
    obtain ⟨t, ht, rfl⟩ := rl_at hx
    refine ⟨.int d, rfl, .int (t : Int), rfl, _, _, rfl, rfl, _, rfl, ite2 (fun e => ?_) (fun e => ?_)⟩
    · have e' : d < (t : Int) := of_decide_eq_true e
      refine ⟨.int m, rfl, .int (t : Int), rfl, m, _, rfl, rfl, .int d, rfl, _, d, rfl, rfl, .int (t : Int), rfl, .int (t : Int), rfl, .int (t : Int), rfl, _, _, rfl, rfl, _, 1, rfl, rfl, ?_⟩
      refine ⟨_, _, _, rfl, sm, ?_, ?_, ?_, ?_⟩
      · show 0 ≤ m + (t : Int) - d
        omega
      · show 0 ≤ (t : Int) - (t : Int) + 1
        omega
      · show m + (t : Int) - d = 0 → _
        intro z
        omega
      · rw [takeN_snoc ht, RdH_snoc]
        rintro ⟨z1, z2⟩
        have m0 := h2 z1
        have := (h1 m0).2
        omega
    · have e' : ¬ d < (t : Int) := fun z => e (decide_eq_true z)
      refine ⟨.int d, rfl, .int (t : Int), rfl, _, _, rfl, rfl, _, 1, rfl, rfl, ?_⟩
      refine ⟨_, _, _, rfl, sm, hm, ?_, ?_, ?_⟩
      · show 0 ≤ d - (t : Int) + 1
        omega
      · intro z
        obtain ⟨z1, z2⟩ := h1 z
        rw [takeN_snoc ht, KM.hh_snoc]
        refine ⟨(RdH_snoc _ _ _).mpr ⟨z1, by omega⟩, ?_⟩
        show d - (t : Int) + 1 = _
        omega
      · rw [takeN_snoc ht, RdH_snoc]
        exact fun z => h2 z.1
  · obtain ⟨d, m, y3, rfl, sm, hm, hd, h1, h2⟩ := hp
    have e : ((rl r).map V.int).length = r.length := by rw [List.length_map, rl_len]
    rw [e, List.take_length] at h1 h2
    refine ⟨.int m, rfl, .int d, rfl, by show 2 ≤ sizeLine; decide, fun l hl => ?_⟩
    exact q _ l m d (sm.trans (same_new hl _)) (sm.free hl) upd_same hm ⟨fun z => (h1 z).1, h2⟩
theorem ok_counted (F : Fun K "_law_counted" "_law_counted" sCounted f fd) (mt : mg "tuple" = none) (mr : mg "range" = none) : FnOk P w K mg base CX0 (k + 1) f fd ["_law_row"] spCounts := by
  refine F.ok scCounted (fun vs H Q E h => ?_) (fun cdv A outer s H vs Q E hr h => ?_)
  · obtain ⟨a, r, rfl, _⟩ := h
    rfl
  obtain ⟨a, r, rfl, hS, q⟩ := h
  refine ⟨_, pss_one (ps_ret (pe_callTy call_tuple_of (by rfl) mt boot_tuple' (pa_cons (pe_lc rfl scCounted.nd
    (pi_range1 (by rfl) mr (pa_cons pe_int pa_nil)) (own := [("_law_token", 1)]) (g := gName 1) (tt := tYes) (te := KR.tBMT (KR.rCntT K) (tVar 0) (tCons (tVar 1) tNil)) (blkOk_by (N := ["_law_row", "_law_token"]) (sc := defScope sCounted) (by decide +kernel))
    (fun _ _ _ _ _ => pg_name (i := 1) scCounted.nd rfl (.inl rfl)) (fun _ _ _ _ _ => pts_nil)
    (fun _ _ _ _ _ => KR.pe_bmT PySem.F.slot_tuple_count PySem.F.type_tuple_count KR.mt_tcount (pv 0) (pa_cons (pv 1) pa_nil) ⟨rfl, rfl, rfl, rfl⟩)) pa_nil))), ?_⟩
  refine ⟨_, rfl, by decide, by decide, fun D hD => ?_⟩
  have s1 : Same H (upd H D (.lst [])) := same_new hD _
  refine lc_range (n := 6) (Pv := fun i H3 => Same H H3 ∧ H3 D = some (.lst (((cl (KM.cnt r)).take i).map V.int))) ⟨s1, upd_same⟩ (fun i H3 hi hp => ?_) (fun H3 hp => ?_)
  · obtain ⟨sm, eD⟩ := hp
    refine ⟨rfl, ?_⟩
    refine ⟨.ref a, rfl, ⟨a, _, rfl, nT sm hS⟩, .int (0 + (i : Int)), rfl, a, rl r, (i : Int), rfl, by rw [Int.zero_add], (nT sm hS).sq, _, eD, ?_, ?_, ?_⟩
    · rw [List.length_map, List.length_take]
      exact small1000 (by rw [cl_len]; omega)
    · intro b u e
      have nb : b ≠ D := ne_of_none e hD
      rw [upd_ne nb]
      exact sm _ _ e
    · rw [upd_same, take_snoc (cl_get hi), List.map_append, count_rl]
      rfl
  · obtain ⟨sm, eD⟩ := hp
    refine ⟨D, _, rfl, .inl ⟨SqL.of eD, fun l hl => ?_⟩⟩
    exact q _ l (sm.trans (same_new hl _)) (sm.free hl) upd_same
theorem ok_lready {fD : Addr} {fdD : FuncData} (F : Fun K "_law_ready" "_law_ready" sLReady f fd) (GD : FnOk P w K mg base CX0 (k + 1) fD fdD ["_law_stream_here", "_law_many"] (spDraw K)) (kD : PySem.W.keepIn K (.ref fD) = true) (bD : Binds K fdD ["_law_stream_here", "_law_many"] [])
    (mD : mg "_law_draw" = some (.ref fD)) (mr : mg "range" = none) (mm : mg "min" = none) (mt : mg "tuple" = none) : FnOk P w K mg base CX0 (k + 2) f fd ["_law_stream_here", "_law_most"] (spLReady K) := by
  refine F.ok scLReady (fun vs H Q E h => ?_) (fun cdv A outer s H vs Q E hr h => ?_)
  · obtain ⟨_, _, _, _, rfl, _⟩ := h
    rfl
  obtain ⟨S, A, B, n, rfl, hst, hn, q⟩ := h
  refine ⟨_, pss_cons (ps_par3 (i := 2) (j := 3) (l := 4) rfl scLReady.nd rfl rfl rfl (by decide) (by decide) (by decide) rfl rfl rfl
      (pa_cons (pe_lst pa_nil) (pa_cons pe_int (pa_cons (pe_op op_add pe_int (pe_call GD hr rfl mD kD bD .nil pass0 (pa_cons (pv 0) (pa_cons pe_int pa_nil)))) pa_nil))) (by rfl))
    (pss_cons (ps_for PassesOwn.never rfl (pi_range1 (by rfl) mr (pa_cons (pe_op op_add pe_int (pe_call GD hr rfl mD kD bD .nil pass0 (pa_cons (pv 0) (pa_cons (pv 1) pa_nil)))) pa_nil)) (pg_name (i := 5) scLReady.nd rfl (.inl rfl))
      (pss_cons (ps_expr (pe_bm PySem.F.plainAttrs_list PySem.F.slot_list_append PySem.F.type_list_append mt_append (pv 2) (pa_cons (pe_callB (call_min2 rfl) (by rfl) mm boot_min'
        (pa_cons (pv 3) (pa_cons (pe_call GD hr rfl mD kD bD .nil pass0 (pa_cons (pv 0) (pa_cons (pe_op op_add (pv 4) pe_int) pa_nil))) pa_nil))) pa_nil)))
      (pss_one (ps_set (i := 3) scLReady.nd rfl (.inl rfl) (pe_op op_sub (pe_op op_add (pv 3) pe_int) (pe_ix ix_list (pv 2) (pe_un un_neg pe_int) (fun _ _ => rfl)))))))
    (pss_one (ps_ret (pe_callTy KR.call_tuple_ofF (by rfl) mt boot_tuple' (pa_cons (pv 2) pa_nil))))), ?_⟩
  refine ⟨Nat.zero_le _, fun o no => ?_⟩
  have so : Same H (upd H o (.lst [])) := same_new no _
  obtain ⟨oS, oA, oB⟩ := hst.ne no
  refine ⟨.ref S, rfl, S, A, B, n, 5, rfl, hst.same so, by omega, by decide, by decide, fun H1 v1 kp1 st1 hv1 => ⟨1, (v1 : Int), rfl, rfl, _, _, _, rfl, ?_⟩⟩
  refine ⟨.ref S, rfl, .int 10, rfl, S, A, B, n + 1, 10, rfl, st1, by omega, by decide, by decide, fun H2 v2 kp2 st2 hv2 => ⟨1, (v2 : Int), rfl, rfl, _, rfl, by omega, by omega, ?_⟩⟩
  have kp3 : Kp2 S A H H2 := (Kp2.same so).trans (kp1.trans kp2)
  have eo2 : H2 o = some (.lst []) := kp2 _ _ oS oA (kp1 _ _ oS oA upd_same)
  have en : (1 + (v2 : Int)).toNat = v2 + 1 := by omega
  rw [en]
  refine for_range (n := v2 + 1) (fun i σ H3 => ∃ (p : List Nat) (y5 : Option V), σ = [some (.ref S), some (.int 10), some (.ref o), some (.int (KM.hh 0 p : Nat)), some (.int (1 + (v1 : Int))), y5] ∧ p.length = i ∧ KM.OkR 0 p ∧ Kp2 S A H H3 ∧ StOk K H3 S A B (n + 2 + i) ∧ H3 o = some (.lst ((rl p).map V.int)))
    ⟨[], none, rfl, rfl, trivial, kp3, st2, eo2⟩ (fun i σ H3 hi hp => ?_) (fun σ H3 hp => ?_)
  · obtain ⟨p, y5, rfl, hlen, hok, kp, st, eo⟩ := hp
    refine ⟨.ref o, rfl, .inl ⟨rfl, _, SqL.of eo⟩, .int (KM.hh 0 p : Nat), rfl, .ref S, rfl, .int (1 + (v1 : Int)), rfl, 1 + (v1 : Int), 1, rfl, rfl, S, A, B, n + 2 + i, 1 + (v1 : Int) + 1, rfl, st, by omega, by omega, by omega, fun H4 v kp4 st4 hv => ?_⟩
    have eo4 : H4 o = some (.lst ((rl p).map V.int)) := kp4 _ _ oS oA eo
    refine ⟨_, (v : Int), rfl, ?_⟩
    have et : ∃ t : Nat, (if (v : Int) < ((KM.hh 0 p : Nat) : Int) then (v : Int) else ((KM.hh 0 p : Nat) : Int)) = (t : Int) ∧ t < 6 ∧ t ≤ KM.hh 0 p := by
      split
      · exact ⟨v, rfl, by omega, by omega⟩
      · exact ⟨KM.hh 0 p, rfl, by omega, Nat.le_refl _⟩
    obtain ⟨t, et, ht6, hth⟩ := et
    rw [et]
    refine ⟨o, _, _, rfl, rfl, eo4, ?_, ?_⟩
    · rw [List.length_map, rl_len]
      exact small1000 (by omega)
    refine ⟨.int (KM.hh 0 p : Nat), rfl, _, 1, rfl, rfl, .ref o, rfl, 1, rfl, o, _, -1, .int (t : Int), rfl, rfl, SqL.of upd_same, atI_last _ _, _, (t : Int), rfl, rfl, ?_⟩
    refine ⟨p ++ [t], some (.int (0 + (i : Int))), ?_, by rw [List.length_append, hlen]; rfl, OkR_snoc p 0 t hok ht6 hth, fun b u n1 n2 hb => ?_, ?_, ?_⟩
    · rw [KM.hh_snoc]
      have e6 : ((KM.hh 0 p + 1 - t : Nat) : Int) = ((KM.hh 0 p : Nat) : Int) + 1 - (t : Int) := by omega
      rw [e6]
      rfl
    · rw [upd_ne (ne_of_none hb no)]
      exact (kp.trans kp4) b u n1 n2 hb
    · exact StOk.upd st4 ⟨oS, oA, oB⟩ _
    · rw [upd_same]
      unfold rl
      rw [List.map_append, List.map_append]
      rfl
  · obtain ⟨p, y5, rfl, hlen, hok, kp, st, eo⟩ := hp
    refine ⟨.ref o, rfl, o, _, rfl, SqL.of eo, fun l ob hl hob => ?_⟩
    have sl := same_new hl (HO.frz ob (.tup ((rl p).map V.int)))
    refine q _ l p (kp.trans (Kp2.same sl)) ((st.le (by omega)).same sl) ?_ (KR.NTup.of hob) hok ?_ (by omega)
    · exact kp.free st hl
    · intro z
      rw [z] at hlen
      cases hlen
theorem slA_ok {H : Hp} {a : Addr} {xs : List V} {lo hi : Option Int} {Q : VK} (ha : SqT K H a xs) (q : ∀ H' p, Same H H' → SqT K H' p (cutV xs lo hi) → Q (.ref p) H') : rSlA K (.ref a) lo hi H Q := by
  refine ⟨a, xs, rfl, ha, fun z => ?_, fun _ p hp => q _ p (same_new hp _) (SqT.of upd_same)⟩
  have e : cutV xs lo hi = xs := by
    unfold cutV
    rw [z.1, z.2, List.drop_zero, Nat.sub_zero, List.take_length]
  exact q H a (Same.refl H) (by rw [e]; exact ha)
theorem cat_ok {H : Hp} {a b : Addr} {xs ys : List V} {Q : VK} (ha : SqT K H a xs) (hb : SqT K H b ys) (hz : xs.length + ys.length ≤ sizeLine) (h0 : xs = [] → KR.NTup H b ys) (h1 : xs ≠ [] → ys = [] → KR.NTup H a xs)
    (q : ∀ H' p, Same H H' → KR.NTup H' p (xs ++ ys) → Q (.ref p) H') : KR.rCatF K (.ref a) (.ref b) H Q := by
  refine ⟨a, b, xs, ys, rfl, rfl, ha, hb, hz, fun z => ?_, fun z z2 => ?_, fun _ _ p o hp ho => q _ p (same_new hp _) (KR.NTup.of ho)⟩
  · subst z
    exact q H b (Same.refl H) (h0 rfl)
  · subst z2
    exact q H a (Same.refl H) (by rw [List.append_nil]; exact h1 z rfl)
theorem ok_swapped (F : Fun K "_law_swapped" "_law_swapped" sSwapped f fd) : FnOk P w K mg base CX0 (k + 1) f fd ["_law_row", "_law_spot"] (spSwapped K) := by
  refine F.ok scSwapped (fun vs H Q E h => ?_) (fun cdv A outer s H vs Q E hr h => ?_)
  · obtain ⟨_, _, _, rfl, _⟩ := h
    rfl
  obtain ⟨a, r, i, rfl, hN, hlen, hi, q⟩ := h
  refine ⟨_, pss_one (ps_ret (pe_op KR.op_catF (pe_op KR.op_catF (pe_slice sl_tupA (pv 0) po_none (po_some (pv 1)))
    (KR.pe_rev2F (pe_slice sl_tupA (pv 0) (po_some (pv 1)) (po_some (pe_op op_add (pv 1) pe_int)))))
    (pe_slice sl_tupA (pv 0) (po_some (pe_op op_add (pv 1) pe_int)) po_none))), ?_⟩
  generalize hX : (rl r).map V.int = X at hN
  have lX : X.length = r.length := by rw [← hX, List.length_map, rl_len]
  have eX : (rl (sw r i)).map V.int = (X.take i ++ ((X.drop i).take 2).reverse) ++ X.drop (i + 2) := by
    rw [← hX]
    unfold sw rl
    simp [List.map_append, List.map_take, List.map_drop, List.map_reverse]
  rw [eX] at q
  have hi0 : i < X.length := by omega
  have hi1 : i + 1 < X.length := by omega
  have ed : X.drop i = X[i] :: X[i + 1] :: X.drop (i + 2) := by
    rw [List.drop_eq_getElem_cons hi0, List.drop_eq_getElem_cons hi1]
  have c1 : cutV X none (some (i : Int)) = X.take i := by
    unfold cutV
    rw [HT.sIx_nat, show HT.sIx X.length 0 none = 0 from rfl, List.drop_zero]
    congr 1
    omega
  have c2 : cutV X (some (i : Int)) (some ((i : Int) + 2)) = [X[i], X[i + 1]] := by
    unfold cutV
    have z : ((i : Int) + 2) = ((i + 2 : Nat) : Int) := by omega
    rw [z, HT.sIx_nat, HT.sIx_nat]
    rw [show min i X.length = i by omega, ed]
    rw [show min (i + 2) X.length - i = 2 by omega]
    rfl
  have c3 : cutV X (some ((i : Int) + 2)) none = X.drop (i + 2) := by
    unfold cutV
    have z : ((i : Int) + 2) = ((i + 2 : Nat) : Int) := by omega
    rw [z, HT.sIx_nat, show HT.sIx X.length X.length none = X.length from rfl]
    rw [show min (i + 2) X.length = i + 2 by omega]
    exact List.take_of_length_le (by rw [List.length_drop]; omega)
  rw [ed, show (X[i] :: X[i + 1] :: X.drop (i + 2)).take 2 = [X[i], X[i + 1]] from rfl, show [X[i], X[i + 1]].reverse = [X[i + 1], X[i]] from rfl] at q
  refine ⟨.ref a, rfl, .int (i : Int), rfl, (i : Int), rfl, slA_ok hN.sq fun H1 p1 s1 h1 => ?_⟩
  rw [c1] at h1
  refine ⟨.ref a, rfl, .int (i : Int), rfl, (i : Int), rfl, .int (i : Int), rfl, (i : Int), 2, rfl, rfl, _, rfl, slA_ok (nT s1 hN).sq fun H2 p2 s2 h2 => ?_⟩
  rw [c2] at h2
  refine ⟨p2, X[i], X[i + 1], rfl, h2, fun p3 o3 hp3 ho3 => ?_⟩
  have s3 := same_new hp3 (HO.frz o3 (.tup [X[i + 1], X[i]]))
  have s13 := s2.trans s3
  refine cat_ok (seqT s13 h1) (KR.NTup.of (o := o3) ho3).sq ?_ (fun _ => KR.NTup.of ho3) (fun _ z => by cases z) fun H4 p4 s4 h4 => ?_
  · rw [List.length_take]
    show min i X.length + 2 ≤ 16777216
    omega
  have sA := (s1.trans s13).trans s4
  refine ⟨.ref a, rfl, .int (i : Int), rfl, (i : Int), 2, rfl, rfl, _, rfl, ?_⟩
  unfold tNoPart
  refine slA_ok (nT sA hN).sq fun H5 p5 s5 h5 => ?_
  rw [c3] at h5
  refine cat_ok (nT s5 h4).sq h5 ?_ (fun z => ?_) (fun _ _ => nT s5 h4) fun H6 p6 s6 h6 => q H6 p6 ((sA.trans s5).trans s6) h6
  · rw [List.length_append, List.length_take, List.length_drop]
    show min i X.length + 2 + (X.length - (i + 2)) ≤ 16777216
    omega
  · exact absurd z (by simp)
end
end KP
end PartKW6

section PartKLast
/-! plain facts for the law's own body -/
namespace KP
open PySem L2
theorem sw_perm (r : List Nat) (i : Nat) : (sw r i).Perm r := by
  have e : r = (r.take i ++ (r.drop i).take 2) ++ r.drop (i + 2) := by
    rw [List.append_assoc, ← List.drop_drop, List.take_append_drop, List.take_append_drop]
  have h : (sw r i).Perm ((r.take i ++ (r.drop i).take 2) ++ r.drop (i + 2)) := by
    unfold sw
    exact ((List.Perm.refl _).append (List.reverse_perm _)).append (List.Perm.refl _)
  exact h.trans (by rw [← e])
theorem ways_small {c : KM.Ct} (h0 : 0 < KM.sz c) (h : KM.sz c ≤ 10) : KM.ways 0 c ≤ 36288000 := by
  have r := KM.ready_count (KM.sz c - 1) c (by omega)
  have h1 := KM.rows_fact 6 c
  have p1 := KM.pf_pos 6 c
  have a1 : KM.rows 6 c ≤ KM.fact (KM.S 6 c) := by rw [← h1]; exact Nat.le_mul_of_pos_right _ p1
  have a2 : KM.rows 6 c ≤ 3628800 := Nat.le_trans a1 (fact_mono (m := 10) h)
  have a3 : KM.rows 6 c * (KM.sz c - KM.wt c) ≤ 3628800 * 10 := Nat.mul_le_mul a2 (by omega)
  have a4 : KM.ways 0 c ≤ KM.ways 0 c * KM.sz c := Nat.le_mul_of_pos_right _ h0
  omega
theorem rd_len {c : KM.Ct} {s : List Nat} {h : Nat} (q : KM.Rd h c s) : s.length = KM.sz c := by
  rw [← KM.sz_cnt s q.ok.small]
  exact KM.sz_congr q.cnt
theorem rd_rank {c : KM.Ct} {s : List Nat} (q : KM.Rd 0 c s) : KM.rank 0 (KM.cnt s) s = KM.rank 0 c s := KM.rank_congr s q.cnt q.ok.small
theorem lex_code : ∀ (r s : List Nat), r.length = s.length → (∀ t ∈ r, t < 6) → (∀ t ∈ s, t < 6) → KM.lex r s = true → TS.code 6 (rl r) < TS.code 6 (rl s)
  | [], [], _, _, _, h => by cases h
  | [], _ :: _, hl, _, _, _ => by cases hl
  | _ :: _, [], hl, _, _, _ => by cases hl
  | x :: r, y :: s, hl, hr, hs, h => by
    have hl' : r.length = s.length := Nat.succ.inj hl
    have hr' : ∀ t ∈ r, t < 6 := fun t ht => hr t (List.mem_cons_of_mem _ ht)
    have hs' : ∀ t ∈ s, t < 6 := fun t ht => hs t (List.mem_cons_of_mem _ ht)
    have bd : ∀ u : List Nat, (∀ t ∈ u, t < 6) → TS.Bd 6 (rl u) := fun u hu m hm => by
      obtain ⟨t, ht, rfl⟩ := List.mem_map.mp hm
      have := hu t ht
      show 0 ≤ (t : Int) ∧ (t : Int) < 6
      omega
    show TS.code 6 ((x : Int) :: rl r) < TS.code 6 ((y : Int) :: rl s)
    by_cases e : x = y
    · subst e
      have h' : KM.lex r s = true := by
        have h2 : (if x = x then KM.lex r s else decide (x < x)) = true := h
        rw [if_pos rfl] at h2
        exact h2
      exact (TS.code_same (by rw [rl_len, rl_len]; exact hl')).mpr (lex_code r s hl' hr' hs' h')
    · have h' : x < y := by
        have h2 : (if x = y then KM.lex r s else decide (x < y)) = true := h
        rw [if_neg e] at h2
        exact of_decide_eq_true h2
      exact TS.code_lt (by rw [rl_len, rl_len]; exact hl') (bd r hr') (bd s hs') (by omega)
theorem lexLt_lex : ∀ r s : List Nat, HT.lexLt (rl r) (rl s) = KM.lex r s
  | [], [] => rfl
  | [], _ :: _ => rfl
  | _ :: _, [] => rfl
  | x :: r, y :: s => by
    show (if (x : Int) = (y : Int) then HT.lexLt (rl r) (rl s) else decide ((x : Int) < (y : Int))) = (if x = y then KM.lex r s else decide (x < y))
    by_cases e : x = y
    · subst e
      rw [if_pos rfl, if_pos rfl, lexLt_lex r s]
    · rw [if_neg e, if_neg (by omega)]
      by_cases h : x < y
      · rw [decide_eq_true h, decide_eq_true (by omega)]
      · rw [decide_eq_false h, decide_eq_false (by omega)]
theorem rl_inj {r s : List Nat} (e : rl r = rl s) : r = s := by
  have := congrArg (List.map Int.toNat) e
  unfold rl at this
  rw [List.map_map, List.map_map] at this
  have h : ∀ l : List Nat, l.map (Int.toNat ∘ Int.ofNat) = l := fun l => by
    induction l with
    | nil => rfl
    | cons x l ih => rw [List.map_cons, ih]; rfl
  rw [h, h] at this
  exact this
/-- a strictly ordered list is the only ordered one of its members -/
theorem uniq_sorted {α : Type} (f : α → Int) : ∀ (l1 l2 : List α), l1.Pairwise (fun a b => f a < f b) → l2.Pairwise (fun a b => f a < f b) → (∀ x, x ∈ l1 ↔ x ∈ l2) → l1 = l2
  | [], [], _, _, _ => rfl
  | [], y :: t, _, _, h => absurd ((h y).mpr (List.mem_cons_self ..)) (by simp)
  | x :: u, [], _, _, h => absurd ((h x).mp (List.mem_cons_self ..)) (by simp)
  | x :: u, y :: t, h1, h2, h => by
    obtain ⟨a1, b1⟩ := List.pairwise_cons.mp h1
    obtain ⟨a2, b2⟩ := List.pairwise_cons.mp h2
    have e : x = y := by
      rcases List.mem_cons.mp ((h x).mp (List.mem_cons_self ..)) with z | z
      · exact z
      · rcases List.mem_cons.mp ((h y).mpr (List.mem_cons_self ..)) with z2 | z2
        · exact z2.symm
        · have := a2 x z; have := a1 y z2; omega
    subst e
    rw [uniq_sorted f u t b1 b2 fun z => ⟨fun hz => ?_, fun hz => ?_⟩]
    · rcases List.mem_cons.mp ((h z).mp (List.mem_cons_of_mem _ hz)) with q | q
      · subst q; have := a1 z hz; omega
      · exact q
    · rcases List.mem_cons.mp ((h z).mpr (List.mem_cons_of_mem _ hz)) with q | q
      · subst q; have := a2 z hz; omega
      · exact q
/-- rows with rising ranks, as ints, ordered by their codes -/
theorem rows_rise {c : KM.Ct} : ∀ (ss : List (List Nat)), (∀ s ∈ ss, KM.Rd 0 c s) → ((ss.map fun s => ((KM.rank 0 c s : Nat) : Int)).Pairwise (· < ·)) → (ss.map rl).Pairwise (fun a b => TS.code 6 a < TS.code 6 b) := by
  intro ss hs hp
  rw [List.pairwise_map] at hp ⊢
  refine List.Pairwise.imp_of_mem (fun {x y} hx hy hlt => ?_) hp
  have qx := hs x hx
  have qy := hs y hy
  refine lex_code x y (by rw [rd_len qx, rd_len qy]) qx.ok.small qy.ok.small ?_
  rw [KM.rank_lex qx qy]
  exact decide_eq_true (by omega)
theorem sorted_is {L1 L2 : List (List Int)} (h1 : L1.Pairwise (fun a b => TS.code 6 a ≤ TS.code 6 b)) (n1 : L1.Nodup) (h2 : L2.Pairwise (fun a b => TS.code 6 a < TS.code 6 b)) (h : ∀ x, x ∈ L1 ↔ x ∈ L2) : L1 = L2 := by
  refine uniq_sorted (TS.code 6) L1 L2 ?_ h2 h
  have inj : ∀ x ∈ L2, ∀ y ∈ L2, TS.code 6 x = TS.code 6 y → x = y := by
    clear h h1 n1
    induction h2 with
    | nil => intro x hx; cases hx
    | cons ha _ ih =>
      intro x hx y hy e
      rcases List.mem_cons.mp hx with q | q
      · rcases List.mem_cons.mp hy with q2 | q2
        · rw [q, q2]
        · subst q; have := ha y q2; omega
      · rcases List.mem_cons.mp hy with q2 | q2
        · subst q2; have := ha x q; omega
        · exact ih x q y q2 e
  have both := h1.and n1
  refine List.Pairwise.imp_of_mem (fun {x y} hx hy hq => ?_) both
  have ne : TS.code 6 x ≠ TS.code 6 y := fun e => hq.2 (inj x ((h x).mp hx) y ((h y).mp hy) e)
  have := hq.1
  omega
end KP
end PartKLast

section PartKW7
/-! law -/
namespace KP
open PySem L2
def spLaw (K : PySem.W.Frag) : Sp := fun vs H Q _ => ∃ (a : Addr) (ns : List Int), vs = [.ref a] ∧ SqL K H a (ns.map V.int) ∧ ns.length ≤ 1000 ∧ ∀ H', Q (.bl true) H'
abbrev nLaw : List Str := ["_law_script", "_law_stream_here", "_law_turn", "_law_row", "_law_counts", "_law_index", "_law_many", "_law_near", "_law_one", "_law_rows", "_law_spot", "_law_other"]
section
variable {P : Program} {w : World} {K : PySem.W.Frag} {mg : Str → Option Value} {base : Heap} {f g : Addr} {fd gd : FuncData} {k : Nat}
theorem scLaw : FnScope nLaw ["_law_script"] (defScope sLaw) := ⟨rfl, rfl, rfl, by decide +kernel, rfl, by decide +kernel, by decide +kernel⟩
theorem boot_sorted' : bootBuiltins "sorted" = some (.builtin "sorted") := by decide +kernel
theorem boot_set' : bootBuiltins "set" = some (.type "set") := by decide +kernel
theorem ok_law {fS fD fY fI fN fA fM fC fX : Addr} {dS dD dY dI dN dA dM dC dX : FuncData} (F : Fun K "law" "law" sLaw f fd)
    (GS : FnOk P w K mg base CX0 15 fS dS ["_law_script"] (spStream K)) (kS : PySem.W.keepIn K (.ref fS) = true) (bS : Binds K dS ["_law_script"] []) (mS : mg "_law_stream" = some (.ref fS))
    (GD : FnOk P w K mg base CX0 15 fD dD ["_law_stream_here", "_law_many"] (spDraw K)) (kD : PySem.W.keepIn K (.ref fD) = true) (bD : Binds K dD ["_law_stream_here", "_law_many"] []) (mD : mg "_law_draw" = some (.ref fD))
    (GY : FnOk P w K mg base CX0 15 fY dY ["_law_stream_here", "_law_most"] (spLReady K)) (kY : PySem.W.keepIn K (.ref fY) = true) (bY : Binds K dY ["_law_stream_here", "_law_most"] []) (mY : mg "_law_ready" = some (.ref fY))
    (GI : FnOk P w K mg base CX0 14 fI dI ["row"] spIndex) (kI : PySem.W.keepIn K (.ref fI) = true) (bI : Binds K dI ["row"] []) (mI : mg "ready_index" = some (.ref fI))
    (GN : FnOk P w K mg base CX0 15 fN dN ["counts"] (spCount K)) (kN : PySem.W.keepIn K (.ref fN) = true) (bN : Binds K dN ["counts"] []) (mN : mg "count_ready" = some (.ref fN))
    (GA : FnOk P w K mg base CX0 14 fA dA ["counts", "index"] spAt) (kA : PySem.W.keepIn K (.ref fA) = true) (bA : Binds K dA ["counts", "index"] []) (mA : mg "ready_at" = some (.ref fA))
    (GM : FnOk P w K mg base CX0 15 fM dM ["_law_row"] (spMissing K)) (kM : PySem.W.keepIn K (.ref fM) = true) (bM : Binds K dM ["_law_row"] []) (mM : mg "_law_missing" = some (.ref fM))
    (GC : FnOk P w K mg base CX0 15 fC dC ["_law_row"] spCounts) (kC : PySem.W.keepIn K (.ref fC) = true) (bC : Binds K dC ["_law_row"] []) (mC : mg "_law_counted" = some (.ref fC))
    (GX : FnOk P w K mg base CX0 15 fX dX ["_law_row", "_law_spot"] (spSwapped K)) (kX : PySem.W.keepIn K (.ref fX) = true) (bX : Binds K dX ["_law_row", "_law_spot"] []) (mX : mg "_law_swapped" = some (.ref fX))
    (nr : mg "range" = none) (ni : mg "isinstance" = none) (nint : mg "int" = none) (nbool : mg "bool" = none) (nsort : mg "sorted" = none) (nset : mg "set" = none) (nmax : mg "max" = none) (nmin : mg "min" = none) (nlen : mg "len" = none) :
    FnOk P w K mg base CX0 16 f fd ["_law_script"] (spLaw K) := by
  refine F.ok scLaw (fun vs H Q E h => ?_) (fun cdv A0 outer s H vs Q E hr15 h => ?_)
  · obtain ⟨_, _, rfl, _⟩ := h
    rfl
  have hr14 : Room 14 _ := hr15.mono (by decide)
  obtain ⟨a, ns, rfl, hS, hlen, q⟩ := h
  refine ⟨_, pss_cons (ps_set (i := 1) scLaw.nd rfl (.inl rfl) (pe_call GS hr15 rfl mS kS bS .nil pass0 (pa_cons (pv 0) pa_nil)))
    (pss_cons (ps_for PassesOwn.never rfl (pi_range1 (by rfl) nr (pa_cons pe_int pa_nil)) (pg_name (i := 2) scLaw.nd rfl (.inl rfl))
      (pss_cons (ps_set (i := 3) scLaw.nd rfl (.inl rfl) (pe_call GY hr15 rfl mY kY bY .nil pass0 (pa_cons (pv 1) (pa_cons pe_int pa_nil))))
      (pss_cons (ps_asg (pe_tup (pa_cons (pe_call GC hr15 rfl mC kC bC .nil pass0 (pa_cons (pv 3) pa_nil)) (pa_cons (pe_call GI hr14 rfl mI kI bI .nil pass0 (pa_cons (pv 3) pa_nil)) pa_nil)))
        (pg_tup rfl (pgs_cons (pg_name (i := 4) scLaw.nd rfl (.inr rfl)) (pgs_cons (pg_name (i := 5) scLaw.nd rfl (.inl rfl)) pgs_nil))))
      (pss_cons (ps_set (i := 6) scLaw.nd rfl (.inl rfl) (pe_call GN hr15 rfl mN kN bN .nil pass0 (pa_cons (pv 4) pa_nil)))
      (pss_cons (ps_if (PW.pt (pw_or (pt_not (pt_val (pe_callB call_isi (by rfl) ni boot_isinstance' (pa_cons (pv 5) (pa_cons (pe_bltn (v := .ty "int") (by rfl) nint boot_int' rfl) pa_nil)))))
          (pw_or (pt_val (pe_callB call_isi (by rfl) ni boot_isinstance' (pa_cons (pv 5) (pa_cons (pe_bltn (v := .ty "bool") (by rfl) nbool boot_bool' rfl) pa_nil))))
          (pw_or1 (pt_not (pt_chain op_le op_lt pe_int (pv 5) (pv 6))))))) pss_never pss_nil)
      (pss_cons (ps_set (i := 7) scLaw.nd rfl (.inl rfl) (pe_callB (cr_sortedSet rfl) (by rfl) nsort boot_sorted' (pa_cons (pe_callTy (KR.cr_setOfI rfl) (by rfl) nset boot_set' (pa_cons (pe_lst (pa_cons pe_int
          (pa_cons (pe_callB (call_max2 rfl) (by rfl) nmax boot_max' (pa_cons pe_int (pa_cons (pe_op op_sub (pv 5) pe_int) pa_nil)))
          (pa_cons (pv 5)
          (pa_cons (pe_callB (call_min2 rfl) (by rfl) nmin boot_min' (pa_cons (pe_op op_sub (pv 6) pe_int) (pa_cons (pe_op op_add (pv 5) pe_int) pa_nil)))
          (pa_cons (pe_op op_sub (pv 6) pe_int)
          (pa_cons (pe_call GD hr15 rfl mD kD bD .nil pass0 (pa_cons (pv 1) (pa_cons (pv 6) pa_nil))) pa_nil))))))) pa_nil)) pa_nil)))
      (pss_cons (ps_setLc (i := 9) (own := [("_law_one", 8)]) (g := gName 8) (tt := tYes) rfl scLaw.nd rfl rfl (sw_true rfl rfl rfl (by decide +kernel)) (pi_list (pv 7))
          (blkOk_by (N := nLaw) (sc := defScope sLaw) (by decide +kernel)) (fun _ _ _ _ _ => pg_name (i := 8) scLaw.nd rfl (Or.inl rfl)) (fun _ _ _ _ _ => pts_nil)
          (fun _ _ _ _ _ => pe_call GA hr14 (by rfl) mA kA bA .nil pass0 (pa_cons (pv 4) (pa_cons (pv 8) pa_nil))))
      (pss_cons (ps_if (PW.pt (pw_or (pt_cmpR (op_neD hr15.units) (pv 3) (pe_ix ix_list (pv 9) (pe_bm PySem.F.plainAttrs_list PySem.F.slot_list_index PySem.F.type_list_index mt_index (pv 7) (pa_cons (pv 5) pa_nil)) (fun _ _ => rfl)) (nomark _))
          (pw_or (pt_cmpR (op_neD hr15.units) (pv 9) (pe_callB (cr_sortedT rfl) (by rfl) nsort boot_sorted' (pa_cons (pe_callTy (cr_setOfT rfl hr15.units) (by rfl) nset boot_set' (pa_cons (pv 9) pa_nil)) pa_nil)) (nomark _))
          (pw_or1 (pt_cmpR (op_neD hr15.units) (pe_lc (own := [("_law_one", 8)]) (g := gName 8) (tt := tYes) rfl scLaw.nd (pi_list (pv 9))
            (blkOk_by (N := nLaw) (sc := defScope sLaw) (by decide +kernel)) (fun _ _ _ _ _ => pg_name (i := 8) scLaw.nd rfl (Or.inl rfl)) (fun _ _ _ _ _ => pts_nil)
            (fun _ _ _ _ _ => pe_call GI hr14 (by rfl) mI kI bI .nil pass0 (pa_cons (pv 8) pa_nil))) (pv 7) (nomark _)))))) pss_never pss_nil)
      (pss_cons (ps_for PassesOwn.never rfl (pi_list (pv 9)) (pg_name (i := 8) scLaw.nd rfl (.inl rfl))
        (pss_one (ps_if (PW.pt (pw_or (pt_cmp (pc_gt (pe_ix ix_list (pe_call GM hr15 rfl mM kM bM .nil pass0 (pa_cons (pv 8) pa_nil)) pe_int (fun _ _ => rfl)) pe_int))
          (pw_or1 (pt_cmpR (op_neD hr15.units) (pe_call GC hr15 rfl mC kC bC .nil pass0 (pa_cons (pv 8) pa_nil)) (pv 4) (nomark _))))) pss_never pss_nil)))
      (pss_one (ps_for PassesOwn.never rfl (pi_range1 (by rfl) nr (pa_cons (pe_op op_sub (pe_callB call_len_seq (by rfl) nlen boot_len (pa_cons (pv 3) pa_nil)) pe_int) pa_nil)) (pg_name (i := 10) scLaw.nd rfl (.inl rfl))
        (pss_cons (ps_set (i := 11) scLaw.nd rfl (.inl rfl) (pe_call GX hr15 rfl mX kX bX .nil pass0 (pa_cons (pv 3) (pa_cons (pv 10) pa_nil))))
        (pss_one (ps_if (PW.pt (pw_and (pt_cmpR (op_neD hr15.units) (pv 11) (pv 3) (nomark _))
            (pw_and1 (pt_cmp (pc_eqI (pe_ix ix_list (pe_call GM hr15 rfl mM kM bM .nil pass0 (pa_cons (pv 11) pa_nil)) pe_int (fun _ _ => rfl)) pe_int)))))
          (pss_one (ps_if (PW.pt (pw_or (pt_cmpR op_ne (pe_cmpR op_lt (pe_call GI hr14 rfl mI kI bI .nil pass0 (pa_cons (pv 11) pa_nil)) (pv 5) (nomark _)) (pe_cmpR (op_ltT hr15.units0) (pv 11) (pv 3) (nomark _)) (nomark _))
            (pw_or1 (pt_cmpR (op_neD hr15.units) (pe_call GA hr14 rfl mA kA bA .nil pass0 (pa_cons (pv 4) (pa_cons (pe_call GI hr14 rfl mI kI bI .nil pass0 (pa_cons (pv 11) pa_nil)) pa_nil))) (pv 11) (nomark _))))) pss_never pss_nil)) pss_nil))))))))))))))
    (pss_one (ps_ret pe_bl))), ?_⟩
  refine ⟨.ref a, rfl, a, ns, rfl, hS, hlen, fun H1 S A B s1 _ _ st1 => ?_⟩
  refine ⟨_, rfl, by decide, by decide, ?_⟩
  refine for_range (n := 5) (fun i σ H3 => ∃ (y2 y3 y4 y5 y6 y7 y8 y9 y10 y11 : Option V), σ = [some (.ref a), some (.ref S), y2, y3, y4, y5, y6, y7, y8, y9, y10, y11] ∧ StOk K H3 S A B (13 * i))
    ⟨_, _, _, _, _, _, _, _, _, _, rfl, st1⟩ (fun i σ H1 hi hp => ?_) (fun σ H3 hp => q H3)
  obtain ⟨y2, y3, y4, y5, y6, y7, y8, y9, y10, y11, rfl, st1⟩ := hp
  refine ⟨.ref S, rfl, S, A, B, 13 * i, rfl, st1, by omega, fun H2 p r kp2 st2 hp2 hN hok hne hlen10 => ?_⟩
  have hrd := hok.rd
  have hsz : KM.sz (KM.cnt r) = r.length := KM.sz_cnt r hok.small
  have hlen0 : 0 < r.length := List.length_pos_iff.mpr hne
  have npS := st1.ne hp2
  refine ⟨.ref p, rfl, p, r, rfl, hN, fun H3 pc s3 hpc ec => ?_⟩
  have ncS := st2.ne hpc
  have hN3 := nT s3 hN
  have st3 := st2.same s3
  refine ⟨.ref p, rfl, p, r, rfl, hN3, hlen10, hne, hok, fun H4 s4 => ?_⟩
  have hRM : KM.rank 0 (KM.cnt r) r < KM.ways 0 (KM.cnt r) := KM.rank_lt _ _ _ hrd
  have hMs : KM.ways 0 (KM.cnt r) ≤ 36288000 := ways_small (by omega) (by omega)
  generalize hRe : KM.rank 0 (KM.cnt r) r = R at hRM
  generalize hMe : KM.ways 0 (KM.cnt r) = M at hRM hMs
  refine ⟨by show 2 ≤ sizeLine; decide, fun pt hpt => ⟨pt, _, rfl, SqT.of upd_same, rfl, _, _, rfl, _, _, rfl, rfl, ?_⟩⟩
  have s5 := s4.trans (same_new hpt (HO.tup [V.ref pc, V.int (R : Int)]))
  have hN5 := nT s5 hN3
  have ec5 := s5 _ _ ec
  have st5 := st3.same s5
  generalize upd H4 pt (HO.tup [V.ref pc, V.int (R : Int)]) = H5 at hN5 ec5 st5
  clear s5 s4 hpt s3 kp2 st3 hN3 ec hN st2 hp2 st1 hpc
  refine ⟨.ref pc, rfl, pc, KM.cnt r, rfl, SqT.of ec5, by omega, by omega, fun H6 s6 => ?_⟩
  have hN6 := nT s6 hN5
  have ec6 := s6 _ _ ec5
  have st6 := st5.same s6
  clear s6 hN5 ec5 st5
  rw [hMe]
  refine ⟨_, rfl, _, _, .type "int", .type "int", true, rfl, .ty _, .base (.int _), kit_ty (by decide +kernel), true, rfl, iteF ?_⟩
  refine ⟨_, rfl, _, _, .type "int", .type "bool", false, rfl, .ty _, .base (.int _), kit_ty (by decide +kernel), false, rfl, iteF ?_⟩
  refine ⟨.int (R : Int), rfl, 0, (R : Int), rfl, rfl, decide ((0 : Int) ≤ R), rfl, ite2 (fun _ => ?_) (fun e => absurd (decide_eq_true (Int.natCast_nonneg R)) e)⟩
  refine ⟨.int (M : Int), rfl, (R : Int), (M : Int), rfl, rfl, decide ((R : Int) < M), rfl, iteNS (by omega) ?_⟩
  refine ⟨.int (R : Int), rfl, (R : Int), 1, rfl, rfl, 0, (R : Int) - 1, rfl, .int (R : Int), rfl, .int (M : Int), rfl, (M : Int), 1, rfl, rfl, .int (R : Int), rfl, (R : Int), 1, rfl, rfl, (M : Int) - 1, (R : Int) + 1, rfl, .int (M : Int), rfl, (M : Int), 1, rfl, rfl, ?_⟩
  refine ⟨.ref S, rfl, .int (M : Int), rfl, S, A, B, 13 * i + 12, (M : Int), rfl, st6, by omega, by omega, by omega, fun H7 v kp7 st7 hv => ?_⟩
  have hN7 : KR.NTup H7 p ((rl r).map V.int) := by
    obtain ⟨o, d, z⟩ := hN6
    exact ⟨o, d, kp7 _ _ npS.1 npS.2.1 z⟩
  have ec7 := kp7 _ _ ncS.1 ncS.2.1 ec6
  clear hN6 ec6 st6 kp7
  generalize hmx : (if ((R : Int) - 1) > 0 then ((R : Int) - 1) else 0) = mx
  generalize hmn : (if ((R : Int) + 1) < (M : Int) - 1 then ((R : Int) + 1) else (M : Int) - 1) = mn
  refine ⟨by show 6 ≤ sizeLine; decide, fun l hl => ?_⟩
  have s8 := same_new hl (HO.lst [V.int 0, V.int mx, V.int (R : Int), V.int mn, V.int ((M : Int) - 1), V.int (v : Int)])
  refine ⟨l, [0, mx, (R : Int), mn, (M : Int) - 1, (v : Int)], rfl, SqL.of upd_same, by show 6 < 64; decide, fun sa cn hsa hcn => ?_⟩
  have hcn6 : cn ≤ 6 := hcn
  refine ⟨sa, _, cn, rfl, upd_same, by omega, fun NS pn hpw hmem hNS hpn => ?_⟩
  have hbd : ∀ x ∈ NS, 0 ≤ x ∧ x < (M : Int) := by
    intro x hx
    have z := of_decide_eq_true ((hmem x).mp hx)
    have hmx2 : 0 ≤ mx ∧ mx < (M : Int) := by rw [← hmx]; split <;> omega
    have hmn2 : 0 ≤ mn ∧ mn < (M : Int) := by rw [← hmn]; split <;> omega
    rcases List.mem_cons.mp z with z | z
    · omega
    rcases List.mem_cons.mp z with z | z
    · omega
    rcases List.mem_cons.mp z with z | z
    · omega
    rcases List.mem_cons.mp z with z | z
    · omega
    rcases List.mem_cons.mp z with z | z
    · omega
    rcases List.mem_cons.mp z with z | z
    · omega
    cases z
  have hRin : (R : Int) ∈ NS := (hmem _).mpr (decide_eq_true (by simp))
  have hNS6 : NS.length ≤ 6 := by omega
  clear hmem hcn hmx hmn
  have s9 := (s8.trans (same_new hsa _)).trans (same_new hpn (HO.lst (NS.map V.int)))
  have hN9 := nT s9 hN7
  have ec9 := s9 _ _ ec7
  have st9 := st7.same s9
  clear s8
  refine ⟨.ref pn, rfl, pn, rfl, ⟨_, SqL.of upd_same⟩, fun D hD => ?_⟩
  have sD := same_new hD (HO.lst [])
  have npD : D ≠ pn := fun e => by rw [e, upd_same] at hD; cases hD
  have hNd := nT sD hN9
  have ecd := sD _ _ ec9
  have std := st9.same sD
  have end_ := sD pn (HO.lst (NS.map V.int)) upd_same
  have hDS := st9.ne hD
  have hDp : D ≠ p := fun e => by
    obtain ⟨o, _, z⟩ := hN9
    rw [e, z] at hD
    cases hD
  have hDc : D ≠ pc := fun e => by rw [e, ec9] at hD; cases hD
  refine lc_list (xs := NS.map V.int) (Pv := fun j H10 => KR.NTup H10 p ((rl r).map V.int) ∧ H10 pc = some (.tup ((cl (KM.cnt r)).map V.int)) ∧ StOk K H10 S A B (13 * i + 13) ∧ H10 pn = some (.lst (NS.map V.int)) ∧
      ∃ ks : List (Addr × List Nat), H10 D = some (.lst (ks.map fun z => V.ref z.1)) ∧ (ks.map fun z => ((KM.rank 0 (KM.cnt r) z.2 : Nat) : Int)) = NS.take j ∧ ∀ z ∈ ks, KR.NTup H10 z.1 ((rl z.2).map V.int) ∧ KM.Rd 0 (KM.cnt r) z.2)
    ⟨hNd, ecd, std, end_, [], upd_same, rfl, fun z hz => by cases hz⟩ (fun j H10 hj hp => SqL.of hp.2.2.2.1) (fun j x H10 hx hp => ?_) (fun H10 hp => ?_)
  · obtain ⟨hN10, ec10, st10, en10, ks, eD10, hks, hkz⟩ := hp
    rw [List.getElem?_map] at hx
    obtain ⟨x0, hx0, ex0⟩ := Option.map_eq_some_iff.mp hx
    subst ex0
    have hxb := hbd x0 (List.mem_of_getElem? hx0)
    have ex : x0 = ((x0.toNat : Nat) : Int) := by omega
    have hj : j < NS.length := (List.getElem?_eq_some_iff.mp hx0).1
    have hkl : ks.length = j := by
      have := congrArg List.length hks
      rw [List.length_map, List.length_take] at this
      omega
    refine ⟨rfl, ?_⟩
    refine ⟨.ref pc, rfl, .int x0, rfl, pc, KM.cnt r, x0.toNat, by rw [← ex]; rfl, ec10, by omega, by omega, by omega, fun H11 p2 r2 s11 hp2 hN11 hrd2 hrk => ?_⟩
    have hDp2 : D ≠ p2 := fun e => by rw [← e, eD10] at hp2; cases hp2
    have nD : ∀ {b : Addr} {xs : List V}, KR.NTup H11 b xs → D ≠ b → KR.NTup (upd H11 D (.lst ((ks.map fun z => V.ref z.1) ++ [V.ref p2]))) b xs := fun h hb => by
      obtain ⟨o, d, z⟩ := h
      exact ⟨o, d, by rw [upd_ne (Ne.symm hb)]; exact z⟩
    refine ⟨_, s11 _ _ eD10, ?_, nD (nT s11 hN10) hDp, by rw [upd_ne (Ne.symm hDc)]; exact s11 _ _ ec10, StOk.upd (st10.same s11) hDS _, by rw [upd_ne (Ne.symm npD)]; exact s11 _ _ en10, ks ++ [(p2, r2)], ?_, ?_, ?_⟩
    · rw [List.length_map]
      exact small1000 (by omega)
    · rw [upd_same, List.map_append]; rfl
    · rw [List.map_append, hks, take_snoc hx0]
      show NS.take j ++ [((KM.rank 0 (KM.cnt r) r2 : Nat) : Int)] = _
      rw [hrk, ← ex]
    · intro z hz
      rcases List.mem_append.mp hz with q1 | q1
      · obtain ⟨z1, z2⟩ := hkz z q1
        refine ⟨nD (nT s11 z1) ?_, z2⟩
        intro e
        obtain ⟨o, _, z3⟩ := z1
        rw [← e, eD10] at z3
        cases z3
      · rw [List.mem_singleton] at q1
        subst q1
        exact ⟨nD hN11 hDp2, hrd2⟩
  obtain ⟨hN10, ec10, st10, en10, ks, eD10, hks, hkz⟩ := hp
  rw [List.length_map, List.take_length] at hks
  clear hNd ecd std end_ sD hN9 ec9 st9 hD
  have hkl : ks.length = NS.length := by rw [← hks, List.length_map]
  -- the first of the three
  obtain ⟨j, hj⟩ := List.getElem?_of_mem hRin
  have hjl : j < NS.length := (List.getElem?_eq_some_iff.mp hj).1
  have hkj : ∃ z, ks[j]? = some z ∧ ((KM.rank 0 (KM.cnt r) z.2 : Nat) : Int) = (R : Int) := by
    have hj2 := hj
    rw [← hks, List.getElem?_map] at hj2
    exact Option.map_eq_some_iff.mp hj2
  obtain ⟨zj, hzj, hrk⟩ := hkj
  obtain ⟨zN, zR⟩ := hkz zj (List.mem_of_getElem? hzj)
  have ezr : zj.2 = r := KM.rank_inj zR hrd (by omega)
  rw [ezr] at zN
  refine ⟨.ref p, rfl, .ref D, rfl, .ref pn, rfl, .inl ⟨rfl, _, SqL.of en10⟩, .int (R : Int), rfl, pn, NS.map V.int, .int (R : Int), j, .int (R : Int), rfl, rfl, SqL.of en10, rfl, ?_, ?_, ?_, fun m z hm hz => ?_, ?_⟩
  · refine List.all_eq_true.mpr fun z hz => ?_
    obtain ⟨n, _, rfl⟩ := List.mem_map.mp hz
    rfl
  · rw [List.getElem?_map, hj]; rfl
  · exact beq_self_eq_true (R : Int)
  · rw [List.getElem?_map] at hz
    obtain ⟨n, hn, rfl⟩ := Option.map_eq_some_iff.mp hz
    have hml : m < NS.length := (List.getElem?_eq_some_iff.mp hn).1
    have hlt := List.pairwise_iff_getElem.mp hpw m j hml hjl hm
    have e1 : NS[m] = n := (List.getElem?_eq_some_iff.mp hn).2
    have e2 : NS[j] = (R : Int) := (List.getElem?_eq_some_iff.mp hj).2
    rw [e1, e2] at hlt
    show (n == (R : Int)) = false
    exact beq_eq_false_iff_ne.mpr (by omega)
  refine ⟨D, _, (j : Int), .ref zj.1, rfl, rfl, SqL.of eD10, atI_nat (by rw [List.getElem?_map, hzj]; rfl), ?_⟩
  refine ⟨tI (rl r), tI (rl r), dp_tup hN10.sq, dp_tup zN.sq, shaped_tI _, shaped_tI _, false, by rw [eqv_tI, decide_eq_true rfl]; rfl, iteF ?_⟩
  -- the second
  have hksI : (ks.map fun z => (z.1, rl z.2)).map (fun p => V.ref p.1) = ks.map fun z => V.ref z.1 := by rw [List.map_map]; rfl
  have hksR : (ks.map fun z => (z.1, rl z.2)).map (·.2) = (ks.map (·.2)).map rl := by rw [List.map_map, List.map_map]; rfl
  have hkSq : ∀ {H' : Hp}, Same H10 H' → ∀ p ∈ (ks.map fun z => (z.1, rl z.2)), SqT K H' p.1 (p.2.map V.int) := fun s p hp => by
    obtain ⟨z, hz, rfl⟩ := List.mem_map.mp hp
    exact (nT s (hkz z hz).1).sq
  have hcl : KM.sz (KM.cnt r) ≤ 10 := by omega
  refine ⟨.ref D, rfl, .ref D, rfl, D, ks.map (fun z => (z.1, rl z.2)), rfl, SqL.of (by rw [hksI]; exact eD10), hkSq (Same.refl _), by rw [List.length_map]; omega, fun sa2 L hsa2 hL1 hL2 => ?_⟩
  have s11 := same_new hsa2 (SetTO P w sa2 L)
  refine ⟨sa2, L, KM.sz (KM.cnt r), 6, rfl, upd_same, fun p hp => hkSq s11 p (hL1 p hp), by omega, fun p hp => ?_, fun L' pl hperm hnd hl64 hpw2 hpl => ?_⟩
  · obtain ⟨z, hz, rfl⟩ := List.mem_map.mp (hL1 p hp)
    have zr := (hkz z hz).2
    refine ⟨by show (rl z.2).length = _; rw [rl_len, rd_len zr], fun m hm => ?_⟩
    obtain ⟨t, ht, rfl⟩ := List.mem_map.mp hm
    have := zr.ok.small t ht
    show 0 ≤ (t : Int) ∧ (t : Int) < 6
    omega
  have eL : L'.map (·.2) = (ks.map (·.2)).map rl := by
    refine sorted_is (List.pairwise_map.mpr hpw2) hnd (rows_rise (c := KM.cnt r) (ks.map (·.2)) (fun s hs => ?_) ?_) fun x => ⟨fun hx => ?_, fun hx => ?_⟩
    · obtain ⟨z, hz, rfl⟩ := List.mem_map.mp hs
      exact (hkz z hz).2
    · rw [List.map_map]
      have : ks.map ((fun s => ((KM.rank 0 (KM.cnt r) s : Nat) : Int)) ∘ fun x => x.2) = NS := hks
      rw [this]
      exact hpw
    · obtain ⟨z, hz, rfl⟩ := List.mem_map.mp hx
      rw [← hksR]
      exact List.mem_map_of_mem (hL1 z (hperm.mem_iff.mp hz))
    · rw [← hksR] at hx
      obtain ⟨z, hz, rfl⟩ := List.mem_map.mp hx
      obtain ⟨z2, hz2, e2⟩ := List.mem_map.mp (hL2 z hz)
      rw [← e2]
      exact List.mem_map_of_mem (hperm.mem_iff.mpr hz2)
  have s12 := s11.trans (same_new hpl (HO.lst (L'.map fun q => V.ref q.1)))
  refine ⟨lT (List.map (fun x : Addr × List Int => x.2) (List.map (fun z : Addr × List Nat => (z.1, rl z.2)) ks)), lT (List.map (fun x : Addr × List Int => x.2) L'), dp_lstT (SqL.of (by rw [hksI]; exact s12 _ _ eD10)) (hkSq s12), dp_lstT (SqL.of upd_same) (fun p hp => hkSq s12 p (hL1 p (hperm.mem_iff.mp hp))), shaped_lT _, shaped_lT _, false, by rw [eqv_lT, decide_eq_true (by rw [hksR, eL])]; rfl, iteF ?_⟩
  have hN12 := nT s12 hN10
  have ec12 := s12 _ _ ec10
  have eD12 := s12 _ _ eD10
  have en12 := s12 _ _ en10
  -- the third
  refine ⟨.ref D, rfl, D, rfl, ⟨_, SqL.of eD12⟩, fun D2 hD2 => ?_⟩
  have s13 := s12.trans (same_new hD2 (HO.lst []))
  have hD20 : H10 D2 = none := s12.free hD2
  refine lc_list (xs := ks.map fun z => V.ref z.1) (Pv := fun j H13 => Same H10 H13 ∧ H13 D2 = some (.lst ((NS.take j).map V.int))) ⟨s13, upd_same⟩ (fun j H13 hj hp => SqL.of (hp.1 _ _ eD10)) (fun j x H13 hx hp => ?_) (fun H13 hp => ?_)
  · obtain ⟨sm, eD2⟩ := hp
    rw [List.getElem?_map] at hx
    obtain ⟨z, hz, rfl⟩ := Option.map_eq_some_iff.mp hx
    have hjl2 : j < NS.length := by
      have := (List.getElem?_eq_some_iff.mp hz).1
      omega
    obtain ⟨zN, zR⟩ := hkz z (List.mem_of_getElem? hz)
    have hNj : NS[j]? = some ((KM.rank 0 (KM.cnt r) z.2 : Nat) : Int) := by rw [← hks, List.getElem?_map, hz]; rfl
    refine ⟨rfl, ?_⟩
    refine ⟨.ref z.1, rfl, z.1, z.2, rfl, nT sm zN, by rw [rd_len zR]; omega, ?_, zR.ok, fun H14 s14 => ⟨_, s14 _ _ eD2, ?_, fun b o e => ?_, ?_⟩⟩
    · intro e
      have := rd_len zR
      rw [e] at this
      have h0 : ([] : List Nat).length = 0 := rfl
      omega
    · rw [List.length_map, List.length_take]
      exact small1000 (by omega)
    · rw [upd_ne (ne_of_none e hD20)]
      exact s14 _ _ (sm _ _ e)
    · rw [upd_same, take_snoc hNj, List.map_append, rd_rank zR]
      rfl
  obtain ⟨s14, eD2⟩ := hp
  rw [List.length_map, hkl, List.take_length] at eD2
  refine ⟨.ref pn, rfl, lI NS, lI NS, dp_lst (SqL.of eD2), dp_lst (SqL.of (s14 _ _ en10)), shaped_lI _, shaped_lI _, false, by rw [eqv_lI, decide_eq_true rfl]; rfl, iteF ?_⟩
  -- each row
  refine ⟨.ref D, rfl, D, rfl, ⟨_, SqL.of (s14 _ _ eD10)⟩, ?_⟩
  refine for_list (xs := ks.map fun z => V.ref z.1) (fun j σ H15 => ∃ (z2 z8 z10 z11 : Option V), σ = [some (.ref a), some (.ref S), z2, some (.ref p), some (.ref pc), some (.int (R : Int)), some (.int (M : Int)), some (.ref pn), z8, some (.ref D), z10, z11] ∧ Same H10 H15)
    ⟨_, _, _, _, rfl, s14⟩ (fun j σ H15 hj hp => ?_) (fun j x σ H15 hx hp => ?_) (fun σ H15 hp => ?_)
  · obtain ⟨_, _, _, _, _, sm⟩ := hp
    exact SqL.of (sm _ _ eD10)
  · obtain ⟨z2, z8, z10, z11, rfl, sm⟩ := hp
    rw [List.getElem?_map] at hx
    obtain ⟨z, hz, rfl⟩ := Option.map_eq_some_iff.mp hx
    obtain ⟨zN, zR⟩ := hkz z (List.mem_of_getElem? hz)
    refine ⟨.ref z.1, rfl, z.1, z.2, rfl, (nT sm zN).sq, fun H16 lm m d s16 hlm elm hm0 hm => ⟨lm, _, 0, .int m, rfl, rfl, SqL.of elm, rfl, m, 0, rfl, rfl, _, rfl, ite2 (fun e => ?_) (fun _ => ?_)⟩⟩
    · have e' : 0 < m := of_decide_eq_true e
      have := hm.mpr (RdH.of_ok zR.ok)
      omega
    refine ⟨.ref z.1, rfl, z.1, z.2, rfl, nT (sm.trans s16) zN, fun H17 pq s17 hpq eq => ?_⟩
    have s18 := (sm.trans s16).trans s17
    refine ⟨.ref pc, rfl, tI (cl (KM.cnt z.2)), tI (cl (KM.cnt r)), dp_tup (SqT.of eq), dp_tup (SqT.of (s18 _ _ ec10)), shaped_tI _, shaped_tI _, false, by rw [eqv_tI, decide_eq_true (cl_congr zR.cnt)]; rfl, iteF ?_⟩
    exact ⟨_, _, _, _, rfl, s18⟩
  obtain ⟨z2, z8, z10, z11, rfl, s15⟩ := hp
  have elen : ((rl r).map V.int).length = r.length := by rw [List.length_map, rl_len]
  refine ⟨.ref p, rfl, p, (rl r).map V.int, rfl, .inr (nT s15 hN10).sq, _, 1, rfl, rfl, ((r.length - 1 : Nat) : Int), ?_, by omega, by omega, ?_⟩
  · rw [elen]
    have e : ((r.length : Nat) : Int) - 1 = ((r.length - 1 : Nat) : Int) := by omega
    rw [← e]
  refine for_range (n := (((r.length - 1 : Nat) : Int)).toNat) (fun j σ H16 => ∃ (z2 z8 z10 z11 : Option V), σ = [some (.ref a), some (.ref S), z2, some (.ref p), some (.ref pc), some (.int (R : Int)), some (.int (M : Int)), some (.ref pn), z8, some (.ref D), z10, z11] ∧ Same H10 H16)
    ⟨_, _, _, _, rfl, s15⟩ (fun t σ H16 ht hp => ?_) (fun σ H16 hp => ?_)
  · obtain ⟨z2, z8, z10, z11, rfl, sm⟩ := hp
    have hNp := nT sm hN10
    refine ⟨.ref p, rfl, .int (0 + (t : Int)), rfl, p, r, t, by rw [Int.zero_add]; rfl, hNp, hlen10, by omega, fun H17 po s17 hNo => ?_⟩
    have hpm := sw_perm r t
    have s18 := sm.trans s17
    refine ⟨.ref po, rfl, .ref p, rfl, tI (rl (sw r t)), tI (rl r), dp_tup hNo.sq, dp_tup (nT s18 hN10).sq, shaped_tI _, shaped_tI _, _, rfl, ite2 (fun _ => ?_) (fun _ => iteF ⟨_, _, _, _, rfl, s18⟩)⟩
    refine ⟨.ref po, rfl, po, sw r t, rfl, hNo.sq, fun H19 lm m d s19 hlm elm hm0 hm => ⟨lm, _, 0, .int m, rfl, rfl, SqL.of elm, rfl, m, 0, rfl, rfl, _, rfl, ite2 (fun e => ?_) (fun _ => ⟨_, _, _, _, rfl, s18.trans s19⟩)⟩⟩
    have e' : m = 0 := of_decide_eq_true e
    have ok2 : KM.OkR 0 (sw r t) := OkR_of (hm.mp e') fun u hu => hok.small u (hpm.mem_iff.mp hu)
    have ecn : ∀ i, i < 6 → KM.cnt (sw r t) i = KM.cnt r i := fun i _ => hpm.count_eq i
    have rd2 : KM.Rd 0 (KM.cnt r) (sw r t) := ok2.rd.congr ecn
    have hrk2 := rd_rank rd2
    have hlen2 : (sw r t).length ≤ 10 := by rw [hpm.length_eq]; exact hlen10
    have hne2 : sw r t ≠ [] := fun z => by
      have := hpm.length_eq
      rw [z] at this
      have h0 : ([] : List Nat).length = 0 := rfl
      omega
    have s20 := s18.trans s19
    refine ⟨.ref po, rfl, po, sw r t, rfl, nT s19 hNo, hlen2, hne2, ok2, fun H21 s21 => ?_⟩
    refine ⟨.int (R : Int), rfl, _, (R : Int), rfl, rfl, .ref po, rfl, .ref p, rfl, po, p, rl (sw r t), rl r, rfl, rfl, (nT (s19.trans s21) hNo).sq, (nT (s20.trans s21) hN10).sq, rfl, false, ?_, iteF ?_⟩
    · rw [lexLt_lex, KM.rank_lex rd2 hrd, hRe, hrk2]
      have e3 : decide (((KM.rank 0 (KM.cnt r) (sw r t) : Nat) : Int) < (R : Int)) = decide (KM.rank 0 (KM.cnt r) (sw r t) < R) := by
        by_cases z : KM.rank 0 (KM.cnt r) (sw r t) < R
        · rw [decide_eq_true z, decide_eq_true (by omega)]
        · rw [decide_eq_false z, decide_eq_false (by omega)]
      show V.bl (!decide (V.bl (decide (((KM.rank 0 (KM.cnt r) (sw r t) : Nat) : Int) < (R : Int))) = V.bl (decide (KM.rank 0 (KM.cnt r) (sw r t) < R)))) = V.bl false
      rw [e3, decide_eq_true rfl]
      rfl
    refine ⟨.ref pc, rfl, .ref po, rfl, po, sw r t, rfl, nT (s19.trans s21) hNo, hlen2, hne2, ok2, fun H22 s22 => ?_⟩
    have s23 := (s20.trans s21).trans s22
    have hlt2 := KM.rank_lt _ _ _ rd2
    refine ⟨pc, KM.cnt r, KM.rank 0 (KM.cnt r) (sw r t), by rw [hrk2]; rfl, s23 _ _ ec10, by omega, by omega, by rw [hMe] at hlt2 ⊢; exact hlt2, fun H24 p3 r3 s24 _ hN3 hrd3 hrk3 => ?_⟩
    have er3 : r3 = sw r t := KM.rank_inj hrd3 rd2 hrk3
    rw [er3] at hN3
    refine ⟨.ref po, rfl, tI (rl (sw r t)), tI (rl (sw r t)), dp_tup hN3.sq, dp_tup (nT ((s19.trans s21).trans (s22.trans s24)) hNo).sq, shaped_tI _, shaped_tI _, false, by rw [eqv_tI, decide_eq_true rfl]; rfl, iteF ?_⟩
    exact ⟨_, _, _, _, rfl, s23.trans s24⟩
  · obtain ⟨z2, z8, z10, z11, rfl, sm⟩ := hp
    exact ⟨_, _, _, _, _, _, _, _, _, _, rfl, (st10.same sm).le (by omega)⟩
end
end KP
end PartKW7

section PartKEnd
/-! what the top has written; the law's own head -/
namespace KP
open PySem L2
theorem all_mk {l : PySem.W.OpenLaw} {w : World} {K : PySem.W.Frag} {h : Heap} {mg : Str → Option Value} {fa f1 f2 f3 f4 f5 f6 f7 f8 f9 f10 f11 f12 f13 f14 f15 f16 f17 f18 f19 f20 : Addr} (X : K.In h) (G : h.Ns mainGlobals mg) (hfa : mg "law" = some (.ref fa)) {tk : Tok}
    {od1 an1 od2 an2 od3 an3 od4 an4 od5 an5 od6 an6 od7 an7 od8 an8 od9 an9 od10 an10 od11 an11 od12 an12 od13 an13 od14 an14 od15 an15 od16 an16 od17 an17 od18 an18 od19 an19 od20 an20 : Option Addr} {sl1 sl2 sl3 sl4 sl5 sl6 sl7 sl8 sl9 sl10 sl11 sl12 sl13 sl14 sl15 sl16 sl17 sl18 sl19 sl20 : Array (Option Value)} {oc1 kV1 dc1 pm1 cd1 ct1 oc2 kV2 dc2 pm2 cd2 ct2 oc3 kV3 dc3 pm3 cd3 ct3 oc4 kV4 dc4 pm4 cd4 ct4 oc5 kV5 dc5 pm5 cd5 ct5 oc6 kV6 dc6 pm6 cd6 ct6 oc7 kV7 dc7 pm7 cd7 ct7 oc8 kV8 dc8 pm8 cd8 ct8 oc9 kV9 dc9 pm9 cd9 ct9 oc10 kV10 dc10 pm10 cd10 ct10 oc11 kV11 dc11 pm11 cd11 ct11 oc12 kV12 dc12 pm12 cd12 ct12 oc13 kV13 dc13 pm13 cd13 ct13 oc14 kV14 dc14 pm14 cd14 ct14 oc15 kV15 dc15 pm15 cd15 ct15 oc16 kV16 dc16 pm16 cd16 ct16 oc17 kV17 dc17 pm17 cd17 ct17 oc18 kV18 dc18 pm18 cd18 ct18 oc19 kV19 dc19 pm19 cd19 ct19 oc20 kV20 dc20 pm20 cd20 ct20 : Value}
    (a1 : PySem.W.nsIn K mainGlobals "is_integer" = some (some (.ref f1))) (l1 : K.lookup f1 = some ⟨oc1, od1, .func (PySem.W.fnOf "is_integer" "is_integer" (defArgs sIsInt) (defBody sIsInt) (defScope sIsInt) .none kV1 dc1 pm1 an1 cd1 ct1), sl1⟩) (c1 : PySem.W.codeIn K cd1 "is_integer" = true) (k1 : PySem.W.keepIn K (.ref f1) = true)
    (a2 : PySem.W.nsIn K mainGlobals "heights_of" = some (some (.ref f2))) (l2 : K.lookup f2 = some ⟨oc2, od2, .func (PySem.W.fnOf "heights_of" "heights_of" (defArgs sHeights) (defBody sHeights) (defScope sHeights) .none kV2 dc2 pm2 an2 cd2 ct2), sl2⟩) (c2 : PySem.W.codeIn K cd2 "heights_of" = true) (k2 : PySem.W.keepIn K (.ref f2) = true)
    (a3 : PySem.W.nsIn K mainGlobals "need_of" = some (some (.ref f3))) (l3 : K.lookup f3 = some ⟨oc3, od3, .func (PySem.W.fnOf "need_of" "need_of" (defArgs sNeed) (defBody sNeed) (defScope sNeed) .none kV3 dc3 pm3 an3 cd3 ct3), sl3⟩) (c3 : PySem.W.codeIn K cd3 "need_of" = true) (k3 : PySem.W.keepIn K (.ref f3) = true)
    (a4 : PySem.W.nsIn K mainGlobals "is_ready" = some (some (.ref f4))) (l4 : K.lookup f4 = some ⟨oc4, od4, .func (PySem.W.fnOf "is_ready" "is_ready" (defArgs sReady) (defBody sReady) (defScope sReady) .none kV4 dc4 pm4 an4 cd4 ct4), sl4⟩) (c4 : PySem.W.codeIn K cd4 "is_ready" = true) (k4 : PySem.W.keepIn K (.ref f4) = true)
    (a5 : PySem.W.nsIn K mainGlobals "balance_of" = some (some (.ref f5))) (l5 : K.lookup f5 = some ⟨oc5, od5, .func (PySem.W.fnOf "balance_of" "balance_of" (defArgs sBalance) (defBody sBalance) (defScope sBalance) .none kV5 dc5 pm5 an5 cd5 ct5), sl5⟩) (c5 : PySem.W.codeIn K cd5 "balance_of" = true) (k5 : PySem.W.keepIn K (.ref f5) = true)
    (a6 : PySem.W.nsIn K mainGlobals "count_rows" = some (some (.ref f6))) (l6 : K.lookup f6 = some ⟨oc6, od6, .func (PySem.W.fnOf "count_rows" "count_rows" (defArgs sRows) (defBody sRows) (defScope sRows) .none kV6 dc6 pm6 an6 cd6 ct6), sl6⟩) (c6 : PySem.W.codeIn K cd6 "count_rows" = true) (k6 : PySem.W.keepIn K (.ref f6) = true)
    (a7 : PySem.W.nsIn K mainGlobals "count_ready" = some (some (.ref f7))) (l7 : K.lookup f7 = some ⟨oc7, od7, .func (PySem.W.fnOf "count_ready" "count_ready" (defArgs sCount) (defBody sCount) (defScope sCount) .none kV7 dc7 pm7 an7 cd7 ct7), sl7⟩) (c7 : PySem.W.codeIn K cd7 "count_ready" = true) (k7 : PySem.W.keepIn K (.ref f7) = true)
    (a8 : PySem.W.nsIn K mainGlobals "taken_from" = some (some (.ref f8))) (l8 : K.lookup f8 = some ⟨oc8, od8, .func (PySem.W.fnOf "taken_from" "taken_from" (defArgs sTaken) (defBody sTaken) (defScope sTaken) .none kV8 dc8 pm8 an8 cd8 ct8), sl8⟩) (c8 : PySem.W.codeIn K cd8 "taken_from" = true) (k8 : PySem.W.keepIn K (.ref f8) = true)
    (a9 : PySem.W.nsIn K mainGlobals "next_arities" = some (some (.ref f9))) (l9 : K.lookup f9 = some ⟨oc9, od9, .func (PySem.W.fnOf "next_arities" "next_arities" (defArgs sNext) (defBody sNext) (defScope sNext) .none kV9 dc9 pm9 an9 cd9 ct9), sl9⟩) (c9 : PySem.W.codeIn K cd9 "next_arities" = true) (k9 : PySem.W.keepIn K (.ref f9) = true)
    (a10 : PySem.W.nsIn K mainGlobals "ways_to_end" = some (some (.ref f10))) (l10 : K.lookup f10 = some ⟨oc10, od10, .func (PySem.W.fnOf "ways_to_end" "ways_to_end" (defArgs sWays) (defBody sWays) (defScope sWays) .none kV10 dc10 pm10 an10 cd10 ct10), sl10⟩) (c10 : PySem.W.codeIn K cd10 "ways_to_end" = true) (k10 : PySem.W.keepIn K (.ref f10) = true)
    (a11 : PySem.W.nsIn K mainGlobals "ready_at" = some (some (.ref f11))) (l11 : K.lookup f11 = some ⟨oc11, od11, .func (PySem.W.fnOf "ready_at" "ready_at" (defArgs sAt) (defBody sAt) (defScope sAt) .none kV11 dc11 pm11 an11 cd11 ct11), sl11⟩) (c11 : PySem.W.codeIn K cd11 "ready_at" = true) (k11 : PySem.W.keepIn K (.ref f11) = true)
    (a12 : PySem.W.nsIn K mainGlobals "counts_of" = some (some (.ref f12))) (l12 : K.lookup f12 = some ⟨oc12, od12, .func (PySem.W.fnOf "counts_of" "counts_of" (defArgs sCounts) (defBody sCounts) (defScope sCounts) .none kV12 dc12 pm12 an12 cd12 ct12), sl12⟩) (c12 : PySem.W.codeIn K cd12 "counts_of" = true) (k12 : PySem.W.keepIn K (.ref f12) = true)
    (a13 : PySem.W.nsIn K mainGlobals "ready_index" = some (some (.ref f13))) (l13 : K.lookup f13 = some ⟨oc13, od13, .func (PySem.W.fnOf "ready_index" "ready_index" (defArgs sIndex) (defBody sIndex) (defScope sIndex) .none kV13 dc13 pm13 an13 cd13 ct13), sl13⟩) (c13 : PySem.W.codeIn K cd13 "ready_index" = true) (k13 : PySem.W.keepIn K (.ref f13) = true)
    (a14 : PySem.W.nsIn K mainGlobals "_law_stream" = some (some (.ref f14))) (l14 : K.lookup f14 = some ⟨oc14, od14, .func (PySem.W.fnOf "_law_stream" "_law_stream" (defArgs sStream) (defBody sStream) (defScope sStream) .none kV14 dc14 pm14 an14 cd14 ct14), sl14⟩) (c14 : PySem.W.codeIn K cd14 "_law_stream" = true) (k14 : PySem.W.keepIn K (.ref f14) = true)
    (a15 : PySem.W.nsIn K mainGlobals "_law_draw" = some (some (.ref f15))) (l15 : K.lookup f15 = some ⟨oc15, od15, .func (PySem.W.fnOf "_law_draw" "_law_draw" (defArgs sDraw) (defBody sDraw) (defScope sDraw) .none kV15 dc15 pm15 an15 cd15 ct15), sl15⟩) (c15 : PySem.W.codeIn K cd15 "_law_draw" = true) (k15 : PySem.W.keepIn K (.ref f15) = true)
    (a16 : PySem.W.nsIn K mainGlobals "_law_missing" = some (some (.ref f16))) (l16 : K.lookup f16 = some ⟨oc16, od16, .func (PySem.W.fnOf "_law_missing" "_law_missing" (defArgs sMissing) (defBody sMissing) (defScope sMissing) .none kV16 dc16 pm16 an16 cd16 ct16), sl16⟩) (c16 : PySem.W.codeIn K cd16 "_law_missing" = true) (k16 : PySem.W.keepIn K (.ref f16) = true)
    (a17 : PySem.W.nsIn K mainGlobals "_law_ready" = some (some (.ref f17))) (l17 : K.lookup f17 = some ⟨oc17, od17, .func (PySem.W.fnOf "_law_ready" "_law_ready" (defArgs sLReady) (defBody sLReady) (defScope sLReady) .none kV17 dc17 pm17 an17 cd17 ct17), sl17⟩) (c17 : PySem.W.codeIn K cd17 "_law_ready" = true) (k17 : PySem.W.keepIn K (.ref f17) = true)
    (a18 : PySem.W.nsIn K mainGlobals "_law_counted" = some (some (.ref f18))) (l18 : K.lookup f18 = some ⟨oc18, od18, .func (PySem.W.fnOf "_law_counted" "_law_counted" (defArgs sCounted) (defBody sCounted) (defScope sCounted) .none kV18 dc18 pm18 an18 cd18 ct18), sl18⟩) (c18 : PySem.W.codeIn K cd18 "_law_counted" = true) (k18 : PySem.W.keepIn K (.ref f18) = true)
    (a19 : PySem.W.nsIn K mainGlobals "_law_swapped" = some (some (.ref f19))) (l19 : K.lookup f19 = some ⟨oc19, od19, .func (PySem.W.fnOf "_law_swapped" "_law_swapped" (defArgs sSwapped) (defBody sSwapped) (defScope sSwapped) .none kV19 dc19 pm19 an19 cd19 ct19), sl19⟩) (c19 : PySem.W.codeIn K cd19 "_law_swapped" = true) (k19 : PySem.W.keepIn K (.ref f19) = true)
    (a20 : PySem.W.nsIn K mainGlobals "law" = some (some (.ref f20))) (l20 : K.lookup f20 = some ⟨oc20, od20, .func (PySem.W.fnOf "law" "law" (defArgs sLaw) (defBody sLaw) (defScope sLaw) .none kV20 dc20 pm20 an20 cd20 ct20), sl20⟩) (c20 : PySem.W.codeIn K cd20 "law" = true) (k20 : PySem.W.keepIn K (.ref f20) = true)
    (am : PySem.W.nsIn K mainGlobals "MAX_ARITY" = some (some (.int 5 tk)))
    (z_isinstance : PySem.W.nsIn K mainGlobals "isinstance" = some none) (z_int : PySem.W.nsIn K mainGlobals "int" = some none) (z_bool : PySem.W.nsIn K mainGlobals "bool" = some none) (z_tuple : PySem.W.nsIn K mainGlobals "tuple" = some none) (z_list : PySem.W.nsIn K mainGlobals "list" = some none) (z_min : PySem.W.nsIn K mainGlobals "min" = some none) (z_max : PySem.W.nsIn K mainGlobals "max" = some none) (z_sum : PySem.W.nsIn K mainGlobals "sum" = some none) (z_enumerate : PySem.W.nsIn K mainGlobals "enumerate" = some none) (z_range : PySem.W.nsIn K mainGlobals "range" = some none) (z_len : PySem.W.nsIn K mainGlobals "len" = some none) (z_abs : PySem.W.nsIn K mainGlobals "abs" = some none) (z_sorted : PySem.W.nsIn K mainGlobals "sorted" = some none) (z_set : PySem.W.nsIn K mainGlobals "set" = some none) :
    ∃ fd : FuncData, (∀ (s : Shared) (v : Value), BindsTo s fd ⟨[v], []⟩ [("_law_script", v)]) ∧ ∀ base : Heap, K.In base → base.Ns mainGlobals mg → FnOk l.prog w K mg base CX0 16 fa fd ["_law_script"] (spLaw K) := by
  have e := hfa.symm.trans (PySem.W.mg_of X G a20)
  cases e
  have F1 := fun_mk (st := sIsInt) l1 c1 k1
  have b1 := F1.binds (ps := ["value", "low", "high"]) fun _ _ _ _ _ _ us hl => match us, hl with | [_, _, _], _ => rfl
  have m1 := PySem.W.mg_of X G a1
  have F2 := fun_mk (st := sHeights) l2 c2 k2
  have b2 := F2.binds (ps := ["row"]) fun _ _ _ _ _ _ us hl => match us, hl with | [_], _ => rfl
  have m2 := PySem.W.mg_of X G a2
  have F3 := fun_mk (st := sNeed) l3 c3 k3
  have b3 := F3.binds (ps := ["row"]) fun _ _ _ _ _ _ us hl => match us, hl with | [_], _ => rfl
  have m3 := PySem.W.mg_of X G a3
  have F4 := fun_mk (st := sReady) l4 c4 k4
  have b4 := F4.binds (ps := ["row"]) fun _ _ _ _ _ _ us hl => match us, hl with | [_], _ => rfl
  have m4 := PySem.W.mg_of X G a4
  have F5 := fun_mk (st := sBalance) l5 c5 k5
  have b5 := F5.binds (ps := ["counts"]) fun _ _ _ _ _ _ us hl => match us, hl with | [_], _ => rfl
  have m5 := PySem.W.mg_of X G a5
  have F6 := fun_mk (st := sRows) l6 c6 k6
  have b6 := F6.binds (ps := ["counts"]) fun _ _ _ _ _ _ us hl => match us, hl with | [_], _ => rfl
  have m6 := PySem.W.mg_of X G a6
  have F7 := fun_mk (st := sCount) l7 c7 k7
  have b7 := F7.binds (ps := ["counts"]) fun _ _ _ _ _ _ us hl => match us, hl with | [_], _ => rfl
  have m7 := PySem.W.mg_of X G a7
  have F8 := fun_mk (st := sTaken) l8 c8 k8
  have b8 := F8.binds (ps := ["counts", "arity"]) fun _ _ _ _ _ _ us hl => match us, hl with | [_, _], _ => rfl
  have m8 := PySem.W.mg_of X G a8
  have F9 := fun_mk (st := sNext) l9 c9 k9
  have b9 := F9.binds (ps := ["height", "counts"]) fun _ _ _ _ _ _ us hl => match us, hl with | [_, _], _ => rfl
  have m9 := PySem.W.mg_of X G a9
  have F10 := fun_mk (st := sWays) l10 c10 k10
  have b10 := F10.binds (ps := ["height", "counts", "known"]) fun _ _ _ _ _ _ us hl => match us, hl with | [_, _, _], _ => rfl
  have m10 := PySem.W.mg_of X G a10
  have F11 := fun_mk (st := sAt) l11 c11 k11
  have b11 := F11.binds (ps := ["counts", "index"]) fun _ _ _ _ _ _ us hl => match us, hl with | [_, _], _ => rfl
  have m11 := PySem.W.mg_of X G a11
  have F12 := fun_mk (st := sCounts) l12 c12 k12
  have b12 := F12.binds (ps := ["row"]) fun _ _ _ _ _ _ us hl => match us, hl with | [_], _ => rfl
  have m12 := PySem.W.mg_of X G a12
  have F13 := fun_mk (st := sIndex) l13 c13 k13
  have b13 := F13.binds (ps := ["row"]) fun _ _ _ _ _ _ us hl => match us, hl with | [_], _ => rfl
  have m13 := PySem.W.mg_of X G a13
  have F14 := fun_mk (st := sStream) l14 c14 k14
  have b14 := F14.binds (ps := ["_law_script"]) fun _ _ _ _ _ _ us hl => match us, hl with | [_], _ => rfl
  have m14 := PySem.W.mg_of X G a14
  have F15 := fun_mk (st := sDraw) l15 c15 k15
  have b15 := F15.binds (ps := ["_law_stream_here", "_law_many"]) fun _ _ _ _ _ _ us hl => match us, hl with | [_, _], _ => rfl
  have m15 := PySem.W.mg_of X G a15
  have F16 := fun_mk (st := sMissing) l16 c16 k16
  have b16 := F16.binds (ps := ["_law_row"]) fun _ _ _ _ _ _ us hl => match us, hl with | [_], _ => rfl
  have m16 := PySem.W.mg_of X G a16
  have F17 := fun_mk (st := sLReady) l17 c17 k17
  have b17 := F17.binds (ps := ["_law_stream_here", "_law_most"]) fun _ _ _ _ _ _ us hl => match us, hl with | [_, _], _ => rfl
  have m17 := PySem.W.mg_of X G a17
  have F18 := fun_mk (st := sCounted) l18 c18 k18
  have b18 := F18.binds (ps := ["_law_row"]) fun _ _ _ _ _ _ us hl => match us, hl with | [_], _ => rfl
  have m18 := PySem.W.mg_of X G a18
  have F19 := fun_mk (st := sSwapped) l19 c19 k19
  have b19 := F19.binds (ps := ["_law_row", "_law_spot"]) fun _ _ _ _ _ _ us hl => match us, hl with | [_, _], _ => rfl
  have m19 := PySem.W.mg_of X G a19
  have F20 := fun_mk (st := sLaw) l20 c20 k20
  have m20 := PySem.W.mg_of X G a20
  have mA := PySem.W.mg_of X G am
  have y_isinstance := PySem.W.mg_none_of X G z_isinstance
  have y_int := PySem.W.mg_none_of X G z_int
  have y_bool := PySem.W.mg_none_of X G z_bool
  have y_tuple := PySem.W.mg_none_of X G z_tuple
  have y_list := PySem.W.mg_none_of X G z_list
  have y_min := PySem.W.mg_none_of X G z_min
  have y_max := PySem.W.mg_none_of X G z_max
  have y_sum := PySem.W.mg_none_of X G z_sum
  have y_enumerate := PySem.W.mg_none_of X G z_enumerate
  have y_range := PySem.W.mg_none_of X G z_range
  have y_len := PySem.W.mg_none_of X G z_len
  have y_abs := PySem.W.mg_none_of X G z_abs
  have y_sorted := PySem.W.mg_none_of X G z_sorted
  have y_set := PySem.W.mg_none_of X G z_set
  refine ⟨PySem.W.fnOf "law" "law" (defArgs sLaw) (defBody sLaw) (defScope sLaw) .none kV20 dc20 pm20 an20 cd20 ct20, fun s v => .of_eq rfl, fun base _ _ => ?_⟩
  have gInt : FnOk l.prog w K mg base CX0 13 f1 _ ["value", "low", "high"] spIsInt := ok_isInt (k := 12) F1 y_isinstance y_int y_bool
  have gNeed : FnOk l.prog w K mg base CX0 12 f3 _ ["row"] (spNeed K) := ok_need (k := 10) F3 F2 b2 m2 y_tuple y_min y_list
  have gRdy : FnOk l.prog w K mg base CX0 13 f4 _ ["row"] (spReady K) := ok_ready (k := 10) F4 gNeed F3.kp b3 m3
  have gWays : ∀ B : Int, FnOk l.prog w K mg base CX0 13 f10 _ ["height", "counts", "known"] (spWays B 11) := fun B => ok_ways B F10 F8 F9 b10 b8 b9 m10 m8 m9 y_sum y_enumerate 11
  have gCnt : FnOk l.prog w K mg base CX0 13 f12 _ ["row"] spCounts := ok_counts (k := 12) F12 y_tuple y_range mA
  have gIdx : FnOk l.prog w K mg base CX0 14 f13 _ ["row"] spIndex := ok_index F13 F8 F9 gWays F10.kp gCnt F12.kp gRdy F4.kp b10 b8 b9 b12 b4 m10 m8 m9 m12 m4 y_enumerate
  have gNum : FnOk l.prog w K mg base CX0 13 f7 _ ["counts"] (spCount K) := ok_count (k := 11) F7 F5 F6 b5 b6 m5 m6 y_sum y_enumerate y_range y_max
  have gNum2 : FnOk l.prog w K mg base CX0 15 f7 _ ["counts"] (spCount K) := ok_count (k := 13) F7 F5 F6 b5 b6 m5 m6 y_sum y_enumerate y_range y_max
  have gAt : FnOk l.prog w K mg base CX0 14 f11 _ ["counts", "index"] spAt := ok_at F11 F8 F9 gWays F10.kp gInt F1.kp gNum F7.kp b10 b8 b9 b1 b7 m10 m8 m9 m1 m7 y_enumerate y_tuple y_sum y_len
  have gStr : FnOk l.prog w K mg base CX0 15 f14 _ ["_law_script"] (spStream K) := ok_stream (k := 14) F14 y_abs y_len
  have gDrw : FnOk l.prog w K mg base CX0 15 f15 _ ["_law_stream_here", "_law_many"] (spDraw K) := ok_draw (k := 14) F15 y_len
  have gDrw2 : FnOk l.prog w K mg base CX0 14 f15 _ ["_law_stream_here", "_law_many"] (spDraw K) := ok_draw (k := 13) F15 y_len
  have gMis : FnOk l.prog w K mg base CX0 15 f16 _ ["_law_row"] (spMissing K) := ok_missing (k := 14) F16
  have gLRd : FnOk l.prog w K mg base CX0 15 f17 _ ["_law_stream_here", "_law_most"] (spLReady K) := ok_lready (k := 13) F17 gDrw2 F15.kp b15 m15 y_range y_min y_tuple
  have gCtd : FnOk l.prog w K mg base CX0 15 f18 _ ["_law_row"] spCounts := ok_counted (k := 14) F18 y_tuple y_range
  have gSwp : FnOk l.prog w K mg base CX0 15 f19 _ ["_law_row", "_law_spot"] (spSwapped K) := ok_swapped (k := 14) F19
  exact ok_law F20 gStr F14.kp b14 m14 gDrw F15.kp b15 m15 gLRd F17.kp b17 m17 gIdx F13.kp b13 m13 gNum2 F7.kp b7 m7 gAt F11.kp b11 m11 gMis F16.kp b16 m16 gCtd F18.kp b18 m18 gSwp F19.kp b19 m19
    y_range y_isinstance y_int y_bool y_sorted y_set y_max y_min y_len
end KP
open PySem PySem.W PyProof.Rows
set_option maxHeartbeats 0 in
theorem PySem.Challenge.cw_ringpostfix_k49_whole_numbers_there_and_holds : PySem.Challenge.rw_ringpostfix_k49_whole_numbers_there_and.Holds := by
  w_on; o_law; k_head; (case hw => w_witness2)
  k_fill
  refine L2.walk_of (l := PySem.Challenge.rw_ringpostfix_k49_whole_numbers_there_and) (n := 63) (k := 16) (x := "_law_script") (CX := fun _ => L2.CX0) (sp := fun w => KP.spLaw _) rfl (by decide) rfl ⟨rfl, by decide, by decide⟩ (fun w h Y => PySem.W.kIn_of Y) ?F (fun _ _ a ns hl _ hS => ⟨a, ns, rfl, hS, by omega, fun _ => rfl⟩) (fun _ _ _ _ _ h => h)
  case F =>
    intro w mg fa h KX G hmg
    refine' KP.all_mk KX G hmg ?a1 ?l1 ?c1 ?k1 ?a2 ?l2 ?c2 ?k2 ?a3 ?l3 ?c3 ?k3 ?a4 ?l4 ?c4 ?k4 ?a5 ?l5 ?c5 ?k5 ?a6 ?l6 ?c6 ?k6 ?a7 ?l7 ?c7 ?k7 ?a8 ?l8 ?c8 ?k8 ?a9 ?l9 ?c9 ?k9 ?a10 ?l10 ?c10 ?k10 ?a11 ?l11 ?c11 ?k11 ?a12 ?l12 ?c12 ?k12 ?a13 ?l13 ?c13 ?k13 ?a14 ?l14 ?c14 ?k14 ?a15 ?l15 ?c15 ?k15 ?a16 ?l16 ?c16 ?k16 ?a17 ?l17 ?c17 ?k17 ?a18 ?l18 ?c18 ?k18 ?a19 ?l19 ?c19 ?k19 ?a20 ?l20 ?c20 ?k20 ?am ?z_isinstance ?z_int ?z_bool ?z_tuple ?z_list ?z_min ?z_max ?z_sum ?z_enumerate ?z_range ?z_len ?z_abs ?z_sorted ?z_set
    (case a1 => k_is); (case l1 => k_is); (case c1 => k_is); (case k1 => k_is); (case a2 => k_is); (case l2 => k_is); (case c2 => k_is); (case k2 => k_is)
    (case a3 => k_is); (case l3 => k_is); (case c3 => k_is); (case k3 => k_is); (case a4 => k_is); (case l4 => k_is); (case c4 => k_is); (case k4 => k_is)
    (case a5 => k_is); (case l5 => k_is); (case c5 => k_is); (case k5 => k_is); (case a6 => k_is); (case l6 => k_is); (case c6 => k_is); (case k6 => k_is)
    (case a7 => k_is); (case l7 => k_is); (case c7 => k_is); (case k7 => k_is); (case a8 => k_is); (case l8 => k_is); (case c8 => k_is); (case k8 => k_is)
    (case a9 => k_is); (case l9 => k_is); (case c9 => k_is); (case k9 => k_is); (case a10 => k_is); (case l10 => k_is); (case c10 => k_is); (case k10 => k_is)
    (case a11 => k_is); (case l11 => k_is); (case c11 => k_is); (case k11 => k_is); (case a12 => k_is); (case l12 => k_is); (case c12 => k_is); (case k12 => k_is)
    (case a13 => k_is); (case l13 => k_is); (case c13 => k_is); (case k13 => k_is); (case a14 => k_is); (case l14 => k_is); (case c14 => k_is); (case k14 => k_is)
    (case a15 => k_is); (case l15 => k_is); (case c15 => k_is); (case k15 => k_is); (case a16 => k_is); (case l16 => k_is); (case c16 => k_is); (case k16 => k_is)
    (case a17 => k_is); (case l17 => k_is); (case c17 => k_is); (case k17 => k_is); (case a18 => k_is); (case l18 => k_is); (case c18 => k_is); (case k18 => k_is)
    (case a19 => k_is); (case l19 => k_is); (case c19 => k_is); (case k19 => k_is); (case a20 => k_is); (case l20 => k_is); (case c20 => k_is); (case k20 => k_is)
    (case am => k_is); (case z_isinstance => k_is); (case z_int => k_is); (case z_bool => k_is); (case z_tuple => k_is); (case z_list => k_is); (case z_min => k_is); (case z_max => k_is)
    (case z_sum => k_is); (case z_enumerate => k_is); (case z_range => k_is); (case z_len => k_is); (case z_abs => k_is); (case z_sorted => k_is); (case z_set => k_is)
end PartKEnd
