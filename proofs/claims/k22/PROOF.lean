import PyProof.Rows.All
import Wide.All
import OpenK.AllK
import Wide.FinOn
import KE.KStateDown
import HandS.ForMost
import HandS.More
import HandS.Star
import HandS.MethStar
import HandS.Defaults
import HandS.Property
import HandS.IsInst
import HandS.TupAny
import HandS.Zip
import KE.KUnpackStar
import KE.DatumOrd
import KE.SortKeyHeap
import PyProof.ReprRoads
import PyProof.RulesMatch
import HandS.SetFor
import PyProof.NeKinds
import HandS.Replace
import HandS.SortKw
import HandS.Walk
import PySem.Challenge.RW_eventsim_k22_whole_traces_of_preemption
import KE.KSuper
import Lean
import HandS.Head0
import HandS.Head1
import HandS.Head2
import HandS.HeadHook1
import HandS.HeadHook2
import HandS.HeadHook3
import HandS.ExcSuper
import HandS.Small
import KE.GoesEnum
import HandS.Wide
import HandS.SortRule
import PyProof.ReprLen
import HandS.Style
set_option Elab.async false
set_option linter.all false
set_option maxRecDepth 100000
set_option maxHeartbeats 0
/-! The machine: one run of a model, in plain Lean. Both the program's run and the law's own run are this machine's. -/
namespace Ev

inductive Ins where
  | wait (d : Nat) | take (r k : Nat) | give (r : Nat) | rouse (p : Nat)
  | rep (n : Nat) (b : List Ins) | fev (b : List Ins)

inductive Sts where
  | ready | asleep | susp (r d : Nat) | wants (r : Nat) | fin
  deriving DecidableEq

inductive Wd where
  | wake | sleep | hold | ask | lose | give | rouse | fin
  deriving DecidableEq

structure Evt where
  t : Nat
  p : Nat
  w : Wd
  xs : List Nat
  deriving DecidableEq

/-- a request: its rank, its number in its line, its number among all, its process, whether it holds -/
structure Rq where
  rank : Nat
  num : Nat
  gnum : Nat
  proc : Nat
  holds : Bool
  deriving DecidableEq

structure Cfg where
  res : List (Bool × Nat)
  scripts : List (List Ins)

def Cfg.n (c : Cfg) : Nat := c.scripts.length
def Cfg.nr (c : Cfg) : Nat := c.res.length
def Cfg.pre (c : Cfg) (r : Nat) : Bool := (c.res.getD r (false, 0)).1
def Cfg.units (c : Cfg) (r : Nat) : Nat := (c.res.getD r (false, 0)).2

abbrev Ent := Nat × Nat × Nat

structure M where
  clock : Nat
  next : Nat
  agenda : List Ent
  log : List Evt
  states : Nat → Sts
  rests : Nat → List Ins
  since : Nat → Nat
  til : Nat → Nat
  tau : Nat → Nat
  reqs : Nat → List Rq
  counts : Nat → Nat
  asked : Nat
  npass : Nat

def upf {α : Type} (f : Nat → α) (p : Nat) (v : α) : Nat → α := fun q => if q = p then v else f q
@[simp] theorem upf_same {α : Type} (f : Nat → α) (p : Nat) (v : α) : upf f p v p = v := by simp [upf]
theorem upf_ne {α : Type} (f : Nat → α) {p q : Nat} (v : α) (h : q ≠ p) : upf f p v q = f q := by simp [upf, h]

/-! ### the lines -/
def held (l : List Rq) : Nat := l.countP (·.holds)
/-- the least rank, the first of them -/
def leastOf : List Rq → Option Rq
  | [] => none
  | x :: l => match leastOf l with
    | none => some x
    | some y => if y.rank < x.rank then some y else some x
/-- the greatest rank, the last of them -/
def greatOf : List Rq → Option Rq
  | [] => none
  | x :: l => match greatOf l with
    | none => some x
    | some y => if y.rank < x.rank then some x else some y
def lastOf (l : List Rq) (p : Nat) : Option Rq := (l.filter fun x => x.holds && x.proc == p).getLast?
def setHold (l : List Rq) (num : Nat) (b : Bool) : List Rq := l.map fun x => if x.num = num then { x with holds := b } else x
def without (l : List Rq) (num : Nat) : List Rq := l.filter fun x => x.num != num

/-! ### the machine's moves -/
namespace M
def tell (m : M) (p : Nat) (w : Wd) (xs : List Nat) : M := { m with log := m.log ++ [⟨m.clock, p, w, xs⟩] }
def plan (m : M) (p t : Nat) : M := { m with agenda := m.agenda ++ [(t, m.next, p)], next := m.next + 1 }
def unplan (m : M) (p : Nat) : M := { m with agenda := m.agenda.filter fun e => e.2.2 != p }
def setSt (m : M) (p : Nat) (s : Sts) : M := { m with states := upf m.states p s }
def setRest (m : M) (p : Nat) (l : List Ins) : M := { m with rests := upf m.rests p l }
def setLine (m : M) (r : Nat) (l : List Rq) : M := { m with reqs := upf m.reqs r l }
def isSleeper (m : M) (p : Nat) : Bool := m.states p == .asleep && decide (m.clock < m.til p)
def sleepers (m : M) (n : Nat) : List Nat := (List.range n).filter m.isSleeper
def fallAsleep (m : M) (p d : Nat) : M :=
  ({ m with states := upf m.states p .asleep, since := upf m.since p m.clock, til := upf m.til p (m.clock + d), tau := upf m.tau p (m.clock + 1) }).plan p (m.clock + d)
def goOn (m : M) (p : Nat) : M := (m.setSt p .ready).plan p m.clock
/-- a new request at the end of the line r -/
def request (m : M) (p r k : Nat) (b : Bool) : M :=
  { m with reqs := upf m.reqs r (m.reqs r ++ [⟨k, m.counts r, m.asked, p, b⟩]), counts := upf m.counts r (m.counts r + 1), asked := m.asked + 1 }
def victim (c : Cfg) (m : M) (r k : Nat) : Option Rq :=
  if c.pre r then greatOf ((m.reqs r).filter fun x => x.holds && decide (k < x.rank) && m.isSleeper x.proc) else none
def take (c : Cfg) (m : M) (p r k : Nat) : M × Bool :=
  if held (m.reqs r) < c.units r then (((m.request p r k true).tell p .hold [r]), true)
  else match m.victim c r k with
    | none => (((m.request p r k false).tell p .ask [r]).setSt p (.wants r), false)
    | some q =>
      ((((((m.setLine r (setHold (m.reqs r) q.num false)).tell q.proc .lose [r]).unplan q.proc).setSt q.proc (.susp r (m.til q.proc - m.clock))).request p r k true).tell p .hold [r], true)
def resume (m : M) (q : Nat) : M :=
  match m.states q with
  | .susp _ d => m.fallAsleep q d
  | _ => m.goOn q
def give (m : M) (p r : Nat) : M :=
  match lastOf (m.reqs r) p with
  | none => m
  | some own =>
    let l := without (m.reqs r) own.num
    let m1 := m.tell p .give [r]
    match leastOf (l.filter fun x => !x.holds) with
    | none => m1.setLine r l
    | some x => ((m1.setLine r (setHold l x.num true)).tell x.proc .hold [r]).resume x.proc
def rouse (m : M) (p q : Nat) : M :=
  if m.isSleeper q && decide (m.since q < m.clock) then
    let m1 := (m.tell p .rouse [q]).unplan q
    ({ m1 with til := upf m1.til q m1.clock }).plan q m1.clock
  else m
def proceed (c : Cfg) (m : M) (p : Nat) : M × Bool :=
  match m.rests p with
  | [] => ((m.tell p .fin []).setSt p .fin, false)
  | .wait 0 :: rs => (m.setRest p rs, true)
  | .wait (d + 1) :: rs => (((m.setRest p rs).tell p .sleep [d + 1]).fallAsleep p (d + 1), false)
  | .take r k :: rs => (m.setRest p rs).take c p r k
  | .give r :: rs => ((m.setRest p rs).give p r, true)
  | .rouse q :: rs => ((m.setRest p rs).rouse p q, true)
  | .rep 0 _ :: rs => (m.setRest p rs, true)
  | .rep (n + 1) b :: rs => (m.setRest p (b ++ (if n = 0 then [] else [.rep n b]) ++ rs), true)
  | .fev b :: _ => ({ m.setRest p (b ++ [.fev b]) with npass := m.npass + 1 }, true)
end M

/-- p acts until it stops, in k moves -/
inductive Act (c : Cfg) (p : Nat) : Nat → M → M → Prop where
  | stop {m m' : M} : m.proceed c p = (m', false) → Act c p 0 m m'
  | go {k : Nat} {m m1 m' : M} : m.proceed c p = (m1, true) → Act c p k m1 m' → Act c p (k + 1) m m'

def entLt (a b : Ent) : Bool := decide (a.1 < b.1 ∨ (a.1 = b.1 ∧ (a.2.1 < b.2.1 ∨ (a.2.1 = b.2.1 ∧ a.2.2 < b.2.2))))
def minEnt : List Ent → Option Ent
  | [] => none
  | e :: l => some (l.foldl (fun a y => if entLt y a then y else a) e)
/-- the entry e is removed, its process wakes -/
def M.enter (m : M) (e : Ent) : M :=
  let m1 := { m with agenda := m.agenda.filter (· != e), clock := e.1 }
  let m2 := if m1.states e.2.2 = .asleep then m1.tell e.2.2 .wake [] else m1
  m2.setSt e.2.2 .ready
/-- the run up to the horizon h, in k steps -/
inductive Runs (c : Cfg) (h : Nat) : Nat → M → M → Prop where
  | done {m : M} : (∀ e, minEnt m.agenda = some e → h < e.1) → Runs c h 0 m m
  | step {j k : Nat} {m m1 m' : M} {e : Ent} : minEnt m.agenda = some e → e.1 ≤ h → Act c e.2.2 j (m.enter e) m1 → Runs c h k m1 m' → Runs c h (k + 1) m m'

def entries0 : Nat → List Ent
  | 0 => []
  | n + 1 => entries0 n ++ [(0, n, n)]
def init (c : Cfg) : M where
  clock := 0
  next := c.n
  agenda := entries0 c.n
  log := []
  states := fun _ => .ready
  rests := fun p => c.scripts.getD p []
  since := fun _ => 0
  til := fun _ => 0
  tau := fun _ => 0
  reqs := fun _ => []
  counts := fun _ => 0
  asked := 0
  npass := 0

/-! ### the units that a script holds, its weight -/
mutual
def runI (r : Nat) : Ins → Nat → Option Nat
  | .wait _, c => some c
  | .take r' _, c => some (if r' = r then c + 1 else c)
  | .give r', c => if r' = r then (if c = 0 then none else some (c - 1)) else some c
  | .rouse _, c => some c
  | .rep _ b, c => if runC r b c = some c then some c else none
  | .fev b, c => if c = 0 ∧ runC r b 0 = some 0 then some c else none
def runC (r : Nat) : List Ins → Nat → Option Nat
  | [], c => some c
  | i :: l, c => (runI r i c).bind fun d => runC r l d
end

mutual
def wI : Ins → Nat
  | .wait _ => 2
  | .take _ _ => 2
  | .give _ => 2
  | .rouse _ => 1
  | .rep n b => 1 + n * (wL b + 1)
  | .fev _ => 0
def wL : List Ins → Nat
  | [] => 0
  | i :: l => wI i + wL l
end
/-- positive waits -/
def pwI : Ins → Nat
  | .wait (_ + 1) => 1
  | _ => 0
def pwL : List Ins → Nat
  | [] => 0
  | i :: l => pwI i + pwL l
/-- a bound for what is still to come of a script that goes on at the time t at the earliest -/
def cost : List Ins → Nat → Nat
  | [], _ => 1
  | .fev b :: _, t => (61 - t) * (wL b + 1)
  | i :: l, t => wI i + cost l (t + pwI i)

/-! ### scripts that are in order -/
def insOk (nr np : Nat) : Nat → Ins → Bool
  | _, .wait d => decide (d ≤ 100)
  | _, .take r k => decide (r < nr) && decide (k ≤ 9)
  | _, .give r => decide (r < nr)
  | _, .rouse p => decide (p < np)
  | 0, .rep _ _ => false
  | f + 1, .rep n b => decide (n ≤ 5) && (!b.isEmpty && decide (b.length ≤ 100)) && b.all (insOk nr np f)
  | _, .fev _ => false
def fevOk (nr np : Nat) (b : List Ins) : Prop := b.all (insOk nr np 2) = true ∧ 1 ≤ pwL b
inductive RestOk (nr np : Nat) : List Ins → Prop where
  | nil : RestOk nr np []
  | fev {b : List Ins} : fevOk nr np b → RestOk nr np [.fev b]
  | cons {i : Ins} {l : List Ins} : insOk nr np 3 i = true → RestOk nr np l → RestOk nr np (i :: l)

/-! ### sums -/
def sumTo (f : Nat → Nat) : Nat → Nat
  | 0 => 0
  | n + 1 => sumTo f n + f n
theorem sumTo_le {f g : Nat → Nat} : ∀ {n : Nat}, (∀ q, q < n → f q ≤ g q) → sumTo f n ≤ sumTo g n
  | 0, _ => Nat.le_refl _
  | n + 1, h => Nat.add_le_add (sumTo_le fun q hq => h q (Nat.lt_succ_of_lt hq)) (h n (Nat.lt_succ_self n))
theorem sumTo_drop {f g : Nat → Nat} {p a : Nat} : ∀ {n : Nat}, p < n → (∀ q, q < n → q ≠ p → f q ≤ g q) → f p + a ≤ g p → sumTo f n + a ≤ sumTo g n
  | 0, h, _, _ => absurd h (Nat.not_lt_zero _)
  | n + 1, h, hq, hp => by
    by_cases e : p = n
    · subst e
      have := sumTo_le (f := f) (g := g) (n := p) fun q hq' => hq q (Nat.lt_succ_of_lt hq') (Nat.ne_of_lt hq')
      simp only [sumTo]; omega
    · have := sumTo_drop (f := f) (g := g) (p := p) (a := a) (n := n) (by omega) (fun q h1 h2 => hq q (by omega) h2) hp
      have := hq n (Nat.lt_succ_self n) (Ne.symm e)
      simp only [sumTo]; omega
theorem sumTo_congr {f g : Nat → Nat} {n : Nat} (h : ∀ q, q < n → f q = g q) : sumTo f n = sumTo g n :=
  Nat.le_antisymm (sumTo_le fun q hq => Nat.le_of_eq (h q hq)) (sumTo_le fun q hq => Nat.le_of_eq (h q hq).symm)
theorem sumTo_one {f g : Nat → Nat} {p : Nat} : ∀ {n : Nat}, p < n → (∀ q, q < n → q ≠ p → f q = g q) → sumTo f n + g p = sumTo g n + f p
  | 0, h, _ => absurd h (Nat.not_lt_zero _)
  | n + 1, h, hq => by
    by_cases e : p = n
    · subst e
      have := sumTo_congr (f := f) (g := g) (n := p) fun q hq' => hq q (Nat.lt_succ_of_lt hq') (Nat.ne_of_lt hq')
      simp only [sumTo]; omega
    · have := sumTo_one (f := f) (g := g) (p := p) (n := n) (by omega) fun q h1 h2 => hq q (by omega) h2
      have := hq n (Nat.lt_succ_self n) (Ne.symm e)
      simp only [sumTo]; omega
theorem sumTo_mem {f : Nat → Nat} {p : Nat} : ∀ {n : Nat}, p < n → f p ≤ sumTo f n
  | 0, h => absurd h (Nat.not_lt_zero _)
  | n + 1, h => by
    by_cases e : p = n
    · subst e; simp only [sumTo]; omega
    · have := sumTo_mem (f := f) (p := p) (n := n) (by omega)
      simp only [sumTo]; omega
end Ev
namespace Ev

/-! ### lemmas on scripts -/
theorem runC_append (r : Nat) : ∀ (xs ys : List Ins) (c : Nat), runC r (xs ++ ys) c = (runC r xs c).bind fun d => runC r ys d
  | [], ys, c => by simp [runC]
  | x :: xs, ys, c => by
    simp only [List.cons_append, runC]
    cases runI r x c with
    | none => rfl
    | some d => simp only [Option.bind_some]; exact runC_append r xs ys d
theorem wL_append : ∀ xs ys : List Ins, wL (xs ++ ys) = wL xs + wL ys
  | [], ys => by simp [wL]
  | x :: xs, ys => by simp only [List.cons_append, wL, wL_append xs ys]; omega
theorem cost_cons {i : Ins} {l : List Ins} {t : Nat} (h : ∀ b, i ≠ .fev b) : cost (i :: l) t = wI i + cost l (t + pwI i) := by
  cases i <;> first | rfl | exact absurd rfl (h _)
theorem cost_mono : ∀ (l : List Ins) {t u : Nat}, t ≤ u → cost l u ≤ cost l t
  | [], _, _, _ => Nat.le_refl _
  | i :: l, t, u, h => by
    cases i with
    | fev b =>
      show (61 - u) * (wL b + 1) ≤ (61 - t) * (wL b + 1)
      exact Nat.mul_le_mul_right _ (by omega)
    | _ =>
      rw [cost_cons (by intro b e; cases e), cost_cons (by intro b e; cases e)]
      exact Nat.add_le_add_left (cost_mono l (Nat.add_le_add_right h _)) _
theorem insOk_nofev {nr np f : Nat} {b : List Ins} : insOk nr np f (.fev b) = false := by cases f <;> rfl
theorem ne_fev {nr np f : Nat} {i : Ins} (h : insOk nr np f i = true) : ∀ b, i ≠ .fev b := by
  rintro b rfl; rw [insOk_nofev] at h; exact absurd h (by decide)
theorem cost_append {nr np f : Nat} : ∀ {xs : List Ins} (ys : List Ins) (t : Nat), xs.all (insOk nr np f) = true → cost (xs ++ ys) t = wL xs + cost ys (t + pwL xs)
  | [], ys, t, _ => by simp [wL, pwL]
  | x :: xs, ys, t, h => by
    simp only [List.all_cons, Bool.and_eq_true] at h
    rw [List.cons_append, cost_cons (ne_fev h.1), cost_append ys _ h.2]
    simp only [wL, pwL]
    rw [Nat.add_assoc t]; omega
theorem insOk_mono {nr np : Nat} : ∀ {f g : Nat} {i : Ins}, f ≤ g → insOk nr np f i = true → insOk nr np g i = true := by
  intro f
  induction f with
  | zero => intro g i hg h; cases i <;> cases g <;> first | exact h | (simp [insOk] at h)
  | succ f ih =>
    intro g i hg h
    cases g with
    | zero => omega
    | succ g =>
      cases i with
      | rep n b =>
        simp only [insOk, Bool.and_eq_true, List.all_eq_true] at h ⊢
        exact ⟨h.1, fun x hx => ih (by omega) (h.2 x hx)⟩
      | _ => exact h
theorem all_mono {nr np f g : Nat} {b : List Ins} (hg : f ≤ g) (h : b.all (insOk nr np f) = true) : b.all (insOk nr np g) = true := by
  rw [List.all_eq_true] at h ⊢
  exact fun x hx => insOk_mono hg (h x hx)
theorem RestOk.append {nr np : Nat} : ∀ {xs : List Ins} {ys : List Ins}, xs.all (insOk nr np 3) = true → RestOk nr np ys → RestOk nr np (xs ++ ys)
  | [], _, _, r => r
  | _ :: _, _, h, r => by
    simp only [List.all_cons, Bool.and_eq_true] at h
    exact .cons h.1 (RestOk.append h.2 r)
theorem RestOk.tail {nr np : Nat} {i : Ins} {l : List Ins} (h : RestOk nr np (i :: l)) (hi : ∀ b, i ≠ .fev b) : insOk nr np 3 i = true ∧ RestOk nr np l := by
  cases h with
  | fev h => exact absurd rfl (hi _)
  | cons h1 h2 => exact ⟨h1, h2⟩
theorem RestOk.fev_nil {nr np : Nat} {b : List Ins} {l : List Ins} (h : RestOk nr np (.fev b :: l)) : l = [] ∧ fevOk nr np b := by
  cases h with
  | fev h => exact ⟨rfl, h⟩
  | cons h1 _ => rw [insOk_nofev] at h1; exact absurd h1 (by decide)

/-! ### the potential of a process -/
def potOf (s : Sts) (l : List Ins) (t : Nat) : Nat :=
  match s with
  | .fin => 0
  | .asleep => cost l t + 1
  | .susp _ _ => cost l t + 1
  | _ => cost l t
abbrev potF (st : Nat → Sts) (re : Nat → List Ins) (ta : Nat → Nat) : Nat → Nat := fun p => potOf (st p) (re p) (ta p)
def M.pot (m : M) : Nat → Nat := potF m.states m.rests m.tau
def waits : Sts → Nat
  | .wants _ => 1
  | .susp _ _ => 1
  | _ => 0
def queued : Sts → Nat
  | .ready => 1
  | .asleep => 1
  | _ => 0
/-- requests of p in a line; those that wait -/
def own (l : List Rq) (p : Nat) : Nat := l.countP fun x => x.proc == p
def idle (l : List Rq) (p : Nat) : Nat := l.countP fun x => !x.holds && x.proc == p
/-- entries of p -/
def ents (l : List Ent) (p : Nat) : Nat := l.countP fun e => e.2.2 == p
def allow (a : Option Nat) (p : Nat) (s : Sts) : Nat := if a = some p then 0 else queued s

structure LineOk (n : Nat) (l : List Rq) (cnt asked : Nat) : Prop where
  proc : ∀ x ∈ l, x.proc < n
  num : l.Pairwise fun x y => x.num < y.num
  gnum : l.Pairwise fun x y => x.gnum < y.gnum
  numLt : ∀ x ∈ l, x.num < cnt
  gnumLt : ∀ x ∈ l, x.gnum < asked

structure EvtOk (n : Nat) (e : Evt) : Prop where
  t : e.t ≤ 60
  p : e.p < n
  xs : ∀ x ∈ e.xs, x ≤ 100
  len : e.xs.length ≤ 1

/-- the agenda and the states -/
structure GA (n : Nat) (a : Option Nat) (ck : Nat) (ag : List Ent) (st : Nat → Sts) (si ta : Nat → Nat) : Prop where
  clk : ck ≤ 60
  agT : ∀ e ∈ ag, ck ≤ e.1
  agP : ∀ e ∈ ag, e.2.2 < n ∧ ta e.2.2 ≤ e.1
  agC : ∀ p, p < n → ents ag p ≤ allow a p (st p)
  act : ∀ p, a = some p → p < n ∧ st p = .ready ∧ ta p ≤ ck
  wnt : ∀ p r, st p = .wants r → ta p ≤ ck
  slp : ∀ p, st p = .asleep → ta p ≤ si p + 1
  sus : ∀ p r d, st p = .susp r d → 1 ≤ d
  tau1 : ∀ p, ta p ≤ ck + 1
/-- the scripts and the lines -/
structure GB (c : Cfg) (re : Nat → List Ins) (rq : Nat → List Rq) (cn : Nat → Nat) (as : Nat) (st : Nat → Sts) : Prop where
  rst : ∀ p, p < c.n → RestOk c.nr c.n (re p)
  bal : ∀ p, p < c.n → ∀ r, r < c.nr → runC r (re p) (own (rq r) p) = some 0
  jw : ∀ p, p < c.n → sumTo (fun r => idle (rq r) p) c.nr ≤ waits (st p)
  lin : ∀ r, r < c.nr → LineOk c.n (rq r) (cn r) as
/-- the bounds -/
structure GC (c : Cfg) (log : List Evt) (np : Nat) (rq : Nat → List Rq) (s : Nat) : Prop where
  pot : log.length + s ≤ 3000
  pas : np + s ≤ 3000
  evs : ∀ e ∈ log, EvtOk c.n e
  rqL : ∀ r, r < c.nr → (rq r).length ≤ log.length
structure Good (c : Cfg) (a : Option Nat) (m : M) : Prop where
  ga : GA c.n a m.clock m.agenda m.states m.since m.tau
  gb : GB c m.rests m.reqs m.counts m.asked m.states
  gc : GC c m.log m.npass m.reqs (sumTo m.pot c.n)
  nLe : c.n ≤ 4
  nrLe : c.nr ≤ 3

/-! ### the agenda's part -/
theorem ents_append (ag : List Ent) (e : Ent) (p : Nat) : ents (ag ++ [e]) p = ents ag p + (if e.2.2 = p then 1 else 0) := by
  simp [ents, List.countP_append, List.countP_cons]
theorem ents_filter_same (ag : List Ent) (q : Nat) : ents (ag.filter fun e => e.2.2 != q) q = 0 := by
  simp [ents, List.countP_filter]
theorem ents_filter_le (ag : List Ent) (f : Ent → Bool) (p : Nat) : ents (ag.filter f) p ≤ ents ag p := by
  unfold ents; exact List.Sublist.countP_le List.filter_sublist
theorem allow_ne {p q : Nat} {s : Sts} (h : q ≠ p) : allow (some p) q s = allow none q s := by
  have e : ¬ (some p = some q) := fun z => h (Option.some.inj z).symm
  simp [allow, e]

section
variable {n p q ck nx d r : Nat} {ag : List Ent} {st : Nat → Sts} {si ta : Nat → Nat} {s : Sts}
theorem GA.block (g : GA n (some p) ck ag st si ta) (hs : s = .fin ∨ ∃ r, s = .wants r) : GA n none ck ag (upf st p s) si ta := by
  obtain ⟨h1, h2, h3⟩ := g.act p rfl
  refine ⟨g.clk, g.agT, g.agP, fun q hq => ?_, (fun _ e => nomatch e), fun q r e => ?_, fun q e => ?_, fun q r d e => ?_, g.tau1⟩
  all_goals by_cases hqp : q = p
  · subst hqp
    have := g.agC q hq
    simp only [allow, if_true] at this
    omega
  · rw [upf_ne _ _ hqp, ← allow_ne hqp]; exact g.agC q hq
  · rw [hqp]; exact h3
  · rw [upf_ne _ _ hqp] at e; exact g.wnt q r e
  · subst hqp; rw [upf_same] at e; rcases hs with z | ⟨r, z⟩ <;> (rw [z] at e; cases e)
  · rw [upf_ne _ _ hqp] at e; exact g.slp q e
  · subst hqp; rw [upf_same] at e; rcases hs with z | ⟨r, z⟩ <;> (rw [z] at e; cases e)
  · rw [upf_ne _ _ hqp] at e; exact g.sus q r d e
theorem GA.sleep (g : GA n (some p) ck ag st si ta) (hd : 1 ≤ d) : GA n none ck (ag ++ [(ck + d, nx, p)]) (upf st p .asleep) (upf si p ck) (upf ta p (ck + 1)) := by
  obtain ⟨h1, h2, h3⟩ := g.act p rfl
  have h0 : ents ag p = 0 := by have := g.agC p h1; simp only [allow, if_true] at this; omega
  have noP : ∀ e ∈ ag, e.2.2 ≠ p := fun e he z => by
    have : 0 < ents ag p := List.countP_pos_iff.mpr ⟨e, he, by simp [z]⟩
    omega
  refine ⟨g.clk, fun e he => ?_, fun e he => ?_, fun q hq => ?_, (fun _ e => nomatch e), fun q r e => ?_, fun q e => ?_, fun q r d' e => ?_, fun q => ?_⟩
  · rcases List.mem_append.mp he with he | he
    · exact g.agT e he
    · simp at he; subst he; show ck ≤ ck + d; omega
  · rcases List.mem_append.mp he with he | he
    · rw [upf_ne _ _ (noP e he)]; exact g.agP e he
    · simp at he; subst he; exact ⟨h1, by rw [upf_same]; show ck + 1 ≤ ck + d; omega⟩
  · rw [ents_append]
    by_cases hqp : q = p
    · subst hqp; rw [upf_same, h0]; simp [allow, queued]
    · rw [upf_ne _ _ hqp, if_neg (fun e : p = q => hqp e.symm), ← allow_ne hqp]; exact g.agC q hq
  all_goals by_cases hqp : q = p
  · subst hqp; rw [upf_same] at e; cases e
  · rw [upf_ne _ _ hqp] at e; rw [upf_ne _ _ hqp]; exact g.wnt q r e
  · subst hqp; rw [upf_same, upf_same]; exact Nat.le_refl _
  · rw [upf_ne _ _ hqp] at e; rw [upf_ne _ _ hqp, upf_ne _ _ hqp]; exact g.slp q e
  · subst hqp; rw [upf_same] at e; cases e
  · rw [upf_ne _ _ hqp] at e; exact g.sus q r d' e
  · subst hqp; rw [upf_same]; exact Nat.le_refl _
  · rw [upf_ne _ _ hqp]; exact g.tau1 q
theorem GA.suspend (g : GA n (some p) ck ag st si ta) (hq : st q = .asleep) (hd : 1 ≤ d) : GA n (some p) ck (ag.filter fun e => e.2.2 != q) (upf st q (.susp r d)) si ta := by
  obtain ⟨h1, h2, h3⟩ := g.act p rfl
  have hpq : p ≠ q := fun e => by rw [e, hq] at h2; cases h2
  refine ⟨g.clk, fun e he => g.agT e (List.mem_filter.mp he).1, fun e he => g.agP e (List.mem_filter.mp he).1, fun x hx => ?_, fun x e => ?_, fun x r e => ?_, fun x e => ?_, fun x r d' e => ?_, g.tau1⟩
  · by_cases hxq : x = q
    · subst hxq; rw [ents_filter_same]; exact Nat.zero_le _
    · rw [upf_ne _ _ hxq]; exact Nat.le_trans (ents_filter_le _ _ _) (g.agC x hx)
  · cases e; rw [upf_ne _ _ hpq]; exact g.act p rfl
  all_goals by_cases hxq : x = q
  · subst hxq; rw [upf_same] at e; cases e
  · rw [upf_ne _ _ hxq] at e; exact g.wnt x r e
  · subst hxq; rw [upf_same] at e; cases e
  · rw [upf_ne _ _ hxq] at e; exact g.slp x e
  · subst hxq; rw [upf_same] at e; cases e; exact hd
  · rw [upf_ne _ _ hxq] at e; exact g.sus x r d' e
theorem GA.goOn (g : GA n (some p) ck ag st si ta) (hq : st q = .wants r) (hn : q < n) : GA n (some p) ck (ag ++ [(ck, nx, q)]) (upf st q .ready) si ta := by
  obtain ⟨h1, h2, h3⟩ := g.act p rfl
  have hpq : p ≠ q := fun e => by rw [e, hq] at h2; cases h2
  have h0 : ents ag q = 0 := by have := g.agC q hn; rw [hq] at this; simp only [allow, queued, ite_self] at this; omega
  refine ⟨g.clk, fun e he => ?_, fun e he => ?_, fun x hx => ?_, fun x e => ?_, fun x r e => ?_, fun x e => ?_, fun x r d' e => ?_, g.tau1⟩
  · rcases List.mem_append.mp he with he | he
    · exact g.agT e he
    · simp at he; subst he; exact Nat.le_refl _
  · rcases List.mem_append.mp he with he | he
    · exact g.agP e he
    · simp at he; subst he; exact ⟨hn, g.wnt q r hq⟩
  · rw [ents_append]
    by_cases hxq : x = q
    · subst hxq; rw [upf_same, h0]; simp [allow, queued, hpq]
    · rw [upf_ne _ _ hxq, if_neg (fun e : q = x => hxq e.symm)]; exact g.agC x hx
  · cases e; rw [upf_ne _ _ hpq]; exact g.act p rfl
  all_goals by_cases hxq : x = q
  · subst hxq; rw [upf_same] at e; cases e
  · rw [upf_ne _ _ hxq] at e; exact g.wnt x r e
  · subst hxq; rw [upf_same] at e; cases e
  · rw [upf_ne _ _ hxq] at e; exact g.slp x e
  · subst hxq; rw [upf_same] at e; cases e
  · rw [upf_ne _ _ hxq] at e; exact g.sus x r d' e
theorem GA.resume (g : GA n (some p) ck ag st si ta) (hq : st q = .susp r d) (hn : q < n) : GA n (some p) ck (ag ++ [(ck + d, nx, q)]) (upf st q .asleep) (upf si q ck) (upf ta q (ck + 1)) := by
  obtain ⟨h1, h2, h3⟩ := g.act p rfl
  have hd := g.sus q r d hq
  have hpq : p ≠ q := fun e => by rw [e, hq] at h2; cases h2
  have h0 : ents ag q = 0 := by have := g.agC q hn; rw [hq] at this; simp only [allow, queued, ite_self] at this; omega
  have noQ : ∀ e ∈ ag, e.2.2 ≠ q := fun e he z => by
    have : 0 < ents ag q := List.countP_pos_iff.mpr ⟨e, he, by simp [z]⟩
    omega
  refine ⟨g.clk, fun e he => ?_, fun e he => ?_, fun x hx => ?_, fun x e => ?_, fun x r e => ?_, fun x e => ?_, fun x r d' e => ?_, fun x => ?_⟩
  · rcases List.mem_append.mp he with he | he
    · exact g.agT e he
    · simp at he; subst he; show ck ≤ ck + d; omega
  · rcases List.mem_append.mp he with he | he
    · rw [upf_ne _ _ (noQ e he)]; exact g.agP e he
    · simp at he; subst he; exact ⟨hn, by rw [upf_same]; show ck + 1 ≤ ck + d; omega⟩
  · rw [ents_append]
    by_cases hxq : x = q
    · subst hxq; rw [upf_same, h0]; simp [allow, queued, hpq]
    · rw [upf_ne _ _ hxq, if_neg (fun e : q = x => hxq e.symm)]; exact g.agC x hx
  · cases e; rw [upf_ne _ _ hpq, upf_ne _ _ hpq]; exact g.act p rfl
  all_goals by_cases hxq : x = q
  · subst hxq; rw [upf_same] at e; cases e
  · rw [upf_ne _ _ hxq] at e; rw [upf_ne _ _ hxq]; exact g.wnt x r e
  · subst hxq; rw [upf_same, upf_same]; exact Nat.le_refl _
  · rw [upf_ne _ _ hxq] at e; rw [upf_ne _ _ hxq, upf_ne _ _ hxq]; exact g.slp x e
  · subst hxq; rw [upf_same] at e; cases e
  · rw [upf_ne _ _ hxq] at e; exact g.sus x r d' e
  · subst hxq; rw [upf_same]; exact Nat.le_refl _
  · rw [upf_ne _ _ hxq]; exact g.tau1 x
theorem GA.rouse (g : GA n (some p) ck ag st si ta) (hq : st q = .asleep) (hn : q < n) (hs : si q < ck) : GA n (some p) ck ((ag.filter fun e => e.2.2 != q) ++ [(ck, nx, q)]) st si ta := by
  obtain ⟨h1, h2, h3⟩ := g.act p rfl
  have hpq : p ≠ q := fun e => by rw [e, hq] at h2; cases h2
  have := g.slp q hq
  refine ⟨g.clk, fun e he => ?_, fun e he => ?_, fun x hx => ?_, g.act, g.wnt, g.slp, g.sus, g.tau1⟩
  · rcases List.mem_append.mp he with he | he
    · exact g.agT e (List.mem_filter.mp he).1
    · simp at he; subst he; exact Nat.le_refl _
  · rcases List.mem_append.mp he with he | he
    · exact g.agP e (List.mem_filter.mp he).1
    · simp at he; subst he; exact ⟨hn, by show ta q ≤ ck; omega⟩
  · rw [ents_append]
    by_cases hxq : x = q
    · subst hxq; rw [ents_filter_same, hq]; simp [allow, queued, hpq]
    · rw [if_neg (fun e : q = x => hxq e.symm)]; exact Nat.le_trans (Nat.le_trans (Nat.le_of_eq (Nat.add_zero _)) (ents_filter_le _ _ _)) (g.agC x hx)
theorem GA.enter {e : Ent} (g : GA n none ck ag st si ta) (he : e ∈ ag) (hm : ∀ e' ∈ ag, e.1 ≤ e'.1) (h60 : e.1 ≤ 60) : GA n (some e.2.2) e.1 (ag.filter (· != e)) (upf st e.2.2 .ready) si ta := by
  have hck := g.agT e he
  obtain ⟨hn, ht⟩ := g.agP e he
  refine ⟨h60, fun x hx => hm x (List.mem_filter.mp hx).1, fun x hx => g.agP x (List.mem_filter.mp hx).1, fun x hx => ?_, fun x ex => ?_, fun x r ex => ?_, fun x ex => ?_, fun x r d' ex => ?_, fun x => Nat.le_trans (g.tau1 x) (Nat.add_le_add_right hck _)⟩
  · by_cases hxe : x = e.2.2
    · subst hxe
      have h1 := g.agC _ hn
      have h2 : ents ag e.2.2 ≤ 1 := Nat.le_trans h1 (by unfold allow; split; · omega
                                                         · cases st e.2.2 <;> simp [queued])
      have h3 : ents (ag.filter (· != e)) e.2.2 + 1 ≤ ents ag e.2.2 := by
        unfold ents
        rw [List.countP_filter]
        clear h1 h2 hm hck hn ht g
        induction ag with
        | nil => cases he
        | cons y l ih =>
          rcases List.mem_cons.mp he with rfl | he
          · have h5 : List.countP (fun x => x.2.2 == e.2.2 && x != e) l ≤ List.countP (fun x => x.2.2 == e.2.2) l := List.countP_mono_left fun x _ hx => by simp at hx ⊢; exact hx.1
            simp only [List.countP_cons, bne_self_eq_false, Bool.and_false, beq_self_eq_true, Bool.false_eq_true, if_false, if_true]
            omega
          · have h6 := ih he
            simp only [List.countP_cons]
            by_cases h7 : (y.2.2 == e.2.2) = true
            · rw [if_pos h7]
              split <;> omega
            · have h8 : ¬ ((y.2.2 == e.2.2) && (y != e)) = true := by simp at h7; simp [h7]
              rw [if_neg h7, if_neg h8]; omega
      have h4 : ents (ag.filter (· != e)) e.2.2 = 0 := by omega
      rw [h4]; exact Nat.zero_le _
    · rw [upf_ne _ _ hxe, allow_ne hxe]; exact Nat.le_trans (ents_filter_le _ _ _) (g.agC x hx)
  · cases ex; exact ⟨hn, upf_same _ _ _, ht⟩
  all_goals by_cases hxe : x = e.2.2
  · subst hxe; rw [upf_same] at ex; cases ex
  · rw [upf_ne _ _ hxe] at ex; exact Nat.le_trans (g.wnt x r ex) hck
  · subst hxe; rw [upf_same] at ex; cases ex
  · rw [upf_ne _ _ hxe] at ex; exact g.slp x ex
  · subst hxe; rw [upf_same] at ex; cases ex
  · rw [upf_ne _ _ hxe] at ex; exact g.sus x r d' ex
end
end Ev
namespace Ev
/-! ### counts of a line -/
theorem countP_without (f : Rq → Bool) : ∀ {l : List Rq} {x : Rq}, l.Pairwise (fun x y => x.num < y.num) → x ∈ l → l.countP f = (without l x.num).countP f + (if f x = true then 1 else 0)
  | [], _, _, h => nomatch h
  | y :: l, x, hp, hx => by
    obtain ⟨h1, h2⟩ := List.pairwise_cons.mp hp
    rcases List.mem_cons.mp hx with rfl | hx
    · have e : without (x :: l) x.num = l := by
        unfold without
        rw [List.filter_cons_of_neg (by simp)]
        exact List.filter_eq_self.mpr fun y hy => by have := h1 y hy; simp; omega
      rw [e, List.countP_cons]
    · have hne : y.num ≠ x.num := Nat.ne_of_lt (h1 x hx)
      have e : without (y :: l) x.num = y :: without l x.num := by
        unfold without
        rw [List.filter_cons_of_pos (by simpa using hne)]
      rw [e, List.countP_cons, List.countP_cons, countP_without f h2 hx]; omega
theorem countP_setHold (f : Rq → Bool) (b : Bool) : ∀ {l : List Rq} {x : Rq}, l.Pairwise (fun x y => x.num < y.num) → x ∈ l →
    (setHold l x.num b).countP f + (if f x = true then 1 else 0) = l.countP f + (if f { x with holds := b } = true then 1 else 0)
  | [], _, _, h => nomatch h
  | y :: l, x, hp, hx => by
    obtain ⟨h1, h2⟩ := List.pairwise_cons.mp hp
    rcases List.mem_cons.mp hx with rfl | hx
    · have e : setHold (x :: l) x.num b = { x with holds := b } :: l := by
        unfold setHold
        rw [List.map_cons, if_pos rfl]
        congr 1
        conv => rhs; rw [← List.map_id l]
        refine List.map_congr_left fun y hy => ?_
        have := h1 y hy
        rw [if_neg (by omega)]; rfl
      rw [e, List.countP_cons, List.countP_cons]; omega
    · have hne : y.num ≠ x.num := Nat.ne_of_lt (h1 x hx)
      have e : setHold (y :: l) x.num b = y :: setHold l x.num b := by
        unfold setHold
        rw [List.map_cons, if_neg hne]
      have ih := countP_setHold f b h2 hx
      rw [e, List.countP_cons, List.countP_cons]; omega
theorem own_append (l : List Rq) (x : Rq) (p : Nat) : own (l ++ [x]) p = own l p + (if x.proc = p then 1 else 0) := by
  simp [own, List.countP_append, List.countP_cons]
theorem idle_append (l : List Rq) (x : Rq) (p : Nat) : idle (l ++ [x]) p = idle l p + (if x.holds = false ∧ x.proc = p then 1 else 0) := by
  simp [idle, List.countP_append, List.countP_cons]
theorem own_without {l : List Rq} {x : Rq} (hp : l.Pairwise fun x y => x.num < y.num) (hx : x ∈ l) (p : Nat) : own l p = own (without l x.num) p + (if x.proc = p then 1 else 0) := by
  have := countP_without (fun y => y.proc == p) hp hx
  simpa [own] using this
theorem idle_without {l : List Rq} {x : Rq} (hp : l.Pairwise fun x y => x.num < y.num) (hx : x ∈ l) (hh : x.holds = true) (p : Nat) : idle l p = idle (without l x.num) p := by
  have := countP_without (fun y => !y.holds && y.proc == p) hp hx
  simpa [idle, hh] using this
theorem own_setHold {l : List Rq} (n : Nat) (b : Bool) (p : Nat) : own (setHold l n b) p = own l p := by
  unfold own setHold
  rw [List.countP_map]
  refine List.countP_congr fun x _ => ?_
  simp only [Function.comp]
  split <;> exact Iff.rfl
theorem idle_setHold_off {l : List Rq} {x : Rq} (hp : l.Pairwise fun x y => x.num < y.num) (hx : x ∈ l) (hh : x.holds = true) (p : Nat) : idle (setHold l x.num false) p = idle l p + (if x.proc = p then 1 else 0) := by
  have := countP_setHold (fun y => !y.holds && y.proc == p) false hp hx
  simpa [idle, hh] using this
theorem idle_setHold_on {l : List Rq} {x : Rq} (hp : l.Pairwise fun x y => x.num < y.num) (hx : x ∈ l) (hh : x.holds = false) (p : Nat) : idle (setHold l x.num true) p + (if x.proc = p then 1 else 0) = idle l p := by
  have := countP_setHold (fun y => !y.holds && y.proc == p) true hp hx
  simpa [idle, hh] using this

section
variable {n cn as : Nat} {l : List Rq} {x : Rq}
theorem LineOk.append (h : LineOk n l cn as) (hx : x.proc < n) (h1 : x.num = cn) (h2 : x.gnum = as) : LineOk n (l ++ [x]) (cn + 1) (as + 1) := by
  refine ⟨fun y hy => ?_, ?_, ?_, fun y hy => ?_, fun y hy => ?_⟩
  · rcases List.mem_append.mp hy with hy | hy
    · exact h.proc y hy
    · simp at hy; subst hy; exact hx
  · refine List.pairwise_append.mpr ⟨h.num, List.pairwise_singleton _ _, fun a ha b hb => ?_⟩
    simp at hb; subst hb; rw [h1]; exact h.numLt a ha
  · refine List.pairwise_append.mpr ⟨h.gnum, List.pairwise_singleton _ _, fun a ha b hb => ?_⟩
    simp at hb; subst hb; rw [h2]; exact h.gnumLt a ha
  · rcases List.mem_append.mp hy with hy | hy
    · exact Nat.lt_succ_of_lt (h.numLt y hy)
    · simp at hy; subst hy; omega
  · rcases List.mem_append.mp hy with hy | hy
    · exact Nat.lt_succ_of_lt (h.gnumLt y hy)
    · simp at hy; subst hy; omega
theorem LineOk.more (h : LineOk n l cn as) : LineOk n l cn (as + 1) := ⟨h.proc, h.num, h.gnum, h.numLt, fun y hy => Nat.lt_succ_of_lt (h.gnumLt y hy)⟩
theorem LineOk.without (h : LineOk n l cn as) (k : Nat) : LineOk n (without l k) cn as :=
  ⟨fun y hy => h.proc y (List.mem_filter.mp hy).1, h.num.filter _, h.gnum.filter _, fun y hy => h.numLt y (List.mem_filter.mp hy).1, fun y hy => h.gnumLt y (List.mem_filter.mp hy).1⟩
theorem mem_setHold {k : Nat} {b : Bool} {y : Rq} (h : y ∈ setHold l k b) : ∃ x ∈ l, y = { x with holds := y.holds } := by
  unfold setHold at h
  obtain ⟨x, hx, rfl⟩ := List.mem_map.mp h
  refine ⟨x, hx, ?_⟩
  split <;> rfl
theorem LineOk.setHold (h : LineOk n l cn as) (k : Nat) (b : Bool) : LineOk n (setHold l k b) cn as := by
  refine ⟨fun y hy => ?_, ?_, ?_, fun y hy => ?_, fun y hy => ?_⟩
  · obtain ⟨x, hx, e⟩ := mem_setHold hy; rw [e]; exact h.proc x hx
  · unfold Ev.setHold
    refine List.pairwise_map.mpr (h.num.imp fun {a b} hab => ?_)
    split <;> split <;> exact hab
  · unfold Ev.setHold
    refine List.pairwise_map.mpr (h.gnum.imp fun {a b} hab => ?_)
    split <;> split <;> exact hab
  · obtain ⟨x, hx, e⟩ := mem_setHold hy; rw [e]; exact h.numLt x hx
  · obtain ⟨x, hx, e⟩ := mem_setHold hy; rw [e]; exact h.gnumLt x hx
theorem setHold_length (k : Nat) (b : Bool) : (setHold l k b).length = l.length := List.length_map ..
theorem without_length_le (k : Nat) : (without l k).length ≤ l.length := List.length_filter_le ..
end

/-! ### the choices -/
theorem leastOf_mem : ∀ {l : List Rq} {x : Rq}, leastOf l = some x → x ∈ l
  | [], _, h => nomatch h
  | y :: l, x, h => by
    simp only [leastOf] at h
    cases e : leastOf l with
    | none => rw [e] at h; cases h; exact List.mem_cons_self
    | some z =>
      rw [e] at h
      have hz := leastOf_mem e
      simp only at h
      split at h <;> cases h
      · exact List.mem_cons_of_mem _ hz
      · exact List.mem_cons_self
theorem greatOf_mem : ∀ {l : List Rq} {x : Rq}, greatOf l = some x → x ∈ l
  | [], _, h => nomatch h
  | y :: l, x, h => by
    simp only [greatOf] at h
    cases e : greatOf l with
    | none => rw [e] at h; cases h; exact List.mem_cons_self
    | some z =>
      rw [e] at h
      have hz := greatOf_mem e
      simp only at h
      split at h <;> cases h
      · exact List.mem_cons_self
      · exact List.mem_cons_of_mem _ hz
theorem lastOf_mem {l : List Rq} {p : Nat} {x : Rq} (h : lastOf l p = some x) : x ∈ l ∧ x.holds = true ∧ x.proc = p := by
  have := List.mem_of_getLast? h
  obtain ⟨h1, h2⟩ := List.mem_filter.mp this
  simp at h2
  exact ⟨h1, h2⟩

/-! ### the scripts' and the lines' part -/
section
variable {c : Cfg} {re : Nat → List Ins} {rq : Nat → List Rq} {cn : Nat → Nat} {as p q r k : Nat} {st : Nat → Sts} {s : Sts}
theorem GB.rest {l : List Ins} (g : GB c re rq cn as st) (h1 : RestOk c.nr c.n l) (h2 : ∀ r, r < c.nr → runC r l (own (rq r) p) = some 0) : GB c (upf re p l) rq cn as st := by
  refine ⟨fun q hq => ?_, fun q hq r hr => ?_, g.jw, g.lin⟩
  all_goals by_cases e : q = p
  · subst e; rw [upf_same]; exact h1
  · rw [upf_ne _ _ e]; exact g.rst q hq
  · subst e; rw [upf_same]; exact h2 r hr
  · rw [upf_ne _ _ e]; exact g.bal q hq r hr
theorem GB.state (g : GB c re rq cn as st) (h : waits (st p) ≤ waits s) : GB c re rq cn as (upf st p s) := by
  refine ⟨g.rst, g.bal, fun q hq => ?_, g.lin⟩
  by_cases e : q = p
  · subst e; rw [upf_same]; exact Nat.le_trans (g.jw q hq) h
  · rw [upf_ne _ _ e]; exact g.jw q hq
theorem idle_zero (g : GB c re rq cn as st) (hp : p < c.n) (h : waits (st p) = 0) (hr : r < c.nr) : idle (rq r) p = 0 := by
  have h1 := g.jw p hp
  have h2 := sumTo_mem (f := fun r => idle (rq r) p) hr
  have h3 : idle (rq r) p ≤ sumTo (fun r => idle (rq r) p) c.nr := h2
  omega
/-- one line is changed: the waiting requests of q become more by a -/
theorem sum_idle {l : List Rq} {q a : Nat} (hr : r < c.nr) (h : idle l q ≤ idle (rq r) q + a) : sumTo (fun i => idle (upf rq r l i) q) c.nr ≤ sumTo (fun i => idle (rq i) q) c.nr + a := by
  have h1 := sumTo_one (f := fun i => idle (upf rq r l i) q) (g := fun i => idle (rq i) q) hr fun i _ hi => by simp only [upf_ne _ _ hi]
  simp only [upf_same] at h1
  omega
theorem sum_idle_less {l : List Rq} {q a : Nat} (hr : r < c.nr) (h : idle l q + a ≤ idle (rq r) q) : sumTo (fun i => idle (upf rq r l i) q) c.nr + a ≤ sumTo (fun i => idle (rq i) q) c.nr := by
  have h1 := sumTo_one (f := fun i => idle (upf rq r l i) q) (g := fun i => idle (rq i) q) hr fun i _ hi => by simp only [upf_ne _ _ hi]
  simp only [upf_same] at h1
  omega
/-- take: the request is made -/
theorem GB.request {rs : List Ins} {b : Bool} (g : GB c re rq cn as st) (hp : p < c.n) (hr : r < c.nr) (hre : re p = .take r k :: rs) (hrs : RestOk c.nr c.n rs) (hw : waits (st p) = 0) (hs : b = false → waits s = 1) :
    GB c (upf re p rs) (upf rq r (rq r ++ [⟨k, cn r, as, p, b⟩])) (upf cn r (cn r + 1)) (as + 1) (if b = true then st else upf st p s) := by
  refine ⟨fun q hq => ?_, fun q hq i hi => ?_, fun q hq => ?_, fun i hi => ?_⟩
  · by_cases e : q = p
    · subst e; rw [upf_same]; exact hrs
    · rw [upf_ne _ _ e]; exact g.rst q hq
  · by_cases e : q = p
    · subst e
      rw [upf_same]
      have h1 := g.bal q hq i hi
      rw [hre] at h1
      simp only [runC, runI, Option.bind_some] at h1
      by_cases ei : i = r
      · subst ei
        rw [if_pos rfl] at h1
        rw [upf_same, own_append, if_pos rfl]
        exact h1
      · rw [if_neg (fun z : r = i => ei z.symm)] at h1
        rw [upf_ne _ _ ei]
        exact h1
    · rw [upf_ne _ _ e]
      have h1 := g.bal q hq i hi
      by_cases ei : i = r
      · subst ei
        rw [upf_same, own_append, if_neg (fun z : p = q => e z.symm)]
        exact h1
      · rw [upf_ne _ _ ei]
        exact h1
  · cases b with
    | true =>
      rw [if_pos rfl]
      have := sum_idle (c := c) (rq := rq) (r := r) (l := rq r ++ [⟨k, cn r, as, p, true⟩]) (q := q) (a := 0) hr (by rw [idle_append]; simp)
      exact Nat.le_trans this (g.jw q hq)
    | false =>
      rw [if_neg (by decide)]
      by_cases e : q = p
      · subst e
        rw [upf_same, hs rfl]
        have := sum_idle (c := c) (rq := rq) (r := r) (l := rq r ++ [⟨k, cn r, as, q, false⟩]) (q := q) (a := 1) hr (by rw [idle_append]; simp)
        have := g.jw q hq
        omega
      · rw [upf_ne _ _ e]
        have := sum_idle (c := c) (rq := rq) (r := r) (l := rq r ++ [⟨k, cn r, as, p, false⟩]) (q := q) (a := 0) hr (by rw [idle_append, if_neg (fun z => e z.2.symm)]; exact Nat.le_refl _)
        exact Nat.le_trans this (g.jw q hq)
  · by_cases ei : i = r
    · subst ei; rw [upf_same, upf_same]; exact (g.lin i hi).append hp rfl rfl
    · rw [upf_ne _ _ ei, upf_ne _ _ ei]; exact (g.lin i hi).more
/-- a victim loses its unit -/
theorem GB.lose {x : Rq} (g : GB c re rq cn as st) (hr : r < c.nr) (hx : x ∈ rq r) (hh : x.holds = true) (hw : waits (st x.proc) = 0) (hs : waits s = 1) :
    GB c re (upf rq r (setHold (rq r) x.num false)) cn as (upf st x.proc s) := by
  have hl := g.lin r hr
  refine ⟨g.rst, fun q hq i hi => ?_, fun q hq => ?_, fun i hi => ?_⟩
  · by_cases ei : i = r
    · subst ei; rw [upf_same, own_setHold]; exact g.bal q hq i hi
    · rw [upf_ne _ _ ei]; exact g.bal q hq i hi
  · have := sum_idle (c := c) (rq := rq) (r := r) (l := setHold (rq r) x.num false) (q := q) (a := if x.proc = q then 1 else 0) hr (Nat.le_of_eq (idle_setHold_off hl.num hx hh q))
    have h2 := g.jw q hq
    by_cases e : q = x.proc
    · rw [e] at this h2 ⊢; rw [upf_same, hs]; rw [if_pos rfl] at this; omega
    · rw [upf_ne _ _ e]; rw [if_neg (fun z : x.proc = q => e z.symm)] at this; omega
  · by_cases ei : i = r
    · subst ei; rw [upf_same]; exact hl.setHold _ _
    · rw [upf_ne _ _ ei]; exact g.lin i hi
/-- give: the own request ends -/
theorem GB.give {rs : List Ins} {x : Rq} (g : GB c re rq cn as st) (hp : p < c.n) (hr : r < c.nr) (hre : re p = .give r :: rs) (hrs : RestOk c.nr c.n rs) (hx : x ∈ rq r) (hh : x.holds = true) (hxp : x.proc = p) :
    GB c (upf re p rs) (upf rq r (without (rq r) x.num)) cn as st := by
  have hl := g.lin r hr
  refine ⟨fun q hq => ?_, fun q hq i hi => ?_, fun q hq => ?_, fun i hi => ?_⟩
  · by_cases e : q = p
    · subst e; rw [upf_same]; exact hrs
    · rw [upf_ne _ _ e]; exact g.rst q hq
  · have h1 := g.bal q hq i hi
    by_cases e : q = p
    · subst e
      rw [upf_same]
      rw [hre] at h1
      simp only [runC, runI] at h1
      by_cases ei : i = r
      · subst ei
        rw [upf_same]
        have h2 := own_without hl.num hx q
        rw [if_pos hxp] at h2
        rw [if_pos rfl, if_neg (by omega), Option.bind_some] at h1
        rw [show own (without (rq i) x.num) q = own (rq i) q - 1 by omega]
        exact h1
      · rw [upf_ne _ _ ei]
        rw [if_neg (fun z : r = i => ei z.symm), Option.bind_some] at h1
        exact h1
    · rw [upf_ne _ _ e]
      by_cases ei : i = r
      · subst ei
        rw [upf_same]
        have h2 := own_without hl.num hx q
        rw [if_neg (by rw [hxp]; exact fun z : p = q => e z.symm)] at h2
        rw [show own (without (rq i) x.num) q = own (rq i) q by omega]
        exact h1
      · rw [upf_ne _ _ ei]; exact h1
  · have := sum_idle (c := c) (rq := rq) (r := r) (l := without (rq r) x.num) (q := q) (a := 0) hr (Nat.le_of_eq (idle_without hl.num hx hh q).symm)
    exact Nat.le_trans this (g.jw q hq)
  · by_cases ei : i = r
    · subst ei; rw [upf_same]; exact hl.without _
    · rw [upf_ne _ _ ei]; exact g.lin i hi
/-- a waiting request holds from now on -/
theorem GB.gain {x : Rq} (g : GB c re rq cn as st) (hr : r < c.nr) (hx : x ∈ rq r) (hh : x.holds = false) (hs : waits s = 0) :
    GB c re (upf rq r (setHold (rq r) x.num true)) cn as (upf st x.proc s) ∧ 1 ≤ waits (st x.proc) := by
  have hl := g.lin r hr
  have hxn := hl.proc x hx
  have i1 : 1 ≤ idle (rq r) x.proc := List.countP_pos_iff.mpr ⟨x, hx, by simp [hh]⟩
  have i2 : idle (rq r) x.proc ≤ sumTo (fun i => idle (rq i) x.proc) c.nr := sumTo_mem (f := fun i => idle (rq i) x.proc) hr
  have i3 := g.jw x.proc hxn
  refine ⟨⟨g.rst, fun q hq i hi => ?_, fun q hq => ?_, fun i hi => ?_⟩, by omega⟩
  · by_cases ei : i = r
    · subst ei; rw [upf_same, own_setHold]; exact g.bal q hq i hi
    · rw [upf_ne _ _ ei]; exact g.bal q hq i hi
  · have := sum_idle_less (c := c) (rq := rq) (r := r) (l := setHold (rq r) x.num true) (q := q) (a := if x.proc = q then 1 else 0) hr (Nat.le_of_eq (idle_setHold_on hl.num hx hh q))
    have h2 := g.jw q hq
    have h3 : waits (st q) ≤ 1 := by cases st q <;> simp [waits]
    by_cases e : q = x.proc
    · rw [e] at this h2 h3 ⊢; rw [upf_same, hs]; rw [if_pos rfl] at this; omega
    · rw [upf_ne _ _ e]; rw [if_neg (fun z : x.proc = q => e z.symm)] at this; omega
  · by_cases ei : i = r
    · subst ei; rw [upf_same]; exact hl.setHold _ _
    · rw [upf_ne _ _ ei]; exact g.lin i hi
end
end Ev
namespace Ev
/-! ### the bounds, and a whole move -/
theorem lastOf_some {l : List Rq} {p : Nat} (h1 : 0 < own l p) (h2 : idle l p = 0) : ∃ x, lastOf l p = some x := by
  obtain ⟨x, hx, hp⟩ := List.countP_pos_iff.mp h1
  have hh : x.holds = true := by
    cases e : x.holds with
    | true => rfl
    | false =>
      have : 0 < idle l p := List.countP_pos_iff.mpr ⟨x, hx, by simp [e]; simpa using hp⟩
      omega
  have hm : x ∈ l.filter fun x => x.holds && x.proc == p := List.mem_filter.mpr ⟨hx, by rw [hh]; simpa using hp⟩
  cases e : lastOf l p with
  | some y => exact ⟨y, rfl⟩
  | none =>
    unfold lastOf at e
    rw [List.getLast?_eq_none_iff] at e
    rw [e] at hm; cases hm

section
variable {c : Cfg} {log : List Evt} {np s s' : Nat} {rq rq' : Nat → List Rq}
theorem GC.mk' (g : GC c log np rq s) {evs : List Evt} {a : Nat} (he : ∀ e ∈ evs, EvtOk c.n e) (h1 : s' + evs.length ≤ s) (h2 : s' + a ≤ s) (hl : ∀ r, r < c.nr → (rq' r).length ≤ (rq r).length + evs.length) :
    GC c (log ++ evs) (np + a) rq' s' := by
  have := g.pot
  have := g.pas
  refine ⟨by rw [List.length_append]; omega, by omega, fun e h => ?_, fun r hr => ?_⟩
  · rcases List.mem_append.mp h with h | h
    · exact g.evs e h
    · exact he e h
  · rw [List.length_append]
    have := g.rqL r hr
    have := hl r hr
    omega
end
theorem GC.keep {c : Cfg} {log : List Evt} {np s s' : Nat} {rq : Nat → List Rq} (g : GC c log np rq s) (h : s' ≤ s) : GC c log np rq s' :=
  ⟨by have := g.pot; omega, by have := g.pas; omega, g.evs, g.rqL⟩
theorem GC.pass {c : Cfg} {log : List Evt} {np s s' : Nat} {rq : Nat → List Rq} (g : GC c log np rq s) (h : s' + 1 ≤ s) : GC c log (np + 1) rq s' :=
  ⟨by have := g.pot; omega, by have := g.pas; omega, g.evs, g.rqL⟩
theorem evt1 {n t p : Nat} {w : Wd} {xs : List Nat} (ht : t ≤ 60) (hp : p < n) (hx : ∀ x ∈ xs, x ≤ 100) (hl : xs.length ≤ 1) : EvtOk n ⟨t, p, w, xs⟩ := ⟨ht, hp, hx, hl⟩
theorem le100 {x : Nat} (h : x ≤ 100) : ∀ y ∈ [x], y ≤ 100 := fun y hy => by simp at hy; omega

/-- the sum of the potentials falls by a -/
theorem pot_drop {n p a : Nat} {st st' : Nat → Sts} {re re' : Nat → List Ins} {ta ta' : Nat → Nat} (hp : p < n) (ho : ∀ q, q < n → q ≠ p → potOf (st' q) (re' q) (ta' q) ≤ potOf (st q) (re q) (ta q))
    (h : potOf (st' p) (re' p) (ta' p) + a ≤ potOf (st p) (re p) (ta p)) : sumTo (potF st' re' ta') n + a ≤ sumTo (potF st re ta) n := sumTo_drop hp ho h
theorem potOf_ready {l : List Ins} {t : Nat} : potOf .ready l t = cost l t := rfl

/-- a move of the acting process keeps all, and the potential falls -/
theorem Good.proceed {c : Cfg} {p : Nat} {m m' : M} {b : Bool} (g : Good c (some p) m) (h : m.proceed c p = (m', b)) :
    Good c (if b = true then some p else none) m' ∧ sumTo m'.pot c.n + 1 ≤ sumTo m.pot c.n := by
  obtain ⟨hp, hst, hta⟩ := g.ga.act p rfl
  have hck := g.ga.clk
  have hnr := g.nrLe
  have hn4 := g.nLe
  have hrest := g.gb.rst p hp
  have hpot : potOf (m.states p) (m.rests p) (m.tau p) = cost (m.rests p) (m.tau p) := by rw [hst]; rfl
  -- the same potential elsewhere
  have oth : ∀ (l : List Ins) (q : Nat), q < c.n → q ≠ p → potOf (m.states q) (upf m.rests p l q) (m.tau q) ≤ potOf (m.states q) (m.rests q) (m.tau q) := fun l q _ hq => by
    rw [upf_ne _ _ hq]; exact Nat.le_refl _
  unfold M.proceed at h
  cases hre : m.rests p with
  | nil =>
    rw [hre] at h
    cases h
    have hd : sumTo (potF (upf m.states p .fin) m.rests m.tau) c.n + 1 ≤ sumTo m.pot c.n :=
      pot_drop hp (fun q _ hq => by rw [upf_ne _ _ hq]; exact Nat.le_refl _) (by rw [upf_same, hpot, hre]; exact Nat.le_refl _)
    exact ⟨⟨g.ga.block (.inl rfl), g.gb.state (by rw [hst]; exact Nat.le_refl _), g.gc.mk' (a := 0) (evs := [⟨m.clock, p, .fin, []⟩]) (fun e he => by simp at he; subst he; exact evt1 hck hp (fun _ z => nomatch z) (Nat.zero_le _)) hd (Nat.le_of_succ_le hd) (fun r _ => Nat.le_add_right _ _), hn4, hnr⟩, hd⟩
  | cons i rs =>
    rw [hre] at h hrest
    cases i with
    | wait d =>
      obtain ⟨hi, hrs⟩ := hrest.tail (by intro b e; cases e)
      have hb : GB c (upf m.rests p rs) m.reqs m.counts m.asked m.states := g.gb.rest hrs fun r hr => by
        have h1 := g.gb.bal p hp r hr
        rw [hre] at h1
        simpa only [runC, runI, Option.bind_some] using h1
      cases d with
      | zero =>
        cases h
        have hd : sumTo (potF m.states (upf m.rests p rs) m.tau) c.n + 1 ≤ sumTo m.pot c.n :=
          pot_drop hp (oth rs) (by rw [upf_same, hpot, hre, hst, potOf_ready, cost_cons (by intro b e; cases e)]; simp only [wI, pwI, Nat.add_zero]; omega)
        exact ⟨⟨g.ga, hb, g.gc.keep (Nat.le_of_succ_le hd), hn4, hnr⟩, hd⟩
      | succ d =>
        cases h
        have hd100 : d + 1 ≤ 100 := by
          have : decide (d + 1 ≤ 100) = true := hi
          exact of_decide_eq_true this
        have hc := cost_mono rs (t := m.tau p + 1) (u := m.clock + 1) (by omega)
        have hd : sumTo (potF (upf m.states p .asleep) (upf m.rests p rs) (upf m.tau p (m.clock + 1))) c.n + 1 ≤ sumTo m.pot c.n :=
          pot_drop hp (fun q _ hq => by rw [upf_ne _ _ hq, upf_ne _ _ hq, upf_ne _ _ hq]; exact Nat.le_refl _)
            (by rw [upf_same, upf_same, upf_same, hpot, hre, cost_cons (by intro b e; cases e)]; show cost rs (m.clock + 1) + 1 + 1 ≤ wI (.wait (d + 1)) + cost rs (m.tau p + pwI (.wait (d + 1))); simp only [wI, pwI, Nat.add_zero]; omega)
        exact ⟨⟨g.ga.sleep (by omega), hb.state (by rw [hst]; exact Nat.le_refl _), g.gc.mk' (a := 0) (evs := [⟨m.clock, p, .sleep, [d + 1]⟩]) (fun e he => by simp at he; subst he; exact evt1 hck hp (le100 hd100) (by simp)) hd (Nat.le_of_succ_le hd) (fun r _ => Nat.le_add_right _ _), hn4, hnr⟩, hd⟩
    | take r k =>
      obtain ⟨hi, hrs⟩ := hrest.tail (by intro b e; cases e)
      have hi' : r < c.nr ∧ k ≤ 9 := by
        have : (decide (r < c.nr) && decide (k ≤ 9)) = true := hi
        simpa using this
      have hr := hi'.1
      have hw : waits (m.states p) = 0 := by rw [hst]; rfl
      have hcost : cost (m.rests p) (m.tau p) = 2 + cost rs (m.tau p) := by rw [hre, cost_cons (by intro b e; cases e)]; rfl
      have evH : EvtOk c.n ⟨m.clock, p, .hold, [r]⟩ := evt1 hck hp (le100 (by omega)) (by simp)
      have lenA : ∀ (b : Bool) (i : Nat), i < c.nr → (upf m.reqs r (m.reqs r ++ [⟨k, m.counts r, m.asked, p, b⟩]) i).length ≤ (m.reqs i).length + 1 := fun b i _ => by
        by_cases ei : i = r
        · subst ei; rw [upf_same, List.length_append]; simp
        · rw [upf_ne _ _ ei]; omega
      dsimp only at h
      unfold M.take at h
      by_cases hf : held ((m.setRest p rs).reqs r) < c.units r
      · rw [if_pos hf] at h
        cases h
        have hd : sumTo (potF m.states (upf m.rests p rs) m.tau) c.n + 2 ≤ sumTo m.pot c.n :=
          pot_drop hp (oth rs) (by rw [upf_same, hpot, hcost, hst, potOf_ready]; omega)
        exact ⟨⟨g.ga, g.gb.request (b := true) (s := .ready) hp hr hre hrs hw (fun z => nomatch z), g.gc.mk' (a := 0) (evs := [⟨m.clock, p, .hold, [r]⟩]) (fun e he => by simp at he; subst he; exact evH) (Nat.le_of_succ_le hd) (by have h := hd; show sumTo (potF m.states (upf m.rests p rs) m.tau) c.n + 0 ≤ _; omega) (lenA true), hn4, hnr⟩,
          Nat.le_of_succ_le hd⟩
      · rw [if_neg hf] at h
        cases hv : (m.setRest p rs).victim c r k with
        | none =>
          rw [hv] at h
          cases h
          have hd : sumTo (potF (upf m.states p (.wants r)) (upf m.rests p rs) m.tau) c.n + 2 ≤ sumTo m.pot c.n :=
            pot_drop hp (fun q _ hq => by rw [upf_ne _ _ hq, upf_ne _ _ hq]; exact Nat.le_refl _) (by rw [upf_same, upf_same, hpot, hcost]; show cost rs (m.tau p) + 2 ≤ _; omega)
          have hB := g.gb.request (b := false) (s := .wants r) hp hr hre hrs hw (fun _ => rfl)
          rw [if_neg (by decide)] at hB
          exact ⟨⟨g.ga.block (.inr ⟨r, rfl⟩), hB, g.gc.mk' (a := 0) (evs := [⟨m.clock, p, .ask, [r]⟩]) (fun e he => by simp at he; subst he; exact evt1 hck hp (le100 (by omega)) (by simp)) (Nat.le_of_succ_le hd) (by show sumTo (potF (upf m.states p (.wants r)) (upf m.rests p rs) m.tau) c.n + 0 ≤ _; omega) (lenA false), hn4, hnr⟩,
            Nat.le_of_succ_le hd⟩
        | some x =>
          rw [hv] at h
          cases h
          have hx0 : greatOf ((m.reqs r).filter fun x => x.holds && decide (k < x.rank) && m.isSleeper x.proc) = some x := by
            unfold M.victim at hv
            split at hv
            · exact hv
            · cases hv
          obtain ⟨hxm, hxf⟩ := List.mem_filter.mp (greatOf_mem hx0)
          simp only [Bool.and_eq_true] at hxf
          obtain ⟨⟨hxh, _⟩, hxs⟩ := hxf
          have hxs' : m.states x.proc = .asleep ∧ m.clock < m.til x.proc := by
            have : (m.states x.proc == .asleep && decide (m.clock < m.til x.proc)) = true := hxs
            simpa using this
          obtain ⟨hxa, hxt⟩ := hxs'
          have hxn := (g.gb.lin r hr).proc x hxm
          have hxp : x.proc ≠ p := fun e => by rw [e, hst] at hxa; cases hxa
          have hL := g.gb.lose (s := .susp r (m.til x.proc - m.clock)) hr hxm hxh (by rw [hxa]; rfl) rfl
          have hpst : (upf m.states x.proc (.susp r (m.til x.proc - m.clock))) p = .ready := by rw [upf_ne _ _ (Ne.symm hxp)]; exact hst
          have hB := hL.request (b := true) (s := .ready) (k := k) hp hr hre hrs (by rw [hpst]; rfl) (fun z => nomatch z)
          have hd : sumTo (potF (upf m.states x.proc (.susp r (m.til x.proc - m.clock))) (upf m.rests p rs) m.tau) c.n + 2 ≤ sumTo m.pot c.n := by
            refine pot_drop hp (fun q _ hq => ?_) (by rw [upf_same, hpst, hpot, hcost, potOf_ready]; omega)
            rw [upf_ne _ _ hq]
            by_cases e : q = x.proc
            · rw [e, upf_same, hxa]; exact Nat.le_refl _
            · rw [upf_ne _ _ e]; exact Nat.le_refl _
          have hlog : (m.log ++ [⟨m.clock, x.proc, .lose, [r]⟩]) ++ [⟨m.clock, p, .hold, [r]⟩] = m.log ++ [⟨m.clock, x.proc, .lose, [r]⟩, ⟨m.clock, p, .hold, [r]⟩] := by simp
          refine ⟨⟨g.ga.suspend hxa (Nat.le_sub_of_add_le (by show 1 + m.clock ≤ m.til x.proc; omega)), ?_, ?_, hn4, hnr⟩, Nat.le_of_succ_le hd⟩
          · exact hB
          · show GC c ((m.log ++ [⟨m.clock, x.proc, .lose, [r]⟩]) ++ [⟨m.clock, p, .hold, [r]⟩]) m.npass _ _
            rw [hlog]
            refine g.gc.mk' (a := 0) (evs := [⟨m.clock, x.proc, .lose, [r]⟩, ⟨m.clock, p, .hold, [r]⟩]) (fun e he => ?_) hd (Nat.le_of_succ_le (Nat.le_of_succ_le hd)) fun i _ => ?_
            · simp at he
              rcases he with he | he <;> subst he
              · exact evt1 hck hxn (le100 (by omega)) (by simp)
              · exact evH
            · show (upf (upf m.reqs r (setHold (m.reqs r) x.num false)) r ((upf m.reqs r (setHold (m.reqs r) x.num false)) r ++ [_]) i).length ≤ _
              by_cases ei : i = r
              · subst ei; rw [upf_same, upf_same, List.length_append, setHold_length]; simp
              · rw [upf_ne _ _ ei, upf_ne _ _ ei]; omega
    | give r =>
      obtain ⟨hi, hrs⟩ := hrest.tail (by intro b e; cases e)
      have hr : r < c.nr := by
        have : decide (r < c.nr) = true := hi
        exact of_decide_eq_true this
      have hw : waits (m.states p) = 0 := by rw [hst]; rfl
      have hcost : cost (m.rests p) (m.tau p) = 2 + cost rs (m.tau p) := by rw [hre, cost_cons (by intro b e; cases e)]; rfl
      have evG : EvtOk c.n ⟨m.clock, p, .give, [r]⟩ := evt1 hck hp (le100 (by omega)) (by simp)
      have hown : 0 < own (m.reqs r) p := by
        have h1 := g.gb.bal p hp r hr
        rw [hre] at h1
        simp only [runC, runI] at h1
        refine Nat.pos_of_ne_zero fun z => ?_
        rw [if_pos z] at h1; cases h1
      obtain ⟨x, hx⟩ := lastOf_some hown (idle_zero g.gb hp hw hr)
      obtain ⟨hxm, hxh, hxp⟩ := lastOf_mem hx
      have hB := g.gb.give hp hr hre hrs hxm hxh hxp
      dsimp only at h
      unfold M.give at h
      rw [show (m.setRest p rs).reqs r = m.reqs r from rfl, hx] at h
      dsimp only at h
      cases hf : leastOf ((without (m.reqs r) x.num).filter fun x => !x.holds) with
      | none =>
        rw [hf] at h
        cases h
        have hd : sumTo (potF m.states (upf m.rests p rs) m.tau) c.n + 2 ≤ sumTo m.pot c.n :=
          pot_drop hp (oth rs) (by rw [upf_same, hpot, hcost, hst, potOf_ready]; omega)
        refine ⟨⟨g.ga, hB, g.gc.mk' (a := 0) (evs := [⟨m.clock, p, .give, [r]⟩]) (fun e he => by simp at he; subst he; exact evG) (Nat.le_of_succ_le hd) (by show sumTo (potF m.states (upf m.rests p rs) m.tau) c.n + 0 ≤ _; omega) (fun i _ => ?_), hn4, hnr⟩, Nat.le_of_succ_le hd⟩
        show (upf m.reqs r (without (m.reqs r) x.num) i).length ≤ _
        by_cases ei : i = r
        · subst ei; rw [upf_same]; have := without_length_le (l := m.reqs i) x.num; omega
        · rw [upf_ne _ _ ei]; omega
      | some y =>
        rw [hf] at h
        cases h
        obtain ⟨hym, hyh⟩ := List.mem_filter.mp (leastOf_mem hf)
        have hyh : y.holds = false := by simpa using hyh
        have hym' : y ∈ m.reqs r := (List.mem_filter.mp hym).1
        have hyn := (g.gb.lin r hr).proc y hym'
        have hline : upf (upf m.reqs r (without (m.reqs r) x.num)) r (setHold (upf m.reqs r (without (m.reqs r) x.num) r) y.num true) = upf m.reqs r (setHold (without (m.reqs r) x.num) y.num true) := by
          rw [upf_same]
          funext i
          by_cases ei : i = r
          · subst ei; rw [upf_same, upf_same]
          · rw [upf_ne _ _ ei, upf_ne _ _ ei, upf_ne _ _ ei]
        have gain : ∀ s, waits s = 0 → GB c (upf m.rests p rs) (upf m.reqs r (setHold (without (m.reqs r) x.num) y.num true)) m.counts m.asked (upf m.states y.proc s) ∧ 1 ≤ waits (m.states y.proc) := fun s hs => by
          have := hB.gain (x := y) (s := s) hr (by rw [upf_same]; exact hym) hyh hs
          rw [hline] at this
          exact this
        have hlen : ∀ i, i < c.nr → (upf m.reqs r (setHold (without (m.reqs r) x.num) y.num true) i).length ≤ (m.reqs i).length + 2 := fun i _ => by
          by_cases ei : i = r
          · subst ei; rw [upf_same, setHold_length]; have := without_length_le (l := m.reqs i) x.num; omega
          · rw [upf_ne _ _ ei]; omega
        have hlog : (m.log ++ [⟨m.clock, p, .give, [r]⟩]) ++ [⟨m.clock, y.proc, .hold, [r]⟩] = m.log ++ [⟨m.clock, p, .give, [r]⟩, ⟨m.clock, y.proc, .hold, [r]⟩] := by simp
        have evs : ∀ e ∈ [(⟨m.clock, p, .give, [r]⟩ : Evt), ⟨m.clock, y.proc, .hold, [r]⟩], EvtOk c.n e := fun e he => by
          simp at he
          rcases he with he | he <;> subst he
          · exact evG
          · exact evt1 hck hyn (le100 (by omega)) (by simp)
        have hw1 := (gain .ready rfl).2
        -- the other is suspended, or it wants the resource
        unfold M.resume
        dsimp only
        rw [show (M.tell (M.setLine (M.tell (m.setRest p rs) p .give [r]) r (setHold (without (m.reqs r) x.num) y.num true)) y.proc .hold [r]).states y.proc = m.states y.proc from rfl]
        cases hy : m.states y.proc with
        | susp r' d =>
          have hyp : y.proc ≠ p := fun e => by rw [e, hst] at hy; cases hy
          have hd : sumTo (potF (upf m.states y.proc .asleep) (upf m.rests p rs) (upf m.tau y.proc (m.clock + 1))) c.n + 2 ≤ sumTo m.pot c.n := by
            refine pot_drop hp (fun q _ hq => ?_) (by rw [upf_same, upf_ne _ _ (Ne.symm hyp), upf_ne _ _ (Ne.symm hyp), hpot, hcost, hst, potOf_ready]; omega)
            rw [upf_ne _ _ hq]
            by_cases e : q = y.proc
            · rw [e, upf_same, upf_same, hy]
              exact Nat.add_le_add_right (cost_mono _ (g.ga.tau1 _)) 1
            · rw [upf_ne _ _ e, upf_ne _ _ e]; exact Nat.le_refl _
          refine ⟨⟨g.ga.resume hy hyn, (gain .asleep rfl).1, ?_, hn4, hnr⟩, Nat.le_of_succ_le hd⟩
          show GC c ((m.log ++ [⟨m.clock, p, .give, [r]⟩]) ++ [⟨m.clock, y.proc, .hold, [r]⟩]) m.npass _ _
          rw [hlog]
          exact g.gc.mk' (a := 0) (evs := [⟨m.clock, p, .give, [r]⟩, ⟨m.clock, y.proc, .hold, [r]⟩]) evs hd (Nat.le_of_succ_le (Nat.le_of_succ_le hd)) hlen
        | wants r' =>
          have hyp : y.proc ≠ p := fun e => by rw [e, hst] at hy; cases hy
          have hd : sumTo (potF (upf m.states y.proc .ready) (upf m.rests p rs) m.tau) c.n + 2 ≤ sumTo m.pot c.n := by
            refine pot_drop hp (fun q _ hq => ?_) (by rw [upf_same, upf_ne _ _ (Ne.symm hyp), hpot, hcost, hst, potOf_ready]; omega)
            rw [upf_ne _ _ hq]
            by_cases e : q = y.proc
            · rw [e, upf_same, hy]; exact Nat.le_refl _
            · rw [upf_ne _ _ e]; exact Nat.le_refl _
          refine ⟨⟨g.ga.goOn hy hyn, (gain .ready rfl).1, ?_, hn4, hnr⟩, Nat.le_of_succ_le hd⟩
          show GC c ((m.log ++ [⟨m.clock, p, .give, [r]⟩]) ++ [⟨m.clock, y.proc, .hold, [r]⟩]) m.npass _ _
          rw [hlog]
          exact g.gc.mk' (a := 0) (evs := [⟨m.clock, p, .give, [r]⟩, ⟨m.clock, y.proc, .hold, [r]⟩]) evs hd (Nat.le_of_succ_le (Nat.le_of_succ_le hd)) hlen
        | ready => rw [hy] at hw1; exact absurd hw1 (by decide)
        | asleep => rw [hy] at hw1; exact absurd hw1 (by decide)
        | fin => rw [hy] at hw1; exact absurd hw1 (by decide)
    | rouse q =>
      obtain ⟨hi, hrs⟩ := hrest.tail (by intro b e; cases e)
      have hq : q < c.n := by
        have : decide (q < c.n) = true := hi
        exact of_decide_eq_true this
      have hb : GB c (upf m.rests p rs) m.reqs m.counts m.asked m.states := g.gb.rest hrs fun r hr => by
        have h1 := g.gb.bal p hp r hr
        rw [hre] at h1
        simpa only [runC, runI, Option.bind_some] using h1
      have hd : sumTo (potF m.states (upf m.rests p rs) m.tau) c.n + 1 ≤ sumTo m.pot c.n :=
        pot_drop hp (oth rs) (by rw [upf_same, hpot, hre, hst, potOf_ready, cost_cons (by intro b e; cases e)]; simp only [wI, pwI, Nat.add_zero]; omega)
      dsimp only at h
      unfold M.rouse at h
      by_cases hs : ((m.setRest p rs).isSleeper q && decide ((m.setRest p rs).since q < (m.setRest p rs).clock)) = true
      · rw [if_pos hs] at h
        cases h
        simp only [Bool.and_eq_true] at hs
        have h1 : (m.states q == .asleep && decide (m.clock < m.til q)) = true := hs.1
        have h2 : m.since q < m.clock := of_decide_eq_true hs.2
        simp only [Bool.and_eq_true, beq_iff_eq] at h1
        exact ⟨⟨g.ga.rouse h1.1 hq h2, hb, g.gc.mk' (a := 0) (evs := [⟨m.clock, p, .rouse, [q]⟩]) (fun e he => by simp at he; subst he; exact evt1 hck hp (le100 (by omega)) (by simp)) hd (Nat.le_of_succ_le hd) (fun r _ => Nat.le_add_right _ _), hn4, hnr⟩, hd⟩
      · rw [if_neg hs] at h
        cases h
        exact ⟨⟨g.ga, hb, g.gc.keep (Nat.le_of_succ_le hd), hn4, hnr⟩, hd⟩
    | rep n b =>
      obtain ⟨hi, hrs⟩ := hrest.tail (by intro b e; cases e)
      have hi' : n ≤ 5 ∧ b ≠ [] ∧ b.all (insOk c.nr c.n 2) = true ∧ b.length ≤ 100 := by
        have : (decide (n ≤ 5) && (!b.isEmpty && decide (b.length ≤ 100)) && b.all (insOk c.nr c.n 2)) = true := hi
        simp only [Bool.and_eq_true, Bool.not_eq_true', decide_eq_true_eq] at this
        refine ⟨this.1.1, fun e => ?_, this.2, this.1.2.2⟩
        rw [e] at this; exact absurd this.1.2.1 (by decide)
      obtain ⟨hn5, hbn, hba, hbl⟩ := hi'
      have hbb : ∀ r, r < c.nr → runC r b (own (m.reqs r) p) = some (own (m.reqs r) p) ∧ runC r rs (own (m.reqs r) p) = some 0 := fun r hr => by
        have h1 := g.gb.bal p hp r hr
        rw [hre] at h1
        simp only [runC, runI] at h1
        by_cases e : runC r b (own (m.reqs r) p) = some (own (m.reqs r) p)
        · rw [if_pos e, Option.bind_some] at h1; exact ⟨e, h1⟩
        · rw [if_neg e] at h1; cases h1
      cases n with
      | zero =>
        cases h
        have hb : GB c (upf m.rests p rs) m.reqs m.counts m.asked m.states := g.gb.rest hrs fun r hr => (hbb r hr).2
        have hd : sumTo (potF m.states (upf m.rests p rs) m.tau) c.n + 1 ≤ sumTo m.pot c.n :=
          pot_drop hp (oth rs) (by rw [upf_same, hpot, hre, hst, potOf_ready, cost_cons (by intro b e; cases e)]; simp only [wI, pwI, Nat.add_zero]; omega)
        exact ⟨⟨g.ga, hb, g.gc.keep (Nat.le_of_succ_le hd), hn4, hnr⟩, hd⟩
      | succ n =>
        cases h
        have hmid : (if n = 0 then ([] : List Ins) else [.rep n b]).all (insOk c.nr c.n 3) = true := by
          split
          · rfl
          · rw [List.all_cons, List.all_nil, Bool.and_true]
            have he : b.isEmpty = false := by cases b with
              | nil => exact absurd rfl hbn
              | cons _ _ => rfl
            show (decide (n ≤ 5) && (!b.isEmpty && decide (b.length ≤ 100)) && b.all (insOk c.nr c.n 2)) = true
            rw [he, hba, decide_eq_true hbl]; simp; omega
        have hbm : b.all (insOk c.nr c.n 3) = true := all_mono (by omega) hba
        have hba2 : (b ++ if n = 0 then ([] : List Ins) else [.rep n b]).all (insOk c.nr c.n 3) = true := by
          rw [List.all_append, hbm, hmid]; rfl
        have hb : GB c (upf m.rests p (b ++ (if n = 0 then [] else [.rep n b]) ++ rs)) m.reqs m.counts m.asked m.states := g.gb.rest (RestOk.append hba2 hrs) fun r hr => by
          rw [runC_append, runC_append, (hbb r hr).1, Option.bind_some]
          have : runC r (if n = 0 then ([] : List Ins) else [.rep n b]) (own (m.reqs r) p) = some (own (m.reqs r) p) := by
            split
            · rfl
            · simp only [runC, runI]; rw [if_pos (hbb r hr).1]; rfl
          rw [this, Option.bind_some]
          exact (hbb r hr).2
        have hw : wL (b ++ if n = 0 then ([] : List Ins) else [.rep n b]) + 1 ≤ wI (.rep (n + 1) b) := by
          rw [wL_append]
          by_cases e : n = 0
          · subst e; rw [if_pos rfl]; simp only [wL, wI]; omega
          · rw [if_neg e]; simp only [wL, wI]; rw [Nat.succ_mul]; omega
        have hd : sumTo (potF m.states (upf m.rests p (b ++ (if n = 0 then [] else [.rep n b]) ++ rs)) m.tau) c.n + 1 ≤ sumTo m.pot c.n := by
          refine pot_drop hp (oth _) ?_
          rw [upf_same, hpot, hre, hst, potOf_ready, cost_append rs _ hba2, cost_cons (by intro b e; cases e)]
          have h1 := cost_mono rs (t := m.tau p) (u := m.tau p + pwL (b ++ if n = 0 then ([] : List Ins) else [.rep n b])) (by omega)
          show wL (b ++ if n = 0 then ([] : List Ins) else [.rep n b]) + cost rs _ + 1 ≤ wI (.rep (n + 1) b) + cost rs (m.tau p + 0)
          simp only [Nat.add_zero]
          omega
        exact ⟨⟨g.ga, hb, g.gc.keep (Nat.le_of_succ_le hd), hn4, hnr⟩, hd⟩
    | fev b =>
      obtain ⟨hnil, hba, hpw⟩ := hrest.fev_nil
      subst hnil
      cases h
      have hbm : b.all (insOk c.nr c.n 3) = true := all_mono (by omega) hba
      have hb : GB c (upf m.rests p (b ++ [.fev b])) m.reqs m.counts m.asked m.states := g.gb.rest (RestOk.append hbm (.fev ⟨hba, hpw⟩)) fun r hr => by
        have h1 := g.gb.bal p hp r hr
        rw [hre] at h1
        simp only [runC, runI] at h1
        by_cases e : own (m.reqs r) p = 0 ∧ runC r b 0 = some 0
        · rw [runC_append, e.1, e.2, Option.bind_some]
          simp only [runC, runI]
          rw [if_pos ⟨True.intro, e.2⟩]
          rfl
        · rw [if_neg e] at h1; cases h1
      have hd : sumTo (potF m.states (upf m.rests p (b ++ [.fev b])) m.tau) c.n + 1 ≤ sumTo m.pot c.n := by
        refine pot_drop hp (oth _) ?_
        rw [upf_same, hpot, hre, hst, potOf_ready, cost_append [.fev b] _ hbm]
        show wL b + (61 - (m.tau p + pwL b)) * (wL b + 1) + 1 ≤ (61 - m.tau p) * (wL b + 1)
        have e1 : (61 - (m.tau p + pwL b)) * (wL b + 1) ≤ (60 - m.tau p) * (wL b + 1) := Nat.mul_le_mul_right _ (by omega)
        have e2 : (61 - m.tau p) * (wL b + 1) = (60 - m.tau p) * (wL b + 1) + (wL b + 1) := by
          rw [show 61 - m.tau p = (60 - m.tau p) + 1 by omega, Nat.succ_mul]
        omega
      exact ⟨⟨g.ga, hb, g.gc.pass hd, hn4, hnr⟩, hd⟩
end Ev
namespace Ev
/-! ### the least entry -/
theorem minFold_mem : ∀ (l : List Ent) (a : Ent), l.foldl (fun a y => if entLt y a then y else a) a ∈ a :: l
  | [], a => by simp
  | y :: l, a => by
    rw [List.foldl_cons]
    have := minFold_mem l (if entLt y a then y else a)
    rcases List.mem_cons.mp this with h | h
    · rw [h]; split <;> simp
    · exact List.mem_cons_of_mem _ (List.mem_cons_of_mem _ h)
theorem minFold_le : ∀ (l : List Ent) (a : Ent), (l.foldl (fun a y => if entLt y a then y else a) a).1 ≤ a.1 ∧ ∀ y ∈ l, (l.foldl (fun a y => if entLt y a then y else a) a).1 ≤ y.1
  | [], a => ⟨Nat.le_refl _, fun _ h => nomatch h⟩
  | y :: l, a => by
    rw [List.foldl_cons]
    obtain ⟨h1, h2⟩ := minFold_le l (if entLt y a then y else a)
    have h3 : (if entLt y a then y else a).1 ≤ a.1 ∧ (if entLt y a then y else a).1 ≤ y.1 := by
      by_cases e : entLt y a = true
      · rw [if_pos e]
        have := of_decide_eq_true e
        exact ⟨by omega, Nat.le_refl _⟩
      · rw [if_neg e]
        have : ¬ (y.1 < a.1 ∨ (y.1 = a.1 ∧ _)) := fun z => e (decide_eq_true z)
        exact ⟨Nat.le_refl _, by
          have := fun z => this (.inl z)
          omega⟩
    refine ⟨Nat.le_trans h1 h3.1, fun z hz => ?_⟩
    rcases List.mem_cons.mp hz with rfl | hz
    · exact Nat.le_trans h1 h3.2
    · exact h2 z hz
theorem minEnt_mem {l : List Ent} {e : Ent} (h : minEnt l = some e) : e ∈ l ∧ ∀ y ∈ l, e.1 ≤ y.1 := by
  cases l with
  | nil => cases h
  | cons a l =>
    have h' : l.foldl (fun a y => if entLt y a then y else a) a = e := Option.some.inj h
    have h1 := minFold_mem l a
    have h2 := minFold_le l a
    rw [h'] at h1 h2
    refine ⟨h1, fun y hy => ?_⟩
    rcases List.mem_cons.mp hy with rfl | hy
    · exact h2.1
    · exact h2.2 y hy
theorem minEnt_none {l : List Ent} (h : minEnt l = none) : l = [] := by
  cases l with
  | nil => rfl
  | cons _ _ => cases h

/-! ### an entry is removed -/
theorem Good.enter {c : Cfg} {m : M} {e : Ent} (g : Good c none m) (h : minEnt m.agenda = some e) (h60 : e.1 ≤ 60) : Good c (some e.2.2) (m.enter e) ∧ sumTo (m.enter e).pot c.n ≤ sumTo m.pot c.n := by
  obtain ⟨hm, hl⟩ := minEnt_mem h
  obtain ⟨hn, ht⟩ := g.ga.agP e hm
  have hA := g.ga.enter hm hl h60
  have hq : 1 ≤ queued (m.states e.2.2) := by
    have h1 := g.ga.agC _ hn
    have h2 : 0 < ents m.agenda e.2.2 := List.countP_pos_iff.mpr ⟨e, hm, by simp⟩
    unfold allow at h1
    rw [if_neg (fun z => nomatch z)] at h1
    omega
  by_cases hs : m.states e.2.2 = .asleep
  · have em : m.enter e = ({ m with agenda := m.agenda.filter (· != e), clock := e.1 }.tell e.2.2 .wake []).setSt e.2.2 .ready := by
      unfold M.enter; dsimp only; rw [if_pos hs]
    rw [em]
    have hd : sumTo (potF (upf m.states e.2.2 .ready) m.rests m.tau) c.n + 1 ≤ sumTo m.pot c.n :=
      pot_drop hn (fun q _ hq => by rw [upf_ne _ _ hq]; exact Nat.le_refl _) (by rw [upf_same, hs]; exact Nat.le_refl _)
    exact ⟨⟨hA, g.gb.state (by rw [hs]; exact Nat.le_refl _), g.gc.mk' (a := 0) (evs := [⟨e.1, e.2.2, .wake, []⟩]) (fun x hx => by simp at hx; subst hx; exact evt1 h60 hn (fun _ z => nomatch z) (Nat.zero_le _)) hd (Nat.le_of_succ_le hd) (fun r _ => Nat.le_add_right _ _), g.nLe, g.nrLe⟩, Nat.le_of_succ_le hd⟩
  · have hr : m.states e.2.2 = .ready := by
      cases hx : m.states e.2.2 with
      | ready => rfl
      | asleep => exact absurd hx hs
      | _ => rw [hx] at hq; simp [queued] at hq
    have em : m.enter e = ({ m with agenda := m.agenda.filter (· != e), clock := e.1 } : M).setSt e.2.2 .ready := by
      unfold M.enter; dsimp only; rw [if_neg hs]
    rw [em]
    have hd : sumTo (potF (upf m.states e.2.2 .ready) m.rests m.tau) c.n + 0 ≤ sumTo m.pot c.n :=
      pot_drop hn (fun q _ hq => by rw [upf_ne _ _ hq]; exact Nat.le_refl _) (by rw [upf_same, hr]; exact Nat.le_refl _)
    exact ⟨⟨hA, g.gb.state (by rw [hr]; exact Nat.le_refl _), g.gc.keep hd, g.nLe, g.nrLe⟩, hd⟩

/-! ### every run ends -/
theorem act_ends {c : Cfg} {p : Nat} : ∀ (f : Nat) {m : M}, sumTo m.pot c.n ≤ f → Good c (some p) m → ∃ k m', Act c p k m m' ∧ Good c none m' ∧ sumTo m'.pot c.n + 1 ≤ sumTo m.pot c.n := by
  intro f
  induction f with
  | zero =>
    intro m hf g
    rcases h : m.proceed c p with ⟨m1, b⟩
    have := (g.proceed h).2
    omega
  | succ f ih =>
    intro m hf g
    rcases h : m.proceed c p with ⟨m1, b⟩
    obtain ⟨g1, h1⟩ := g.proceed h
    cases b with
    | false => exact ⟨0, m1, .stop h, g1, h1⟩
    | true =>
      obtain ⟨k, m', h2, h3, h4⟩ := ih (by omega) g1
      exact ⟨k + 1, m', .go h h2, h3, by omega⟩
theorem runs_end {c : Cfg} {h : Nat} (h60 : h ≤ 60) : ∀ (f : Nat) {m : M}, sumTo m.pot c.n ≤ f → Good c none m → ∃ k m', Runs c h k m m' ∧ Good c none m' := by
  intro f
  induction f with
  | zero =>
    intro m hf g
    cases he : minEnt m.agenda with
    | none => exact ⟨0, m, .done (fun e z => by rw [he] at z; cases z), g⟩
    | some e =>
      by_cases hh : e.1 ≤ h
      · obtain ⟨g1, h1⟩ := g.enter he (by omega)
        obtain ⟨j, m1, a1, g2, h2⟩ := act_ends _ (Nat.le_refl _) g1
        omega
      · exact ⟨0, m, .done (fun e' z => by rw [he] at z; cases z; omega), g⟩
  | succ f ih =>
    intro m hf g
    cases he : minEnt m.agenda with
    | none => exact ⟨0, m, .done (fun e z => by rw [he] at z; cases z), g⟩
    | some e =>
      by_cases hh : e.1 ≤ h
      · obtain ⟨g1, h1⟩ := g.enter he (by omega)
        obtain ⟨j, m1, a1, g2, h2⟩ := act_ends _ (Nat.le_refl _) g1
        obtain ⟨k, m', r1, g3⟩ := ih (by omega) g2
        exact ⟨k + 1, m', .step he hh a1 r1, g3⟩
      · exact ⟨0, m, .done (fun e' z => by rw [he] at z; cases z; omega), g⟩

/-- what a model of the law's is -/
structure Fit (c : Cfg) : Prop where
  n1 : 1 ≤ c.n
  nLe : c.n ≤ 4
  nr1 : 1 ≤ c.nr
  nrLe : c.nr ≤ 3
  units : ∀ x ∈ c.res, 1 ≤ x.2 ∧ x.2 ≤ 3
  rst : ∀ s ∈ c.scripts, RestOk c.nr c.n s
  bal : ∀ s ∈ c.scripts, ∀ r, r < c.nr → runC r s 0 = some 0
  cst : ∀ s ∈ c.scripts, cost s 0 ≤ 700
theorem ents_entries0 : ∀ (n p : Nat), ents (entries0 n) p = if p < n then 1 else 0
  | 0, p => rfl
  | n + 1, p => by
    rw [entries0, ents_append, ents_entries0 n p]
    by_cases h : p < n
    · rw [if_pos h, if_neg (fun z : n = p => by omega), if_pos (by omega)]
    · rw [if_neg h]
      by_cases e : n = p
      · rw [if_pos e, if_pos (by omega)]
      · rw [if_neg e, if_neg (by omega)]
theorem mem_entries0 : ∀ {n : Nat} {e : Ent}, e ∈ entries0 n → e.1 = 0 ∧ e.2.2 < n
  | n + 1, e, h => by
    rcases List.mem_append.mp h with h | h
    · have := mem_entries0 h; exact ⟨this.1, by omega⟩
    · simp at h; subst h; exact ⟨rfl, Nat.lt_succ_self n⟩
theorem sumTo_const {f : Nat → Nat} {b : Nat} : ∀ {n : Nat}, (∀ q, q < n → f q ≤ b) → sumTo f n ≤ n * b
  | 0, _ => Nat.zero_le _
  | n + 1, h => by
    have h1 := sumTo_const (f := f) (b := b) (n := n) fun q hq => h q (by omega)
    have h2 := h n (Nat.lt_succ_self n)
    rw [Nat.succ_mul]
    show sumTo f n + f n ≤ _
    omega
theorem Fit.get {c : Cfg} {p : Nat} (hp : p < c.n) : c.scripts.getD p [] ∈ c.scripts := by
  have : c.scripts.getD p [] = c.scripts[p]'hp := by rw [List.getD_eq_getElem?_getD, List.getElem?_eq_getElem (show p < c.scripts.length from hp)]; rfl
  rw [this]; exact List.getElem_mem _
theorem sumTo_zero : ∀ (n : Nat), sumTo (fun _ => 0) n = 0
  | 0 => rfl
  | n + 1 => by show sumTo (fun _ => 0) n + 0 = 0; rw [sumTo_zero n]
theorem Fit.good {c : Cfg} (f : Fit c) : Good c none (init c) := by
  have hs : sumTo (init c).pot c.n ≤ c.n * 700 := sumTo_const fun q hq => f.cst _ (Fit.get hq)
  have h3 : c.n * 700 ≤ 2800 := by have := f.nLe; omega
  refine ⟨⟨Nat.zero_le _, fun e he => Nat.zero_le _, fun e he => ⟨(mem_entries0 he).2, Nat.zero_le _⟩, fun p hp => ?_, (fun _ e => nomatch e), (fun _ _ e => nomatch e), (fun _ e => nomatch e), (fun _ _ _ e => nomatch e), fun _ => Nat.zero_le _⟩,
    ⟨fun p hp => f.rst _ (Fit.get hp), fun p hp r hr => f.bal _ (Fit.get hp) r hr, fun p _ => ?_, fun r _ => ⟨(fun _ h => nomatch h), .nil, .nil, (fun _ h => nomatch h), (fun _ h => nomatch h)⟩⟩,
    ⟨by show 0 + _ ≤ _; omega, by show 0 + _ ≤ _; omega, (fun _ h => nomatch h), fun _ _ => Nat.le_refl _⟩, f.nLe, f.nrLe⟩
  · show ents (entries0 c.n) p ≤ _
    rw [ents_entries0, if_pos hp]; exact Nat.le_refl _
  · show sumTo (fun _ => 0) c.nr ≤ _
    rw [sumTo_zero]; exact Nat.zero_le _
theorem Fit.runs {c : Cfg} (f : Fit c) {h : Nat} (h60 : h ≤ 60) : ∃ k m, Runs c h k (init c) m ∧ Good c none m := runs_end h60 _ (Nat.le_refl _) f.good
end Ev
/-! The call judgement of this proof: a promise without exceptions, positional values, with room and with no repr going on. -/
namespace Ev
open PySem PySem.Spec PyProof.Rows L2

structure Rm (k : Nat) (A : Around) : Prop where
  room : Room k A
  gd : A.guards = some []
theorem Rm.mono {j k : Nat} {A : Around} (r : Rm k A) (h : j ≤ k) : Rm j A := ⟨r.room.mono h, r.gd⟩
theorem Rm.deeper {k : Nat} {A : Around} (r : Rm (k + 1) A) (env : Env) : Rm k (A.deeper env) := ⟨r.room.deeper env, r.gd⟩
theorem Rm.in1 {k : Nat} {A : Around} (r : Rm (k + 1) A) : Rm k A.in1 := ⟨r.room.in1, r.gd⟩
theorem make_guards {A : Around} {C : Addr} {us : List Value} {kw : List (Str × Value)} : (A.under (.builtin "type.__call__" ⟨.ref C :: us, kw⟩)).guards = A.guards := by
  obtain ⟨h, d, f, g, u⟩ := A
  cases g <;> simp [Around.under, Code.guards, Code.isGuard, guardIds, pushGuards]
theorem Rm.make {k : Nat} {A : Around} (r : Rm (k + 1) A) (C : Addr) (us : List Value) (kw : List (Str × Value)) : Rm k (A.under (.builtin "type.__call__" ⟨.ref C :: us, kw⟩)) :=
  ⟨r.room.make C us kw, by rw [make_guards]; exact r.gd⟩
theorem Rm.hu {k : Nat} {A : Around} (r : Rm k A) : A.units + 64 < cLine := r.room.units
theorem Rm.hu1 {k : Nat} {A : Around} (r : Rm k A) : A.units + 1 < cLine := hu_of r.room

abbrev Sp0 := List V → Hp → VK → Prop
def Fn (P : Program) (w : World) (K : PySem.W.Frag) (mg : Str → Option Value) (base : Heap) (k : Nat) (f : Addr) (sp : Sp0) : Prop :=
  ∀ (A : Around) (outer : List Env) (s : Shared) (H : Hp) (us : List Value) (vs : List V) (Q : VK), Rm k A → Env0 P w K mg base A outer s H → Vals vs us → sp vs H Q →
    codeAny (model P w) A (.call (.ref f) ⟨us, []⟩) (CR CX0 outer P w H s Q E0) s
section
variable {P : Program} {w : World} {K : PySem.W.Frag} {mg : Str → Option Value} {base : Heap} {j k : Nat} {f : Addr} {sp sp' : Sp0}
theorem Fn.mono (F : Fn P w K mg base j f sp) (h : j ≤ k) : Fn P w K mg base k f sp := fun A outer s H us vs Q hr => F A outer s H us vs Q (hr.mono h)
theorem Fn.imp (F : Fn P w K mg base k f sp) (h : ∀ vs H Q, sp' vs H Q → sp vs H Q) : Fn P w K mg base k f sp' := fun A outer s H us vs Q hr e0 r hs => F A outer s H us vs Q hr e0 r (h _ _ _ hs)

/-- a def of the text: where it stands, and how its arguments bind -/
structure Def (K : PySem.W.Frag) (x qual : Str) (st : Stmt) (f : Addr) : Prop where
  ex : ∃ (oc : Value) (od : Option Addr) (kV doc pm : Value) (an : Option Addr) (cdv ct : Value) (osl : Array (Option Value)),
    K.lookup f = some ⟨oc, od, .func (PySem.W.fnOf x qual (defArgs st) (defBody st) (defScope st) .none kV doc pm an cdv ct), osl⟩ ∧ PySem.W.codeIn K cdv qual = true
  kp : PySem.W.keepIn K (.ref f) = true
theorem def_of {x qual : Str} {st : Stmt} {fd : FuncData} (F : FunD K x qual (defArgs st) (defBody st) (defScope st) [] [] f fd) : Def K x qual st f := by
  obtain ⟨oc, od, dV, kV, doc, pm, an, cdv, ct, osl, rfl, lk, hcd, hD, hK⟩ := F.ex
  rcases hD with ⟨_, rfl⟩ | ⟨e, _⟩
  · exact ⟨⟨oc, od, kV, doc, pm, an, cdv, ct, osl, lk, hcd⟩, F.kp⟩
  · exact absurd rfl e
/-- what a def's body is run in -/
abbrev Bd (P : Program) (w : World) (K : PySem.W.Frag) (mg : Str → Option Value) (base : Heap) (N : List Str) (qual : Str) (st : Stmt) (f : Addr) (cdv : Value) (A : Around) (outer : List Env) (s : Shared) (H : Hp) : Cx :=
  (cxOf CX0 P w K mg base N qual (defScope st) f cdv A outer s H E0).nox
/-- THE RULE for a def -/
theorem Def.fn {x qual : Str} {st : Stmt} {N ps : List Str} (F : Def K x qual st f) (S : FnScope N ps (defScope st)) (len : ∀ vs H Q, sp vs H Q → vs.length = ps.length)
    (hb : ∀ (kV doc pm : Value) (an : Option Addr) (cdv ct : Value) (us : List Value), us.length = ps.length → bindArgs (PySem.W.fnOf x qual (defArgs st) (defBody st) (defScope st) .none kV doc pm an cdv ct) ⟨us, []⟩ = pure (ps.zip us))
    (hbody : ∀ (cdv : Value) (A : Around) (outer : List Env) (s : Shared) (H : Hp) (vs : List V) (Q : VK), Rm k (Bd P w K mg base N qual st f cdv A outer s H).A → sp vs H Q →
      ∃ t, PSs (Bd P w K mg base N qual st f cdv A outer s H) (defBody st) t ∧ t { nx := fun _ H' => Q .non H', rt := Q } (start N vs) H) : Fn P w K mg base (k + 1) f sp := by
  obtain ⟨oc, od, kV, doc, pm, an, cdv, ct, osl, lk, hcd⟩ := F.ex
  intro A outer s H us vs Q hr e0 r hsp
  have hl : us.length = ps.length := by rw [← r.length]; exact len _ _ _ hsp
  refine StX.run_bnd (G := fun xs H2 => xs = vs ∧ H2 = H) lk hcd S hr.room e0 (fun A' Ex Q' h => ?_) fun s2 H2 xs ⟨ex, eH⟩ hr' => ?_
  · rw [hb kV doc pm an cdv ct us hl]
    exact wpAny_pure (h s H vs us e0 Un.refl rfl (fun _ _ z => z) r (len _ _ _ hsp) ⟨rfl, rfl⟩)
  · subst ex eH
    obtain ⟨t, h1, h2⟩ := hbody cdv A outer s2 _ _ Q ⟨hr', hr.gd⟩ hsp
    exact ⟨t, h1.nox, h2⟩
/-- def f(a, .., *v) -/
theorem Def.fnStar {x qual : Str} {st : Stmt} {N ps : List Str} {pv : Str} (F : Def K x qual st f) (S : FnScope N (ps ++ [pv]) (defScope st))
    (hb : ∀ (kV doc pm : Value) (an : Option Addr) (cdv ct : Value) (us rest : List Value), us.length = ps.length → bindArgs (PySem.W.fnOf x qual (defArgs st) (defBody st) (defScope st) .none kV doc pm an cdv ct) ⟨us ++ rest, []⟩ = (newTuple rest >>= fun t => pure (ps.zip us ++ [(pv, t)])))
    (hbody : ∀ (cdv : Value) (A : Around) (outer : List Env) (s : Shared) (H : Hp) (vs : List V) (Q : VK), Rm k (Bd P w K mg base N qual st f cdv A outer s H).A → sp vs H Q →
      ∃ t, PSs (Bd P w K mg base N qual st f cdv A outer s H) (defBody st) t ∧ t { nx := fun _ H' => Q .non H', rt := Q } (start N vs) H) :
    Fn P w K mg base (k + 1) f (fun vs H Q => ∃ ws rest, vs = ws ++ rest ∧ ws.length = ps.length ∧ rest.length ≤ sizeLine ∧ ∀ p, H p = Option.none → sp (ws ++ [V.ref p]) (upd H p (.tup rest)) Q) := by
  obtain ⟨oc, od, kV, doc, pm, an, cdv, ct, osl, lk, hcd⟩ := F.ex
  intro A outer s H us vs Q hr e0 r hsp
  obtain ⟨ws, rest, ev, hl, hz, hq⟩ := hsp
  subst ev
  obtain ⟨u1, u2, eu, r1, r2⟩ := StX.vals_split r
  subst eu
  have hn : H s.heap.objs.size = Option.none := e0.hok.fresh (Nat.le_refl _)
  have hl1 : u1.length = ps.length := by rw [← r1.length]; exact hl
  have hl2 : u2.length ≤ sizeLine := by rw [← r2.length]; exact hz
  refine StX.run_bnd (G := fun xs H2 => ∃ p, H p = Option.none ∧ xs = ws ++ [V.ref p] ∧ H2 = upd H p (.tup rest)) lk hcd S hr.room e0 (fun A' Ex Q' h => ?_) fun s2 H2 xs ⟨p, hp, ex, eH⟩ hr' => ?_
  · rw [hb kV doc pm an cdv ct u1 u2 hl1]
    refine wpAny_bind (wpAny_newTuple (wpAny_pure ?_) hl2)
    have new : ObjOk P w (upd H s.heap.objs.size (.tup rest)) (s.heap.push ({ cls := .type "tuple", data := .seq u2.toArray } : Obj)) s.heap.objs.size (.tup rest) := ⟨hz, u2, r2, ⟨_, Heap.get?_push_size _ rfl, rfl, _, rfl⟩⟩
    have z := h _ _ (ws ++ [V.ref s.heap.objs.size]) (u1 ++ [Value.ref s.heap.objs.size]) (StX.env0_laid e0 new) (StX.un_laid hn) rfl (fun _ _ z => z) (r1.append (.cons rfl .nil))
      (by simp only [List.length_append, List.length_singleton]; omega) ⟨_, hn, rfl, rfl⟩
    rw [List.zip_append hl1.symm] at z
    exact z
  · subst ex eH
    obtain ⟨t, h1, h2⟩ := hbody cdv A outer s2 _ _ Q ⟨hr', hr.gd⟩ (hq p hp)
    exact ⟨t, h1.nox, h2⟩
end

section
variable {X : Cx} {k : Nat} {f g C : Addr} {sp : Sp0} {x m : Str} {p pos apos : Pos} {e o : Expr} {es : List Expr} {te ta : TE} {t : TA}
/-- the callee runs -/
theorem run_Fn {pins : List (Addr × Obj)} {σ : L2.St} {H : Hp} {s : Shared} {Q : VK} {us : List Value} {vs : List V} (F : Fn X.prog X.w X.K X.mg X.base k f sp) (hr : Rm k X.A) (I : Inv X pins σ H s) (r : Vals vs us) (h : sp vs H Q) :
    codeAny (model X.prog X.w) X.A (.call (.ref f) ⟨us, []⟩) (fun r s' => match r with | .ok (.ret v) => EP X pins σ Q v s' | .ok _ => False | .error e => X.xe e s') s := by
  refine codeAny_mono (F X.A X.stack s H us vs Q hr I.env0 r h) fun r s' hq => ?_
  cases r with
  | error e => exact False.elim hq
  | ok fl =>
    cases fl with
    | ret u => exact I.after hq
    | next => exact False.elim hq
    | brk => exact False.elim hq
    | cont => exact False.elim hq
def tF (sp : Sp0) (t : TA) : TE := fun σ H Q => t σ H fun vs H1 => sp vs H1 Q
/-- f(e, ..) -/
theorem pe_f (F : Fn X.prog X.w X.K X.mg X.base k f sp) (hr : Rm k X.A) (hg : Gl X x) (hm : X.mg x = some (.ref f)) (hk : PySem.W.keepIn X.K (.ref f) = true) (ha : PA X (e :: es) t) (hd : (x == ("__debug__" : Str)) = false := by decide)
    (he : starEach (e :: es) X.env = (false, eval e X.env) :: starEach es X.env := by rfl) (hpl : (backTo pos (starEach es X.env)).any (·.1) = false := by rfl) : PE X (.Call (.Name x p) (e :: es) [] pos) (tF sp t) := by
  refine ⟨fun pins s σ H Q I h => ?_⟩
  refine wpAny_Call_Name_kw (ld_glob I hg hm ?_ hd)
  refine PySem.W.callWith_K (h₀ := X.base) I.ok.mod.kin hk (thn (ha.run pos pins s σ H _ I h) fun us s1 ⟨vs, H1, I1, r, q⟩ => ⟨I1.kIn, ?_⟩) he hpl
  exact wpAny_call (run_Fn F hr I1 r q)
/-- o.m(e, ..), o an instance of one of the classes Pc -/
def tM (Pc : Addr → Prop) (m : Str) (sp : Sp0) (ta : TE) (t : TA) : TE := fun σ H Q => ta σ H fun x H1 => ∃ a C dx fs, x = .ref a ∧ H1 a = some (.ins C dx fs) ∧ Pc C ∧ fs.lookup m = none ∧ t σ H1 fun vs H2 => sp (.ref a :: vs) H2 Q
theorem pe_m {Pc : Addr → Prop} {pl : Sem Bool} (he : PE X o ta) (hc : ∀ C, Pc C → Cls X.K C ∧ Meth X.K C m g) (F : Fn X.prog X.w X.K X.mg X.base k g sp) (hr : Rm k X.A) (hkp : PySem.W.keepIn X.K (.ref g) = true) (ha : PA X (e :: es) t)
    (hst : starEach (e :: es) X.env = (false, eval e X.env) :: starEach es X.env := by rfl) (hpl : (backTo pos (starEach es X.env)).any (·.1) = false := by rfl)
    (ht : eval (.Call (.Attribute o m apos) (e :: es) [] pos) X.env = (do
      let ov ← eval o X.env
      standAt apos.atName
      let (f, first) ← holding [ov] (getMethod ov m pl)
      callWith pos f first (backTo pos (starEach (e :: es) X.env)) (backToKw pos (keywordEach [] X.env))) := by rfl) :
    PE X (.Call (.Attribute o m apos) (e :: es) [] pos) (tM Pc m sp ta t) := by
  refine ⟨fun pins s σ H Q I h => ?_⟩
  refine PySem.W.methodCall_KW (pl := pl) (thn (he.run pins s σ H _ I h) fun u s1 ⟨x, H1, I1, rx, a, C, dx, fs, ex, ea, pc, l, q⟩ => ?_) ht
  subst ex
  obtain rfl : u = Value.ref a := rx
  refine getmeth_ok I1 ea (hc C pc).1 (hc C pc).2 l ?_
  refine PySem.W.callWith_K (first := [.ref a]) (h₀ := X.base) I.ok.mod.kin hkp (thn (ha.run pos pins s1 σ H1 _ I1 q) fun us s2 ⟨vs, H2, I2, r, q2⟩ => ⟨I2.kIn, ?_⟩) hst hpl
  exact wpAny_call (run_Fn (us := .ref a :: us) (vs := .ref a :: vs) F hr I2 (.cons rfl r) q2)
theorem pe_m0 {Pc : Addr → Prop} {pl : Sem Bool} (he : PE X o ta) (hc : ∀ C, Pc C → Cls X.K C ∧ Meth X.K C m g) (F : Fn X.prog X.w X.K X.mg X.base k g sp) (hr : Rm k X.A) (hkp : PySem.W.keepIn X.K (.ref g) = true)
    (ht : eval (.Call (.Attribute o m apos) [] [] pos) X.env = (do
      let ov ← eval o X.env
      standAt apos.atName
      let (f, first) ← holding [ov] (getMethod ov m pl)
      callWith pos f first (backTo pos (starEach [] X.env)) (backToKw pos (keywordEach [] X.env))) := by rfl) :
    PE X (.Call (.Attribute o m apos) [] [] pos) (tM Pc m sp ta tNil) := by
  refine ⟨fun pins s σ H Q I h => ?_⟩
  refine PySem.W.methodCall_KW (pl := pl) (thn (he.run pins s σ H _ I h) fun u s1 ⟨x, H1, I1, rx, a, C, dx, fs, ex, ea, pc, l, q⟩ => ?_) ht
  subst ex
  obtain rfl : u = Value.ref a := rx
  refine getmeth_ok I1 ea (hc C pc).1 (hc C pc).2 l ?_
  exact PySem.W.callWith_K0 (first := [.ref a]) I1.kIn hkp (wpAny_call (run_Fn (us := [.ref a]) (vs := [.ref a]) F hr I1 (.cons rfl .nil) q))
/-- o.m(e, *y) -/
def tMs (Pc : Addr → Prop) (K : PySem.W.Frag) (m : Str) (g : Addr) (sp : Sp0) (ta t1 t2 : TE) : TE := fun σ H Q => ta σ H fun x H1 => ∃ a C dx fs, x = .ref a ∧ H1 a = some (.ins C dx fs) ∧ Pc C ∧ fs.lookup m = none ∧
  ∀ q, H1 q = none → t1 σ (upd H1 q (.met g a)) fun y1 H2 => t2 σ H2 fun y2 H3 => ∃ b vs, y2 = .ref b ∧ (SqT K H3 b vs ∨ SqL K H3 b vs) ∧ H3 q = some (.met g a) ∧ sp (.ref a :: y1 :: vs) H3 Q
theorem pe_ms {Pc : Addr → Prop} {e1 e2 : Expr} {t1 t2 : TE} {sp_ : Pos} (he : PE X o ta) (hc : ∀ C, Pc C → Cls X.K C ∧ BMeth X.K C m g) (hfi : PySem.W.fnIn X.K g = true) (F : Fn X.prog X.w X.K X.mg X.base k g sp) (hr : Rm k X.A)
    (h1 : PE X e1 t1) (h2 : PE X e2 t2) (hbase : attributeBase o m X.env (eval o X.env) = eval o X.env := by rfl)
    (hst : starEach [e1, .Starred e2 sp_] X.env = [(false, eval e1 X.env), (true, eval e2 X.env)] := by rfl) : PE X (.Call (.Attribute o m apos) [e1, .Starred e2 sp_] [] pos) (tMs Pc X.K m g sp ta t1 t2) := by
  refine ⟨fun pins s σ H Q I h => ?_⟩
  refine starcall2_of hbase hst (thn (he.run pins s σ H _ I h) fun u s1 ⟨x, H1, I1, rx, a, C, dx, fs, ex, ea, pc, l, q⟩ => ?_)
  subst ex
  obtain rfl : u = Value.ref a := rx
  refine getbound_ok I1 ea (hc C pc).1 (hc C pc).2 l fun q1 s2 hq1 I2 => ?_
  refine PySem.W.ks_call (P := PySem.W.MethP X.K q1 g (.ref a)) rfl (PySem.W.keeps_M hfi) (Calls.evalArgs_plain (Calls.spliced_cons (thn (h1.run pins s2 σ _ _ I2 (q q1 hq1)) fun v1 s3 ⟨y1, H2, I3, ry1, q2⟩ =>
    PySem.W.ks_spliced (thn (h2.run pins s3 σ H2 _ I3 q2) fun v2 s4 ⟨y2, H3, I4, ry2, t, vs, ey, ht, hm, hsp⟩ => ?_))))
  subst ey
  obtain rfl : v2 = Value.ref t := ry2
  refine StX.star_any I4 ht fun us s5 I5 rv => Calls.spliced_nil ?_
  show PySem.W.MethP X.K q1 g (.ref a) s5.heap ∧ wpAny (model X.prog X.w) X.A (call (.ref q1) (v1 :: (us ++ [])) []) (EP X pins σ Q) X.xe s5
  rw [List.append_nil]
  exact ⟨met_P I5 hm, wpAny_call (PySem.W.method_call (met_P I5 hm).1 (run_Fn (us := Value.ref a :: v1 :: us) (vs := V.ref a :: y1 :: vs) F hr I5 (.cons rfl (.cons ry1 rv)) hsp))⟩
/-- C(e, ..) -/
def tMk (C : Addr) (sp : Sp0) (t : TA) : TE := fun σ H Q => t σ H fun vs H1 => ∀ x dx, H1 x = none → H1 dx = none → dx ≠ x → sp (.ref x :: vs) (upd (upd H1 dx (.own x)) x (.ins C dx [])) (fun v H2 => v = .non ∧ Q (.ref x) H2)
theorem pe_mk (M : Mk X.K C f) (F : Fn X.prog X.w X.K X.mg X.base k f sp) (hr : Rm (k + 1) X.A) (hg : Gl X x) (hm : X.mg x = some (.ref C)) (ha : PA X (e :: es) t) (hdb : (x == ("__debug__" : Str)) = false := by decide)
    (he : starEach (e :: es) X.env = (false, eval e X.env) :: starEach es X.env := by rfl) (hpl : (backTo pos (starEach es X.env)).any (·.1) = false := by rfl) : PE X (.Call (.Name x p) (e :: es) [] pos) (tMk C sp t) := by
  refine ⟨fun pins s σ H Q I h => ?_⟩
  refine wpAny_Call_Name_kw (ld_glob I hg hm ?_ hdb)
  refine PySem.W.callWith_K (h₀ := X.base) I.ok.mod.kin M.kp (thn (ha.run pos pins s σ H _ I h) fun us s1 ⟨vs, H1, I1, r, q⟩ => ⟨I1.kIn, ?_⟩) he hpl
  have hq := q (s1.heap.objs.size + 1) s1.heap.objs.size (I1.hok.fresh (Nat.le_succ _)) (I1.hok.fresh (Nat.le_refl _)) (Nat.ne_of_lt (Nat.lt_succ_self _))
  have I2 := Inv.made (C := C) I1
  have r2 : Vals (V.ref (s1.heap.objs.size + 1) :: vs) (Value.ref (s1.heap.objs.size + 1) :: us) := .cons rfl r
  refine wpAny_call (make_map (f := f) I1.kIn M.makes M.init (beq_iff_eq.mp M.fn) (codeAny_mono (F _ X.stack _ _ _ _ _ (hr.make C us []) (I2.env0.make C us []) r2 hq) fun r s' hq' => ?_))
  cases r with
  | error e => exact False.elim hq'
  | ok fl =>
    cases fl with
    | ret u =>
      obtain ⟨v, H', I3, rv, ev, q3⟩ := I2.after hq'
      subst ev
      exact ⟨rv, ⟨V.ref (s1.heap.objs.size + 1), H', I3, rfl, q3⟩⟩
    | next => exact False.elim hq'
    | brk => exact False.elim hq'
    | cont => exact False.elim hq'
/-- e.f, a property -/
def tPr (Pc : Addr → Prop) (sp : Sp0) (ta : TE) : TE := fun σ H Q => ta σ H fun x H1 => ∃ a C dx fs, x = .ref a ∧ H1 a = some (.ins C dx fs) ∧ Pc C ∧ sp [.ref a] H1 Q
theorem pe_pr {Pc : Addr → Prop} {pp : Addr} (he : PE X e te) (hc : ∀ C, Pc C → Cls X.K C ∧ PropOf X.K C m pp g) (F : Fn X.prog X.w X.K X.mg X.base k g sp) (hr : Rm (k + 1) X.A)
    (hab : attributeBase e m X.env (eval e X.env) = eval e X.env) : PE X (.Attribute e m pos) (tPr Pc sp te) := by
  refine ⟨fun pins s σ H Q I h => ?_⟩
  refine attr_of hab (thn (he.run pins s σ H _ I h) fun u s1 ⟨x, H1, I1, rx, a, C, dx, fs, ex, ea, pc, q⟩ => ?_)
  subst ex
  obtain rfl : u = Value.ref a := rx
  obtain ⟨c, hp⟩ := hc C pc
  obtain ⟨mA, O, _, _, _, _⟩ := ins_get I1.hok ea
  obtain ⟨od, J, _⟩ := O.look
  obtain ⟨rest, hrec⟩ := hp.rec_
  have I2 := I1.tok (s1.toks + 1)
  have hcl : (PySem.W.clsIn X.K C).isSome = true := by
    obtain ⟨cd, hcd, _⟩ := PySem.W.any_some c.hd
    rw [hcd]
    rfl
  refine PySem.W.get_bind I1.kIn J (PySem.W.plainGet_of (c.get m)).1 (PySem.W.findObj_data hcl hp.at_ hp.get hp.tak) (PySem.W.plainGet_of (c.get m)).2 (wpAny_call (PySem.W.prop_get (s := { s1 with toks := s1.toks + 1 }) I1.kIn hrec ?_))
  refine codeAny_mono (F X.A.in1 X.stack { s1 with toks := s1.toks + 1 } H1 [.ref a] [.ref a] Q hr.in1 I2.env0.in1 (.cons rfl .nil) q) fun r s' hq => ?_
  cases r with
  | error er => exact False.elim hq
  | ok fl =>
    cases fl with
    | ret u =>
      obtain ⟨v, H', I3, rv, q3⟩ := I2.after hq
      show wpAny _ _ (handedOut u) _ _ _
      rw [PySem.W.handedOut_of (handed_of rv)]
      exact wpAny_pure ⟨v, H', I3, rv, q3⟩
    | next => exact False.elim hq
    | brk => exact False.elim hq
    | cont => exact False.elim hq
end
end Ev
/-! Rules that the layer lacks: min of entries, repr of data, match of a text, word, *rest = tuple, o.f among a tuple's targets. -/
namespace Ev
open PySem PySem.Spec PyProof.Rows L2

/-! ### entries -/
def entD (e : Ent) : PyData := .tuple [.int e.1, .int e.2.1, .int e.2.2]
theorem entD_inj {a b : Ent} (h : entD a = entD b) : a = b := by
  obtain ⟨x, y, z⟩ := a
  obtain ⟨x', y', z'⟩ := b
  simp only [entD, PyData.tuple.injEq, List.cons.injEq, PyData.int.injEq, and_true] at h
  obtain ⟨h1, h2, h3⟩ := h
  have e1 : x = x' := by omega
  have e2 : y = y' := by omega
  have e3 : z = z' := by omega
  rw [e1, e2, e3]
theorem entD_alike (a b : Ent) : PySem.W.alike (entD a) (entD b) = true := by
  simp only [entD, PySem.W.alike, PySem.W.alikeAll, Bool.and_self]
theorem entD_lt (a b : Ent) : PySem.W.dataLt (entD a) (entD b) = entLt a b := by
  obtain ⟨x, y, z⟩ := a
  obtain ⟨x', y', z'⟩ := b
  have h := PySem.W.dataLt_ints [x, y, z] [x', y', z']
  unfold entD
  rw [PySem.W.dataLt_tuple]
  refine h.trans ?_
  unfold entLt
  refine decide_eq_decide.mpr ?_
  simp only [List.cons_lt_cons_iff, List.not_lt_nil, and_false, or_false]
  omega
theorem minD_entD (e : Ent) : ∀ l : List Ent, PySem.W.minD (entD e) (l.map entD) = entD (l.foldl (fun a y => if entLt y a then y else a) e) := fun l => by
  unfold PySem.W.minD
  induction l generalizing e with
  | nil => rfl
  | cons y l ih =>
    rw [List.map_cons, List.foldl_cons, List.foldl_cons, ← ih]
    rw [entD_lt]
    cases entLt y e <;> rfl

/-! ### lists of data -/
theorem dpa_length {K : PySem.W.Frag} {H : Hp} : ∀ {vs : List V} {ds : List PyData}, DpAll K H vs ds → vs.length = ds.length
  | _, _, .nil => rfl
  | _, _, .cons _ t => by rw [List.length_cons, List.length_cons, dpa_length t]
theorem dpa_get {K : PySem.W.Frag} {H : Hp} : ∀ {vs : List V} {ds : List PyData} {i : Nat} {d : PyData}, DpAll K H vs ds → ds[i]? = some d → ∃ v, vs[i]? = some v ∧ Dp K H v d
  | _, _, i, _, .nil, e => by simp at e
  | _, _, 0, _, .cons h _, e => by simp at e; subst e; exact ⟨_, rfl, h⟩
  | _, _, i + 1, _, .cons _ t, e => by
    obtain ⟨v, h1, h2⟩ := dpa_get (i := i) t (by simpa using e)
    exact ⟨v, by simpa using h1, h2⟩
theorem dpa_at {K : PySem.W.Frag} {H : Hp} : ∀ {vs : List V} {ds : List PyData} {i : Nat} {v : V}, DpAll K H vs ds → vs[i]? = some v → ∃ d, ds[i]? = some d ∧ Dp K H v d
  | _, _, i, _, .nil, e => by simp at e
  | _, _, 0, _, .cons h _, e => by simp at e; subst e; exact ⟨_, rfl, h⟩
  | _, _, i + 1, _, .cons _ t, e => by
    obtain ⟨d, h1, h2⟩ := dpa_at (i := i) t (by simpa using e)
    exact ⟨d, by simpa using h1, h2⟩
theorem dpa_append {K : PySem.W.Frag} {H : Hp} : ∀ {vs ws : List V} {ds es : List PyData}, DpAll K H vs ds → DpAll K H ws es → DpAll K H (vs ++ ws) (ds ++ es)
  | _, _, _, _, .nil, t => t
  | _, _, _, _, .cons h r, t => .cons h (dpa_append r t)

section
variable {X : Cx}
/-- min of a list of entries: the item itself -/
theorem cr_minE (hc : X.calm = true) (hu : X.A.units + 64 < cLine) : CallR X (.builtin "min") (fun vs H Q => ∃ (a : Addr) (xs : List V) (e : Ent) (l : List Ent), vs = [.ref a] ∧ SqL X.K H a xs ∧ DpAll X.K H xs ((e :: l).map entD) ∧
    ∀ (i : Nat) v, xs[i]? = some v → minEnt (e :: l) = (e :: l)[i]? → Q v H) := by
  intro pins s σ H vs us Q I r h
  obtain ⟨a, xs, e, l, rfl, hs, hd, q⟩ := h
  obtain ⟨its, rv, hl, _⟩ := I.list hs
  obtain ⟨u, rfl, ru⟩ := vals1 r
  cases ru
  obtain ⟨as, hr⟩ := Dp.readsAll I ((e :: l).map entD) xs its hd rv
  have hal : PySem.W.AlikeAll (entD e :: l.map entD) := by
    constructor
    · intro x hx y hy
      rw [← List.map_cons] at hx hy
      obtain ⟨b, _, rfl⟩ := List.mem_map.mp hx
      obtain ⟨b', _, rfl⟩ := List.mem_map.mp hy
      exact entD_alike b b'
    · intro x hx
      rw [← List.map_cons] at hx
      obtain ⟨b, _, rfl⟩ := List.mem_map.mp hx
      intro z; cases z
  have hdep : ∀ l : List Ent, PyData.depthAll (l.map entD) ≤ 1 := by
    intro l
    induction l with
    | nil => simp [PyData.depthAll]
    | cons y l ih =>
      rw [List.map_cons]
      simp only [PyData.depthAll, entD, PyData.depth] at ih ⊢
      omega
  refine PySem.W.min_list_data (I.ok.hd hc) hl.isList (by simpa using hr) hal (by have := hdep (e :: l); rw [List.map_cons] at this; omega) fun i v h' tk bs hi hm hk => ?_
  have hi' : its[i]? = some v := by simpa using hi
  have hlt : i < xs.length := by rw [rv.length]; exact (List.getElem?_eq_some_iff.mp hi').1
  obtain ⟨v', e1, r1⟩ := rv.get (i := i) (x := xs[i]) (by simp [hlt])
  rw [hi'] at e1
  cases e1
  obtain ⟨d, hd1, hd2⟩ := dpa_at hd (i := i) (v := xs[i]) (by simp [hlt])
  have I' := I.kept (t' := tk) hk
  obtain ⟨as', hr'⟩ := Dp.reads I d xs[i] v hd2 r1
  have hr2 := PyProof.Rows.Reads.keeps hk hr'
  rw [minD_entD] at hm
  rw [List.getElem?_map] at hd1
  cases hx : (e :: l)[i]? with
  | none => rw [hx] at hd1; cases hd1
  | some y =>
    rw [hx] at hd1
    have hd3 : entD y = d := Option.some.inj hd1
    subst hd3
    have hu := PySem.W.alike_unique _ _ _ _ _ (entD_alike _ _) hm hr2
    refine ⟨xs[i], H, I', r1, q i _ (by simp [hlt]) ?_⟩
    rw [hx]
    exact congrArg some (entD_inj hu)

/-- repr of data -/
theorem cr_repr (hg : X.A.guards = some []) (hu : X.A.units + 64 < cLine) : CallR X (.builtin "repr") (fun vs H Q => ∃ (a : Addr) (d : PyData), vs = [.ref a] ∧ Dp X.K H (.ref a) d ∧ d.showable = true ∧ d.hasDict = false ∧ d.shown.length ≤ sizeLine ∧ d.depth ≤ 32 ∧ Q (.str d.shown) H) := by
  intro pins s σ H vs us Q I r h
  obtain ⟨a, d, rfl, hd, h1, h2, h3, h4, q⟩ := h
  obtain ⟨u, rfl, ru⟩ := vals1 r
  obtain ⟨as, hr⟩ := Dp.reads I d (.ref a) u hd ru
  cases ru
  refine repr_of_reads' hr h1 (fun z => by rw [h2] at z; exact absurd z (by decide)) hg (by omega) (fun _ _ e => e) (fun h' u tk hk => ?_) h3
  exact ⟨.str d.shown, H, I.kept (t' := tk) hk, ⟨u, rfl⟩, q⟩

/-! ### match of a text -/
abbrev TMs := Str → TS
structure PMs (X : Cx) (cs : List MatchCase) (t : TMs) : Prop where
  run : ∀ (first : Bool) (z : Str) (u : Value) (pins : List (Addr × Obj)) (s : Shared) (σ : L2.St) (H : Hp) (D : Ends), Inv X pins σ H s → RelV (.str z) u → t z D σ H → wpAny (model X.prog X.w) X.A (matchCases cs X.env u first) (SP X pins D) X.xe s
theorem pms_nil : PMs X [] (fun _ D σ H => D.nx σ H) := ⟨fun _ _ _ _ _ σ H _ I _ h => wpAny_matchCases_nil ⟨σ, H, I, h⟩⟩
theorem pms_val {c : Str} {k : Nat} {cp pp : Pos} {body : List Stmt} {rest : List MatchCase} {tb : TS} {tr : TMs} (hb : PSs X body tb) (hr : PMs X rest tr) :
    PMs X (⟨.MatchValue (.Constant (.str c) k cp) pp, none, body⟩ :: rest) (fun z D σ H => if z = c then tb D σ H else tr z D σ H) := by
  refine ⟨fun first z u pins s σ H D I r h => ?_⟩
  obtain ⟨t, rfl⟩ := r
  refine wpAny_matchCases_cons (wpAny_matchPattern_Value (Calls.Constant_str ?_))
  refine eq_str ?_
  refine wpAny_truthy_bool ?_
  by_cases e : z = c
  · have e' : (z == c) = true := beq_iff_eq.mpr e
    rw [e', if_pos rfl]
    rw [if_pos e] at h
    exact wpAny_assignInOrder_none (hb.run pins _ σ H D (I.tok _) h)
  · have e' : (z == c) = false := beq_eq_false_iff_ne.mpr e
    rw [e', if_neg Bool.false_ne_true]
    rw [if_neg e] at h
    exact hr.run false z _ pins _ σ H D (I.tok _) ⟨t, rfl⟩ h
theorem pms_any {pp : Pos} {body : List Stmt} {rest : List MatchCase} {tb : TS} (hb : PSs X body tb) : PMs X (⟨.MatchAs none none pp, none, body⟩ :: rest) (fun _ D σ H => tb D σ H) := by
  refine ⟨fun first z u pins s σ H D I r h => ?_⟩
  refine wpAny_matchCases_cons (wpAny_matchPattern_Capture ?_)
  exact wpAny_assignInOrder_none (hb.run pins _ σ H D I h)
theorem ps_match {e : Expr} {cs : List MatchCase} {pos : Pos} {te : TE} {t : TMs} (he : PE X e te) (hc : PMs X cs t) : PS X (.Match e cs pos) (fun D σ H => te σ H fun x H1 => ∃ z, x = .str z ∧ t z D σ H1) := by
  refine ⟨fun pins s σ H D I h => ?_⟩
  refine wpAny_Match (thn (he.run pins s σ H _ I h) fun v s1 ⟨x, H1, I1, r1, z, ex, q⟩ => ?_)
  subst ex
  exact hc.run true z v pins s1 σ H1 D I1 r1 q

/-! ### word, *rest = a tuple -/
theorem star_tuple {prog : Program} {w : World} {A : Around} {E : Value → Shared → Prop} {s : Shared} {t : Addr} {x : Value} {r : List Value} {Q : List Value → Shared → Prop} (hh : A.handled = none) (ht : IsTup s.heap t (x :: r).toArray) (hz : r.length + 1 ≤ sizeLine)
    (hQ : ∀ (h' : Heap) (tk : Nat), (∀ b o, s.heap.get? b = some o → h'.get? b = some o) → Q [x, .ref h'.objs.size] { s with heap := h'.push (seqObj "list" r.toArray 0), toks := tk }) :
    wpAny (model prog w) A (unpackItems (.ref t) 2 (some 1)) Q E s := by
  have ht0 := ht
  obtain ⟨o, ho, _⟩ := ht0
  have hne : t ≠ s.heap.objs.size := Nat.ne_of_lt (Heap.lt_size ho)
  have hsize : (x :: r).toArray.size = r.length + 1 := by simp
  unfold unpackItems
  refine wpAny_bind ?_
  unfold notIterableAtAll
  refine wpAny_bind (wpAny_specialOf ht.typeIs slot_tuple_iter.lookup (wpAny_pure ?_))
  simp only [Bool.false_eq_true, if_false]
  refine wpAny_bind (wpAny_holding (iter_tuple ht ?_))
  refine wpAny_bind (wpAny_holding (draw_tuple hne 1 0 _ _ ⟨_, Heap.get?_push_size _ rfl, rfl, rfl⟩ (ht.push _) (by rw [hsize]; omega) fun h1 it1 sb => ?_))
  have ht1 : IsTup h1 t (x :: r).toArray := (ht.push _).extBut sb.extBut hne
  have it2 := it1
  obtain ⟨oi, hoi, _⟩ := it2
  have ht2 := ht1
  obtain ⟨ot, hot, _⟩ := ht2
  have e1 : (List.drop 0 (x :: r).toArray.toList).take 1 = [x] := by simp
  rw [e1]
  rw [if_neg (by simp)]
  refine wpAny_bind (wpAny_holding (PySem.W.kun_collect (s := { s with heap := h1 }) (T := "tuple_iterator") (.inr (.inr (.inr rfl))) (Walks.tuple (A := A.in1) hh s.heap.objs.size t hne (x :: r).toArray) (fun _ _ st => st.1.typeIs) (k := 1) (by rw [hsize]; omega) ⟨it1, ht1⟩ (Heap.lt_size hoi) (Heap.lt_size hot)
    (fun h2 tk hk => ?_) (by rw [hsize]; exact hz)))
  have e2 : List.drop 1 (x :: r).toArray.toList = r := by simp
  rw [e2]
  have keep : ∀ b o, s.heap.get? b = some o → h2.get? b = some o := fun b o e => hk b o (Nat.ne_of_lt (Heap.lt_size e)) (sb.extBut b o (Nat.ne_of_lt (Heap.lt_size e)) (Heap.get?_push_of_some _ e))
  show wpAny _ _ (if r.length < 2 - 1 - 1 then _ else _) _ _ _
  rw [if_neg (by omega)]
  show wpAny _ _ (newList (r.take (r.length - (2 - 1 - 1))) >>= fun d => pure ([x] ++ [d] ++ r.drop (r.length - (2 - 1 - 1)))) _ _ _
  rw [show r.length - (2 - 1 - 1) = r.length by omega, List.take_length, List.drop_length]
  exact wpAny_bind (wpAny_newList (wpAny_pure (hQ h2 tk keep)) (by omega))
def gStar (K : PySem.W.Frag) (t : TGs) : TG := fun v σ H Q => ∃ a x xs, v = .ref a ∧ SqT K H a (x :: xs) ∧ ∀ p, H p = none → t [x, .ref p] σ (upd H p (.lst xs)) Q
theorem pg_star {e1 e2 : Expr} {k : Nat} {pos sp : Pos} {t : TGs} (hc : X.calm = true) (h : PGs X [e1, .Starred e2 sp] t) (hn : (assignEach [e1, .Starred e2 sp] X.env).length = 2 := by rfl)
    (hst : (assignEach [e1, .Starred e2 sp] X.env).findIdx? (·.1) = some 1 := by rfl) : PG X (.Tuple [e1, .Starred e2 sp] k pos) (gStar X.K t) := by
  refine ⟨fun pins s σ H v u Q I r hw => ?_⟩
  obtain ⟨a, x, xs, e1, hq, hw⟩ := hw
  subst e1
  cases r
  obtain ⟨its, rv, ht, hz⟩ := I.tuple hq
  cases rv with
  | cons r1 r2 =>
    rename_i u0 us
    rw [assign_Tuple]
    refine wpAny_bind (wpAny_standAt ?_)
    unfold unpack
    rw [hn, hst]
    have hz' : us.length + 1 ≤ sizeLine := by rw [← r2.length]; simpa using hz
    refine wpAny_bind (wpAny_holding (star_tuple (I.ok.hd hc) ht hz' fun h' tk hk => ?_))
    have I1 := I.kept (t' := tk) hk
    have hf : H h'.objs.size = none := I1.hok.fresh (Nat.le_refl _)
    have I2 := I1.laid (a := h'.objs.size) (o := .lst xs) (h' := h'.push (seqObj "list" us.toArray 0)) (t' := tk) (fun b u q => Heap.get?_push_of_some _ q) (Nat.le_refl _)
      ⟨by have := hz; simp at this; omega, us, 0, r2, Heap.get?_push_size _ rfl⟩
    exact h.run pins _ σ _ [x, V.ref h'.objs.size] _ Q I2 (.cons r1 (.cons rfl .nil)) (hw _ hf)
/-- *e among targets -/
theorem pgs_star {e : Expr} {sp : Pos} {t : TG} (h : PG X e t) : PGs X [.Starred e sp] (gCons t gNil) := by
  refine ⟨fun pins s σ H vs us Q I r hw => ?_⟩
  obtain ⟨v, rest, e1, hw⟩ := hw
  subst e1
  cases r with
  | cons r1 r2 =>
    refine assignInOrder_cons (thn (h.run pins s σ H v _ _ I r1 hw) fun _ s1 ⟨σ1, H1, I1, q⟩ => ?_)
    obtain ⟨e2, q⟩ := q
    subst e2
    cases r2
    exact assignInOrder_nil ⟨σ1, H1, I1, q⟩

/-! ### o.f as a target -/
def gFld (K : PySem.W.Frag) (ta : TE) (f : Str) : TG := fun v σ H Q => ta σ H fun x H1 => ∃ a C dx fs, x = .ref a ∧ H1 a = some (.ins C dx fs) ∧ Cls K C ∧ NoAttr K C f ∧ fs.length < 1000 ∧ Q σ (upd H1 a (.ins C dx (putF f v fs)))
theorem pg_fld {o : Expr} {f : Str} {pos : Pos} {ta : TE} (ho : PE X o ta) : PG X (.Attribute o f pos) (gFld X.K ta f) := by
  refine ⟨fun pins s σ H v u Q I r hw => ?_⟩
  show wpAny _ _ (do
    let ov ← holding [u] (eval o X.env)
    standAt pos.atName
    holding [u, ov] (setAttr ov f u)
    release [u, ov] []) _ _ _
  refine wpAny_bind (wpAny_holding (thn (ho.run pins s σ H _ I hw) fun ov s1 ⟨x, H1, I1, rx, a, C, dx, fs, ex, ea, c, n, l, q⟩ => ?_))
  subst ex
  obtain rfl : ov = Value.ref a := rx
  refine wpAny_bind (wpAny_standAt (wpAny_bind (wpAny_holding (setattr_ok I1 ea c n l r fun s2 I2 => ?_))))
  exact wpAny_release ⟨σ, _, I2, q⟩
end
end Ev
/-! Rules: a list against [], list.remove of an object that stands in the list. -/
namespace Ev
open PySem PySem.Spec PyProof.Rows L2 PySem.MeetsSeq

section
variable {X : Cx}
theorem rc_empty {A : Around} {s : Shared} {l b : Addr} {its : Array Value} (hl : s.heap.IsList l its) (hb : s.heap.IsList b #[]) (hu : A.units < cLine) : SeqAt.RcAt A s (.ref l) (.ref b) its.isEmpty := by
  by_cases h : its.size = 0
  · have e : its = #[] := Array.eq_empty_of_size_eq_zero h
    subst e
    have := SeqAt.RcAt.lists (e := fun _ => true) hl hb rfl hu fun j h1 => absurd h1 (by simp)
    simpa using this
  · have e : its.isEmpty = false := by rw [Array.isEmpty_eq_false_iff]; intro z; subst z; exact h rfl
    rw [e]
    exact SeqAt.RcAt.lists_lengths hl hb (by simpa using h) hu
theorem rcNe_empty {A : Around} {s : Shared} {l b : Addr} {its : Array Value} (hl : s.heap.IsList l its) (hb : s.heap.IsList b #[]) (hu : A.units < cLine) : SeqAt.RcNeAt A s (.ref l) (.ref b) (!its.isEmpty) := by
  by_cases h : its.size = 0
  · have e : its = #[] := Array.eq_empty_of_size_eq_zero h
    subst e
    have := SeqAt.RcNeAt.lists (e := fun _ => true) hl hb rfl hu fun j h1 => absurd h1 (by simp)
    simpa using this
  · have e : its.isEmpty = false := by rw [Array.isEmpty_eq_false_iff]; intro z; subst z; exact h rfl
    rw [e]
    exact SeqAt.RcNeAt.lists_lengths hl hb (by simpa using h) hu
/-- a list == [] -/
theorem op_eqE (hu : X.A.units + 64 < cLine) : OpR X (compareOp .Eq) (fun x y H Q => ∃ a b xs, x = .ref a ∧ y = .ref b ∧ SqL X.K H a xs ∧ SqL X.K H b [] ∧ Q (.bl xs.isEmpty) H) := by
  intro pins s σ H x y v u Q I rx ry h
  obtain ⟨a, b, xs, rfl, rfl, ha, hb, q⟩ := h
  cases rx
  cases ry
  obtain ⟨its, rv, hl, _⟩ := I.list ha
  obtain ⟨its2, rv2, hl2, _⟩ := I.list hb
  cases rv2
  have e : its.toArray.isEmpty = xs.isEmpty := by cases rv <;> rfl
  refine rc_empty hl.isList (by simpa using hl2.isList) (by omega) X.prog X.w _ _ ?_
  rw [e]
  exact ⟨.bl _, H, I, rfl, q⟩
/-- a list != [] -/
theorem op_neE (hu : X.A.units + 64 < cLine) : OpR X (compareOp .NotEq) (fun x y H Q => ∃ a b xs, x = .ref a ∧ y = .ref b ∧ SqL X.K H a xs ∧ SqL X.K H b [] ∧ Q (.bl (!xs.isEmpty)) H) := by
  intro pins s σ H x y v u Q I rx ry h
  obtain ⟨a, b, xs, rfl, rfl, ha, hb, q⟩ := h
  cases rx
  cases ry
  obtain ⟨its, rv, hl, _⟩ := I.list ha
  obtain ⟨its2, rv2, hl2, _⟩ := I.list hb
  cases rv2
  have e : its.toArray.isEmpty = xs.isEmpty := by cases rv <;> rfl
  refine rcNe_empty hl.isList (by simpa using hl2.isList) (by omega) X.prog X.w _ _ ?_
  rw [e]
  exact ⟨.bl _, H, I, rfl, q⟩

/-! ### list.remove -/
theorem remove_loopAt (l : Addr) (items : Array Value) (n : Nat) (x : Value) (e : Nat → Bool) (j : Nat) (hj : j < items.size) (hit : e j = true) (hz : items.size ≤ sizeLine) :
    ∀ (k i : Nat), j - i = k → i ≤ j → (∀ m, m < items.size → i ≤ m → m < j → e m = false) → Meets (Builtin.«list.remove.loop» ⟨[.ref l, x, rawInt i], []⟩)
      (fun A R s => s.heap.get? l = some { cls := .type "list", dict := none, data := .seq items n, slots := #[] } ∧ (∀ (m : Nat) (h : m < items.size), m ≤ j → SeqAt.EqAt A.in1 s items[m] x (e m)) ∧
        R (.ok (.ret .none)) { s with heap := s.heap.update l (Obj.mapSeq fun xs => xs.eraseIdxIfInBounds j) }) := by
  intro k
  induction k with
  | zero =>
    intro i hk hij hno prog w A R s h
    obtain ⟨hp, g, d, tk, os⟩ := s
    obtain ⟨hl, he, h⟩ := h
    obtain rfl : i = j := by omega
    have hi : items[((i : Nat) : Int).toNat]? = some items[i] := by simp [hj]
    have hz' : (items.eraseIdxIfInBounds i).size ≤ sizeLine + 1 := Nat.le_trans (size_erased items _) (Nat.le_succ_of_le hz)
    wp_walk using wpAny_loadPart' hl
    rw [hi]
    refine wpAny_bind (he i hj (Nat.le_refl _) prog w _ _ ?_)
    rw [hit]
    wp_walk using (wpAny_updateSeq hl rfl (hz := hz) (_hz' := hz')), wpAny_loadPart' hl
    simpa using h
  | succ k ih =>
    intro i hk hij hno prog w A R s h
    obtain ⟨hp, g, d, tk, os⟩ := s
    obtain ⟨hl, he, h⟩ := h
    have hlt : i < items.size := by omega
    have hi : items[((i : Nat) : Int).toNat]? = some items[i] := by simp [hlt]
    have hc : ((i : Int) + 1) = ((i + 1 : Nat) : Int) := by push_cast; rfl
    wp_walk using wpAny_loadPart' hl
    rw [hi]
    refine wpAny_bind (he i hlt (by omega) prog w _ _ ?_)
    rw [hno i hlt (Nat.le_refl _) (by omega)]
    wp_walk
    rw [hc]
    exact ⟨plainId_quiet plain_remove_loop _, codeAny_builtin entry_remove_loop (by
      rw [Around.under_plainId plain_remove_loop _]
      exact ih (i + 1) (by omega) (by omega) (fun m hm h1 h2 => hno m hm (by omega) h2) prog w A R _ ⟨hl, he, h⟩)⟩
theorem list_removeAt (l : Addr) (items : Array Value) (n : Nat) (x : Value) (e : Nat → Bool) (j : Nat) (hj : j < items.size) (hit : e j = true) (hno : ∀ m, m < j → e m = false) (hz : items.size ≤ sizeLine) :
    Meets (Builtin.«list.remove» ⟨[.ref l, x], []⟩)
      (fun A R s => s.heap.get? l = some { cls := .type "list", dict := none, data := .seq items n, slots := #[] } ∧ (∀ (m : Nat) (h : m < items.size), m ≤ j → SeqAt.EqAt A.in1 s items[m] x (e m)) ∧
        R (.ok (.ret .none)) { s with heap := s.heap.update l (Obj.mapSeq fun xs => xs.eraseIdxIfInBounds j) }) := by
  intro prog w A R s h
  obtain ⟨hp, g, d, tk, os⟩ := s
  obtain ⟨hl, he, h⟩ := h
  wp_walk using wpAny_loadPart' hl
  exact ⟨plainId_quiet plain_remove_loop _, codeAny_builtin entry_remove_loop (by
    rw [Around.under_plainId plain_remove_loop _]
    exact remove_loopAt l items n x e j hj hit hz _ 0 rfl (Nat.zero_le _) (fun m _ _ h2 => hno m h2) prog w A R _ ⟨hl, he, h⟩)⟩
/-- xs.remove(y): y stands at j, what stands ahead of it is other data -/
theorem mt_removeD (hu : X.A.units + 64 < cLine) : MtM X "list.remove" (fun x xs H Q => ∃ (l : Addr) (ys : List V) (y : Addr) (j : Nat) (ds : List PyData), x = .ref l ∧ xs = [.ref y] ∧ H l = some (.lst ys) ∧ ys[j]? = some (.ref y) ∧ DpAll X.K H ys ds ∧
    (∀ d ∈ ds, d.depth ≤ 8) ∧ (∀ (m : Nat) d e, m < j → ds[m]? = some d → ds[j]? = some e → PySem.W.alike d e = true ∧ PyData.eqv d e = false) ∧ Q .non (upd H l (.lst (ys.eraseIdx j)))) := by
  intro pins s σ H x xs v us Q I rx rxs h
  obtain ⟨l, ys, y, j, ds, rfl, rfl, hH, hj, hds, hdep, hno, q⟩ := h
  cases rx
  obtain ⟨u, rfl, ru⟩ := vals1 rxs
  obtain ⟨z, its, n, r, hlen, e⟩ := I.lstM hH
  have hjl : j < its.length := by rw [← hlen]; exact (List.getElem?_eq_some_iff.mp hj).1
  obtain ⟨d, hdj, hd⟩ := dpa_at hds hj
  obtain ⟨as, rd⟩ := Dp.reads I d (.ref y) u hd ru
  refine call_meets PySem.F.slot_list_remove ⟨_, e, rfl⟩ PySem.F.entry_list_remove (PySem.F.args_list_remove_2 _ _)
    (list_removeAt l its.toArray n u (fun m => decide (m = j)) j (by simpa using hjl) (by simp) (fun m hm => by simp; omega) (by rw [List.size_toArray, ← hlen]; exact z)) ⟨e, fun m hm hmj => ?_, ?_⟩
  · have hm' : m < its.length := by simpa using hm
    have em : its.toArray[m] = its[m] := by simp
    rw [em]
    obtain ⟨d', hd1⟩ : ∃ d', ds[m]? = some d' := ⟨_, List.getElem?_eq_getElem (by rw [← dpa_length hds, hlen]; exact hm')⟩
    obtain ⟨y', hy1, hy2⟩ := dpa_get hds hd1
    obtain ⟨u', hu1, hu2⟩ := r.get hy1
    have eu : u' = its[m] := by rw [List.getElem?_eq_getElem hm'] at hu1; exact (Option.some.inj hu1).symm
    rw [eu] at hu2
    by_cases hmj2 : m = j
    · subst hmj2
      rw [decide_eq_true rfl]
      obtain ⟨u2, h1, h2⟩ := r.get hj
      have ey : y' = .ref y := by rw [hj] at hy1; exact (Option.some.inj hy1).symm
      rw [ey] at hu2
      have e1 : its[m] = Value.ref y := hu2
      have e2 : u = Value.ref y := ru
      rw [e1, e2]
      exact SeqAt.EqAt.same _
    · rw [decide_eq_false hmj2]
      obtain ⟨h1, h2⟩ := hno m d' d (by omega) hd1 hdj
      obtain ⟨as', rd'⟩ := Dp.reads I d' y' its[m] hy2 hu2
      have := PySem.W.eqAt_alike d' d X.A.in1 s its[m] u as' as rd' rd h1 (by
        have := hdep d' (List.mem_of_getElem? hd1)
        show X.A.units + 1 + _ < _
        omega)
      rw [h2] at this
      exact this
  · have rr := r.eraseIdx j
    refine ⟨.non, _, I.lset (its' := its.eraseIdx j) (t' := s.toks) hH e ?_ rr ?_, rfl, q⟩
    · show its.toArray.eraseIdxIfInBounds j = (its.eraseIdx j).toArray
      rw [List.eraseIdxIfInBounds_toArray]
    · exact Nat.le_trans (List.length_eraseIdx_le ..) z
end
end Ev
/-! Rules: globals, a written dict's get, comprehensions over frames. -/
namespace Ev
open PySem PySem.Spec PyProof.Rows L2

theorem same_upd {H : Hp} {p : Addr} {o : HO} (h : H p = none) : Same H (upd H p o) := fun b x e => by rw [upd_ne (ne_of_none e h)]; exact e
theorem same_T {K : PySem.W.Frag} {H H' : Hp} {a : Addr} {xs : List V} (e : Same H H') (h : SqT K H a xs) : SqT K H' a xs := by
  rcases h with (h | ⟨o, h⟩) | h
  · exact .inl (.inl (e _ _ h))
  · exact .inl (.inr ⟨o, e _ _ h⟩)
  · exact .inr h
mutual
theorem dp_same {K : PySem.W.Frag} {H H' : Hp} (e : Same H H') : ∀ {d : PyData} {v : V}, Dp K H v d → Dp K H' v d
  | _, _, .non => .non
  | _, _, .bl b => .bl b
  | _, _, .int i => .int i
  | _, _, .str x => .str x
  | _, _, .lst h r => .lst (e.seq h) (dpa_same e r)
  | _, _, .tup h r => .tup (same_T e h) (dpa_same e r)
theorem dpa_same {K : PySem.W.Frag} {H H' : Hp} (e : Same H H') : ∀ {ds : List PyData} {vs : List V}, DpAll K H vs ds → DpAll K H' vs ds
  | _, _, .nil => .nil
  | _, _, .cons h r => .cons (dp_same e h) (dpa_same e r)
end
theorem dp_tupI {K : PySem.W.Frag} {H : Hp} {v : V} {ds : List PyData} (h : Dp K H v (.tuple ds)) : ∃ a xs, v = .ref a ∧ SqT K H a xs ∧ DpAll K H xs ds := by
  cases h with
  | tup h r => exact ⟨_, _, rfl, h, r⟩
theorem dp_intI {K : PySem.W.Frag} {H : Hp} {v : V} {i : Int} (h : Dp K H v (.int i)) : v = .int i := by cases h; rfl
theorem dp_strI {K : PySem.W.Frag} {H : Hp} {v : V} {x : Str} (h : Dp K H v (.str x)) : v = .str x := by cases h; rfl
theorem dpa_consI {K : PySem.W.Frag} {H : Hp} {vs : List V} {d : PyData} {ds : List PyData} (h : DpAll K H vs (d :: ds)) : ∃ v r, vs = v :: r ∧ Dp K H v d ∧ DpAll K H r ds := by
  cases h with
  | cons h r => exact ⟨_, _, rfl, h, r⟩
theorem dpa_nilI {K : PySem.W.Frag} {H : Hp} {vs : List V} (h : DpAll K H vs []) : vs = [] := by cases h; rfl

section
variable {X : Cx} {pos : Pos}
theorem pe_gl {x : Str} {v : V} (hg : Gl X x) (h : ∃ u, X.mg x = some u ∧ RelV v u) (hd : (x == ("__debug__" : Str)) = false := by decide) : PE X (.Name x pos) (tC v) :=
  ⟨fun pins s σ H Q I hq => by obtain ⟨u, hm, r⟩ := h; exact (pe_glob hg hm r hd).run pins s σ H Q I hq⟩
theorem pe_never {e : Expr} : PE X e (fun _ _ _ => False) := ⟨fun _ _ _ _ _ _ h => h.elim⟩
theorem pt_never {e : Expr} : PT X e (fun _ _ _ => False) := ⟨fun _ _ _ _ _ _ h => h.elim⟩
/-- a written dict's get with a default -/
theorem pe_kget2 {d : Addr} {es : Array DictEntry} {n : Nat} {o e f : Expr} {apos cpos : Pos} {td ty tx : TE} (D : KDict X.K X.w d es n) (ho : PE X o td) (he : PE X e ty) (hf : PE X f tx) (m : M2 X o "get" apos e f cpos) :
    PE X (.Call (.Attribute o "get" apos) [e, f] [] cpos) (fun σ H Q => td σ H fun x H1 => x = .ref d ∧ ty σ H1 fun y H2 => tx σ H2 fun z H3 => ∃ (k : Str) (r : Option Value), y = .str k ∧ PySem.W.nsIn X.K d k = some r ∧ (∀ v u, r = some u → RelV v u → Q v H3) ∧ (r = none → Q z H3) ∧ (∀ u, r = some u → ∃ v, RelV v u)) := by
  refine ⟨fun pins s σ H Q I h => ?_⟩
  refine wpAny_Call_method m.base m.few m.line PySem.F.plainAttrs_dict PySem.F.slot_dict_get PySem.F.type_dict_get (thn (ho.run pins s σ H _ I h) fun u s1 ⟨x, H1, I1, rx, ex, q1⟩ => ?_)
  subst ex
  obtain rfl : u = Value.ref d := rx
  refine ⟨kd_type D I1, fun b eb => by cases eb; exact ⟨_, I1.kIn _ _ D.at_, rfl⟩, ?_⟩
  rw [m.trees]
  refine Calls.callWith_builtin rfl (Calls.evalArgs_plain (Calls.spliced_cons (thn (he.run pins s1 σ H1 _ I1 q1) fun iv s2 ⟨y, H2, I2, ry, q2⟩ =>
    Calls.spliced_cons (thn (hf.run pins s2 σ H2 _ I2 q2) fun fv s3 ⟨z, H3, I3, rz, k, r, ey, hk, hy, hn, hv⟩ => Calls.spliced_nil ?_))))
  subst ey
  obtain ⟨t, rfl⟩ := ry
  have hm := PySem.W.mapOf_K (prog := X.prog) (w := X.w) I3.kIn D.at_ D.lit
  refine call_meetsIn PySem.F.slot_dict_get hm.typeIs PySem.F.entry_dict_get (PySem.F.args_dict_get_3 _ _ _) (meets_dict_get_default (PySem.strKind X.prog X.w) d (PySem.strKind_is X.prog X.w k t) D.low fv) ⟨_, hm, ?_⟩
  rw [PySem.W.find_K D.at_ hk]
  cases r with
  | none => exact ⟨z, H3, I3.tok _, rz, hn rfl⟩
  | some u =>
    obtain ⟨v, rv⟩ := hv u rfl
    exact ⟨v, H3, I3.tok _, rv, hy v u rfl rv⟩
end

/-! ### comprehensions -/
theorem lc_same {J : It} {n : Nat} {G : Hp → Prop} {Yl : Nat → Hp → V → Hp → Prop} (w : Walk J n G Yl) {g : TG} {tt : TT} {te : TE} {vs : List Nat} {σ : L2.St} {H1 : Hp} {D : Addr} {Qd : Hp → Prop} (nD : H1 D = none)
    (acc : Nat → List V) (h0 : acc 0 = []) (hz : ∀ i, i < n → (acc i).length < sizeLine) (hG : ∀ H, Same H1 H → G H) (hY : ∀ i H x H', i < n → Yl i H x H' → Same H H')
    (hs : ∀ i x H H', i < n → Same H1 H → Yl i H x H' → ∀ (Y : VK) (N : Hp → Prop), (∀ y H2, acc (i + 1) = acc i ++ [y] → Same H' H2 → Y y H2) → (∀ H2, acc (i + 1) = acc i → Same H' H2 → N H2) →
      g x (wipe σ vs) H' fun σ2 H2 => wipe σ2 vs = wipe σ vs ∧ tt σ2 H2 fun b H3 => if b = true then te σ2 H3 Y else N H3)
    (hd : ∀ H, Same H1 H → H D = some (.lst (acc n)) → Qd H) :
    ∃ W : Nat → Nat → Hp → Prop, (∃ m, W 0 m (upd H1 D (.lst []))) ∧ ∀ i m H, W i m H →
      (J.stop i H ∧ Qd H) ∨ (J.go i H ∧ ∃ Nx : Hp → Prop, (∀ H', Nx H' → ∃ m', m' < m ∧ W (i + 1) m' H') ∧ ∀ x H', J.yld i H x H' → g x (wipe σ vs) H' fun σ2 H2 => wipe σ2 vs = wipe σ vs ∧ tt σ2 H2 fun b H3 =>
        if b = true then te σ2 H3 fun y H4 => ∃ acc, H4 D = some (.lst acc) ∧ acc.length < sizeLine ∧ Nx (upd H4 D (.lst (acc ++ [y]))) else Nx H3) := by
  refine lc_it w (fun i H => Same H1 H ∧ H D = some (.lst (acc i))) ⟨same_upd nD, by rw [h0]; exact upd_same⟩ (fun i H _ h => hG H h.1) ?_ (fun H h => hd H h.1 h.2)
  rintro i x H H' hi ⟨hS, hD⟩ hy
  have sH := hY i H x H' hi hy
  refine hs i x H H' hi hS hy _ _ (fun y H2 e s2 => ?_) (fun H2 e s2 => ?_)
  · refine ⟨acc i, s2 _ _ (sH _ _ hD), hz i hi, ?_, by rw [e]; exact upd_same⟩
    intro b o q
    rw [upd_ne (ne_of_none q nD)]
    exact s2 _ _ (sH _ _ (hS _ _ q))
  · exact ⟨hS.trans (sH.trans s2), by rw [e]; exact s2 _ _ (sH _ _ hD)⟩
section
variable {α : Type} {K : PySem.W.Frag} {a D : Addr} {g : TG} {tt : TT} {te : TE} {vs : List Nat} {σ : L2.St} {H1 : Hp} {Qd : Hp → Prop}
theorem take_fm {l : List α} {i : Nat} (hi : i < l.length) (keep : α → Bool) (f : α → V) : ((l.take (i + 1)).filter keep).map f = ((l.take i).filter keep).map f ++ (if keep l[i] = true then [f l[i]] else []) := by
  rw [List.take_succ_eq_append_getElem hi, List.filter_append, List.map_append]
  congr 1
  simp only [List.filter_cons, List.filter_nil]
  split <;> rfl
theorem fm_len {l : List α} {i : Nat} (hi : i < l.length) (keep : α → Bool) (f : α → V) : (((l.take i).filter keep).map f).length < l.length := by
  rw [List.length_map]
  refine Nat.lt_of_le_of_lt (List.length_filter_le ..) ?_
  rw [List.length_take]; omega
/-- [f z for z in a list if keep z] -/
theorem lc_L {l : List α} {h : α → V} (keep : α → Bool) (f : α → V) (nD : H1 D = none) (hl : SqL K H1 a (l.map h)) (hz : l.length ≤ sizeLine)
    (hs : ∀ z ∈ l, ∀ H, Same H1 H → ∀ (Y : VK) (N : Hp → Prop), (keep z = true → ∀ H2, Same H H2 → Y (f z) H2) → (keep z = false → ∀ H2, Same H H2 → N H2) →
      g (h z) (wipe σ vs) H fun σ2 H2 => wipe σ2 vs = wipe σ vs ∧ tt σ2 H2 fun b H3 => if b = true then te σ2 H3 Y else N H3)
    (hd : ∀ H, Same H1 H → H D = some (.lst ((l.filter keep).map f)) → Qd H) :
    ∃ W : Nat → Nat → Hp → Prop, (∃ m, W 0 m (upd H1 D (.lst []))) ∧ ∀ i m H, W i m H →
      ((Itl K a).stop i H ∧ Qd H) ∨ ((Itl K a).go i H ∧ ∃ Nx : Hp → Prop, (∀ H', Nx H' → ∃ m', m' < m ∧ W (i + 1) m' H') ∧ ∀ x H', (Itl K a).yld i H x H' → g x (wipe σ vs) H' fun σ2 H2 => wipe σ2 vs = wipe σ vs ∧ tt σ2 H2 fun b H3 =>
        if b = true then te σ2 H3 fun y H4 => ∃ acc, H4 D = some (.lst acc) ∧ acc.length < sizeLine ∧ Nx (upd H4 D (.lst (acc ++ [y]))) else Nx H3) := by
  refine lc_same (walk_list (xs := l.map h)) nD (fun i => ((l.take i).filter keep).map f) rfl (fun i hi => ?_) (fun H s => s.seq hl) (fun i H x H' _ y => by rw [y.1]; exact Same.refl _) ?_ (fun H s e => hd H s ?_)
  · rw [List.length_map] at hi; have := fm_len hi keep f; omega
  · rintro i x H H' hi hS ⟨rfl, hx⟩ Y N hY hN
    rw [List.length_map] at hi
    have ex : x = h l[i] := by
      rw [List.getElem?_map, List.getElem?_eq_getElem hi] at hx
      exact (Option.some.inj hx).symm
    subst ex
    have e := take_fm hi keep f
    refine hs l[i] (List.getElem_mem hi) _ hS Y N (fun hk H2 s2 => hY _ H2 ?_ s2) fun hk H2 s2 => hN H2 ?_ s2
    · rw [if_pos hk] at e; exact e
    · rw [if_neg (by rw [hk]; decide), List.append_nil] at e; exact e
  · simpa using e
/-- .. over a tuple -/
theorem lc_T {l : List α} {h : α → V} (keep : α → Bool) (f : α → V) (nD : H1 D = none) (hl : SqT K H1 a (l.map h)) (hz : l.length ≤ sizeLine)
    (hs : ∀ z ∈ l, ∀ H, Same H1 H → ∀ (Y : VK) (N : Hp → Prop), (keep z = true → ∀ H2, Same H H2 → Y (f z) H2) → (keep z = false → ∀ H2, Same H H2 → N H2) →
      g (h z) (wipe σ vs) H fun σ2 H2 => wipe σ2 vs = wipe σ vs ∧ tt σ2 H2 fun b H3 => if b = true then te σ2 H3 Y else N H3)
    (hd : ∀ H, Same H1 H → H D = some (.lst ((l.filter keep).map f)) → Qd H) :
    ∃ W : Nat → Nat → Hp → Prop, (∃ m, W 0 m (upd H1 D (.lst []))) ∧ ∀ i m H, W i m H →
      ((Itt K a).stop i H ∧ Qd H) ∨ ((Itt K a).go i H ∧ ∃ Nx : Hp → Prop, (∀ H', Nx H' → ∃ m', m' < m ∧ W (i + 1) m' H') ∧ ∀ x H', (Itt K a).yld i H x H' → g x (wipe σ vs) H' fun σ2 H2 => wipe σ2 vs = wipe σ vs ∧ tt σ2 H2 fun b H3 =>
        if b = true then te σ2 H3 fun y H4 => ∃ acc, H4 D = some (.lst acc) ∧ acc.length < sizeLine ∧ Nx (upd H4 D (.lst (acc ++ [y]))) else Nx H3) := by
  refine lc_same (walk_tup (xs := l.map h)) nD (fun i => ((l.take i).filter keep).map f) rfl (fun i hi => ?_) (fun H s => same_T s hl) (fun i H x H' _ y => by rw [y.1]; exact Same.refl _) ?_ (fun H s e => hd H s ?_)
  · rw [List.length_map] at hi; have := fm_len hi keep f; omega
  · rintro i x H H' hi hS ⟨rfl, hx⟩ Y N hY hN
    rw [List.length_map] at hi
    have ex : x = h l[i] := by
      rw [List.getElem?_map, List.getElem?_eq_getElem hi] at hx
      exact (Option.some.inj hx).symm
    subst ex
    have e := take_fm hi keep f
    refine hs l[i] (List.getElem_mem hi) _ hS Y N (fun hk H2 s2 => hY _ H2 ?_ s2) fun hk H2 s2 => hN H2 ?_ s2
    · rw [if_pos hk] at e; exact e
    · rw [if_neg (by rw [hk]; decide), List.append_nil] at e; exact e
  · simpa using e
/-- .. over enumerate(a list): the pair is new -/
theorem lc_E {n : Nat} {h : Nat → V} (keep : Nat → Bool) (f : Nat → V) (nD : H1 D = none) (hl : SqL K H1 a ((List.range n).map h)) (hz : n ≤ sizeLine)
    (hs : ∀ i, i < n → ∀ H, Same H1 H → ∀ p, H p = none → ∀ (Y : VK) (N : Hp → Prop), (keep i = true → ∀ H2, Same (upd H p (.tup [.int i, h i])) H2 → Y (f i) H2) → (keep i = false → ∀ H2, Same (upd H p (.tup [.int i, h i])) H2 → N H2) →
      g (.ref p) (wipe σ vs) (upd H p (.tup [.int i, h i])) fun σ2 H2 => wipe σ2 vs = wipe σ vs ∧ tt σ2 H2 fun b H3 => if b = true then te σ2 H3 Y else N H3)
    (hd : ∀ H, Same H1 H → H D = some (.lst (((List.range n).filter keep).map f)) → Qd H) :
    ∃ W : Nat → Nat → Hp → Prop, (∃ m, W 0 m (upd H1 D (.lst []))) ∧ ∀ i m H, W i m H →
      ((Ite K a).stop i H ∧ Qd H) ∨ ((Ite K a).go i H ∧ ∃ Nx : Hp → Prop, (∀ H', Nx H' → ∃ m', m' < m ∧ W (i + 1) m' H') ∧ ∀ x H', (Ite K a).yld i H x H' → g x (wipe σ vs) H' fun σ2 H2 => wipe σ2 vs = wipe σ vs ∧ tt σ2 H2 fun b H3 =>
        if b = true then te σ2 H3 fun y H4 => ∃ acc, H4 D = some (.lst acc) ∧ acc.length < sizeLine ∧ Nx (upd H4 D (.lst (acc ++ [y]))) else Nx H3) := by
  have hlen : ((List.range n).map h).length = n := by simp
  refine lc_same (walk_enum (xs := (List.range n).map h)) nD (fun i => (((List.range n).take i).filter keep).map f) rfl (fun i hi => ?_) (fun H s => s.seq hl) (fun i H x H' _ y => ?_) ?_ (fun H s e => hd H s ?_)
  · rw [hlen] at hi; have := fm_len (l := List.range n) (by simpa using hi) keep f; rw [List.length_range] at this; omega
  · obtain ⟨T, _, _, _, hT, e, _⟩ := y
    rw [e]; exact same_upd hT
  · rintro i x H H' hi hS ⟨T, x1, x2, rfl, hT, rfl, e1, e2⟩ Y N hY hN
    rw [hlen] at hi
    have hi' : i < (List.range n).length := by simpa using hi
    have ex : x2 = h i := by
      have e2 : ((List.range n).map h)[i]? = some x2 := e2
      rw [List.getElem?_map, List.getElem?_eq_getElem hi'] at e2
      simpa using (Option.some.inj e2).symm
    have ex1 : x1 = .int i := (Option.some.inj e1).symm
    subst ex ex1
    have e := take_fm hi' keep f
    have eg : (List.range n)[i] = i := by simp
    rw [eg] at e
    refine hs i hi _ hS _ hT Y N (fun hk H2 s2 => hY _ H2 ?_ s2) fun hk H2 s2 => hN H2 ?_ s2
    · rw [if_pos hk] at e; exact e
    · rw [if_neg (by rw [hk]; decide), List.append_nil] at e; exact e
  · simpa using e
/-- .. over range(lo, lo + n) -/
theorem lc_R {n : Nat} {lo : Int} (keep : Nat → Bool) (f : Nat → V) (nD : H1 D = none) (hz : n ≤ sizeLine)
    (hs : ∀ i, i < n → ∀ H, Same H1 H → ∀ (Y : VK) (N : Hp → Prop), (keep i = true → ∀ H2, Same H H2 → Y (f i) H2) → (keep i = false → ∀ H2, Same H H2 → N H2) →
      g (.int (lo + i)) (wipe σ vs) H fun σ2 H2 => wipe σ2 vs = wipe σ vs ∧ tt σ2 H2 fun b H3 => if b = true then te σ2 H3 Y else N H3)
    (hd : ∀ H, Same H1 H → H D = some (.lst (((List.range n).filter keep).map f)) → Qd H) :
    ∃ W : Nat → Nat → Hp → Prop, (∃ m, W 0 m (upd H1 D (.lst []))) ∧ ∀ i m H, W i m H →
      ((Itr lo n).stop i H ∧ Qd H) ∨ ((Itr lo n).go i H ∧ ∃ Nx : Hp → Prop, (∀ H', Nx H' → ∃ m', m' < m ∧ W (i + 1) m' H') ∧ ∀ x H', (Itr lo n).yld i H x H' → g x (wipe σ vs) H' fun σ2 H2 => wipe σ2 vs = wipe σ vs ∧ tt σ2 H2 fun b H3 =>
        if b = true then te σ2 H3 fun y H4 => ∃ acc, H4 D = some (.lst acc) ∧ acc.length < sizeLine ∧ Nx (upd H4 D (.lst (acc ++ [y]))) else Nx H3) := by
  refine lc_same (walk_range (lo := lo) (n := n)) nD (fun i => (((List.range n).take i).filter keep).map f) rfl (fun i hi => ?_) (fun H s => trivial) (fun i H x H' _ y => by rw [y.1]; exact Same.refl _) ?_ (fun H s e => hd H s ?_)
  · have := fm_len (l := List.range n) (by simpa using hi) keep f; rw [List.length_range] at this; omega
  · rintro i x H H' hi hS ⟨rfl, rfl⟩ Y N hY hN
    have hi' : i < (List.range n).length := by simpa using hi
    have e := take_fm hi' keep f
    have eg : (List.range n)[i] = i := by simp
    rw [eg] at e
    refine hs i hi _ hS Y N (fun hk H2 s2 => hY _ H2 ?_ s2) fun hk H2 s2 => hN H2 ?_ s2
    · rw [if_pos hk] at e; exact e
    · rw [if_neg (by rw [hk]; decide), List.append_nil] at e; exact e
  · simpa using e
end
end Ev
/-! The text: the defs that are walked, their names. Printed by gentext.py -/
namespace Ev
open PySem PySem.Spec PyProof.Rows L2
def top (i : Nat) : Stmt := PySem.Challenge.rw_eventsim_k22_whole_traces_of_preemption.prog.main.body.getD i (.Pass ⟨0, 0, 0, 0⟩)
def inC : Stmt → List Stmt
  | .ClassDef (body := b) .. => b
  | _ => []
def inS (i j : Nat) : Stmt := (inC (top i)).getD j (.Pass ⟨0, 0, 0, 0⟩)
abbrev s_is_between : Stmt := top 24
abbrev N_is_between : List Str := ["thing", "low", "high"]
theorem sc_is_between : FnScope N_is_between ["thing", "low", "high"] (defScope s_is_between) := ⟨rfl, rfl, rfl, by decide +kernel, rfl, by decide +kernel, by decide +kernel⟩

abbrev s_need_between : Stmt := top 25
abbrev N_need_between : List Str := ["thing", "low", "high"]
theorem sc_need_between : FnScope N_need_between ["thing", "low", "high"] (defScope s_need_between) := ⟨rfl, rfl, rfl, by decide +kernel, rfl, by decide +kernel, by decide +kernel⟩

abbrev s_is_tuple : Stmt := top 26
abbrev N_is_tuple : List Str := ["thing", "low", "high"]
theorem sc_is_tuple : FnScope N_is_tuple ["thing", "low", "high"] (defScope s_is_tuple) := ⟨rfl, rfl, rfl, by decide +kernel, rfl, by decide +kernel, by decide +kernel⟩

abbrev s_is_pair : Stmt := top 27
abbrev N_is_pair : List Str := ["thing"]
theorem sc_is_pair : FnScope N_is_pair ["thing"] (defScope s_is_pair) := ⟨rfl, rfl, rfl, by decide +kernel, rfl, by decide +kernel, by decide +kernel⟩

abbrev s_is_resource : Stmt := top 28
abbrev N_is_resource : List Str := ["thing"]
theorem sc_is_resource : FnScope N_is_resource ["thing"] (defScope s_is_resource) := ⟨rfl, rfl, rfl, by decide +kernel, rfl, by decide +kernel, by decide +kernel⟩

abbrev s_fits : Stmt := top 31
abbrev N_fits : List Str := ["kind", "number", "counts"]
theorem sc_fits : FnScope N_fits ["kind", "number", "counts"] (defScope s_fits) := ⟨rfl, rfl, rfl, by decide +kernel, rfl, by decide +kernel, by decide +kernel⟩

abbrev s_is_instruction : Stmt := top 32
abbrev N_is_instruction : List Str := ["thing", "counts", "depth", "kinds", "kind", "number"]
theorem sc_is_instruction : FnScope N_is_instruction ["thing", "counts", "depth"] (defScope s_is_instruction) := ⟨rfl, rfl, rfl, by decide +kernel, rfl, by decide +kernel, by decide +kernel⟩

abbrev s_is_body : Stmt := top 33
abbrev N_is_body : List Str := ["thing", "counts", "depth", "one"]
theorem sc_is_body : FnScope N_is_body ["thing", "counts", "depth"] (defScope s_is_body) := ⟨rfl, rfl, rfl, by decide +kernel, rfl, by decide +kernel, by decide +kernel⟩

abbrev s_is_forever : Stmt := top 34
abbrev N_is_forever : List Str := ["thing", "counts"]
theorem sc_is_forever : FnScope N_is_forever ["thing", "counts"] (defScope s_is_forever) := ⟨rfl, rfl, rfl, by decide +kernel, rfl, by decide +kernel, by decide +kernel⟩

abbrev s_is_script : Stmt := top 35
abbrev N_is_script : List Str := ["thing", "counts", "one"]
theorem sc_is_script : FnScope N_is_script ["thing", "counts"] (defScope s_is_script) := ⟨rfl, rfl, rfl, by decide +kernel, rfl, by decide +kernel, by decide +kernel⟩

abbrev s_held_after : Stmt := top 36
abbrev N_held_after : List Str := ["script", "resource", "many", "instruction"]
theorem sc_held_after : FnScope N_held_after ["script", "resource", "many"] (defScope s_held_after) := ⟨rfl, rfl, rfl, by decide +kernel, rfl, by decide +kernel, by decide +kernel⟩

abbrev s_time_of : Stmt := top 37
abbrev N_time_of : List Str := ["script", "total", "instruction"]
theorem sc_time_of : FnScope N_time_of ["script"] (defScope s_time_of) := ⟨rfl, rfl, rfl, by decide +kernel, rfl, by decide +kernel, by decide +kernel⟩

abbrev s_is_sound : Stmt := top 38
abbrev N_is_sound : List Str := ["script", "resources", "resource", "one"]
theorem sc_is_sound : FnScope N_is_sound ["script", "resources"] (defScope s_is_sound) := ⟨rfl, rfl, rfl, by decide +kernel, rfl, by decide +kernel, by decide +kernel⟩

abbrev s_has_parts : Stmt := top 39
abbrev N_has_parts : List Str := ["thing", "resources", "stores", "gates", "scripts", "one", "part", "script"]
theorem sc_has_parts : FnScope N_has_parts ["thing"] (defScope s_has_parts) := ⟨rfl, rfl, rfl, by decide +kernel, rfl, by decide +kernel, by decide +kernel⟩

abbrev s_is_model : Stmt := top 40
abbrev N_is_model : List Str := ["thing", "script"]
theorem sc_is_model : FnScope N_is_model ["thing"] (defScope s_is_model) := ⟨rfl, rfl, rfl, by decide +kernel, rfl, by decide +kernel, by decide +kernel⟩

abbrev s_need_model : Stmt := top 41
abbrev N_need_model : List Str := ["thing"]
theorem sc_need_model : FnScope N_need_model ["thing"] (defScope s_need_model) := ⟨rfl, rfl, rfl, by decide +kernel, rfl, by decide +kernel, by decide +kernel⟩

abbrev s_need_index : Stmt := top 42
abbrev N_need_index : List Str := ["model", "part", "number"]
theorem sc_need_index : FnScope N_need_index ["model", "part", "number"] (defScope s_need_index) := ⟨rfl, rfl, rfl, by decide +kernel, rfl, by decide +kernel, by decide +kernel⟩

abbrev s_Request___init__ : Stmt := inS 44 0
abbrev N_Request___init__ : List Str := ["self", "process", "rank", "number", "holds"]
theorem sc_Request___init__ : FnScope N_Request___init__ ["self", "process", "rank", "number", "holds"] (defScope s_Request___init__) := ⟨rfl, rfl, rfl, by decide +kernel, rfl, by decide +kernel, by decide +kernel⟩

abbrev s_Line___init__ : Stmt := inS 45 2
abbrev N_Line___init__ : List Str := ["self", "units"]
theorem sc_Line___init__ : FnScope N_Line___init__ ["self", "units"] (defScope s_Line___init__) := ⟨rfl, rfl, rfl, by decide +kernel, rfl, by decide +kernel, by decide +kernel⟩

abbrev s_Line_urgency : Stmt := inS 45 3
abbrev N_Line_urgency : List Str := ["self", "request"]
theorem sc_Line_urgency : FnScope N_Line_urgency ["self", "request"] (defScope s_Line_urgency) := ⟨rfl, rfl, rfl, by decide +kernel, rfl, by decide +kernel, by decide +kernel⟩

abbrev s_Line_free : Stmt := inS 45 4
abbrev N_Line_free : List Str := ["self", "one"]
theorem sc_Line_free : FnScope N_Line_free ["self"] (defScope s_Line_free) := ⟨rfl, rfl, rfl, by decide +kernel, rfl, by decide +kernel, by decide +kernel⟩

abbrev s_Line_in_order : Stmt := inS 45 6
abbrev N_Line_in_order : List Str := ["self", "one"]
theorem sc_Line_in_order : FnScope N_Line_in_order ["self"] (defScope s_Line_in_order) := ⟨rfl, rfl, rfl, by decide +kernel, rfl, by decide +kernel, by decide +kernel⟩

abbrev s_Line_added : Stmt := inS 45 7
abbrev N_Line_added : List Str := ["self", "process", "rank", "holds"]
theorem sc_Line_added : FnScope N_Line_added ["self", "process", "rank", "holds"] (defScope s_Line_added) := ⟨rfl, rfl, rfl, by decide +kernel, rfl, by decide +kernel, by decide +kernel⟩

abbrev s_Line_asked : Stmt := inS 45 8
abbrev N_Line_asked : List Str := ["self", "process", "rank"]
theorem sc_Line_asked : FnScope N_Line_asked ["self", "process", "rank"] (defScope s_Line_asked) := ⟨rfl, rfl, rfl, by decide +kernel, rfl, by decide +kernel, by decide +kernel⟩

abbrev s_Line_last_of : Stmt := inS 45 9
abbrev N_Line_last_of : List Str := ["self", "process", "some", "one"]
theorem sc_Line_last_of : FnScope N_Line_last_of ["self", "process"] (defScope s_Line_last_of) := ⟨rfl, rfl, rfl, by decide +kernel, rfl, by decide +kernel, by decide +kernel⟩

abbrev s_Line_ended : Stmt := inS 45 10
abbrev N_Line_ended : List Str := ["self", "request", "some", "one"]
theorem sc_Line_ended : FnScope N_Line_ended ["self", "request"] (defScope s_Line_ended) := ⟨rfl, rfl, rfl, by decide +kernel, rfl, by decide +kernel, by decide +kernel⟩

abbrev s_RankLine_urgency : Stmt := inS 46 1
abbrev N_RankLine_urgency : List Str := ["self", "request"]
abbrev s_PreemptLine_chosen : Stmt := inS 47 1
abbrev N_PreemptLine_chosen : List Str := ["self", "rank", "victims", "some", "one"]
theorem sc_PreemptLine_chosen : FnScope N_PreemptLine_chosen ["self", "rank", "victims"] (defScope s_PreemptLine_chosen) := ⟨rfl, rfl, rfl, by decide +kernel, rfl, by decide +kernel, by decide +kernel⟩

abbrev s_PreemptLine_taken_over : Stmt := inS 47 2
abbrev N_PreemptLine_taken_over : List Str := ["self", "process", "rank", "lost"]
theorem sc_PreemptLine_taken_over : FnScope N_PreemptLine_taken_over ["self", "process", "rank", "lost"] (defScope s_PreemptLine_taken_over) := ⟨rfl, rfl, rfl, by decide +kernel, rfl, by decide +kernel, by decide +kernel⟩

abbrev s_line_of : Stmt := top 48
abbrev N_line_of : List Str := ["name", "units"]
theorem sc_line_of : FnScope N_line_of ["name", "units"] (defScope s_line_of) := ⟨rfl, rfl, rfl, by decide +kernel, rfl, by decide +kernel, by decide +kernel⟩

abbrev s_Run___init__ : Stmt := inS 54 0
abbrev N_Run___init__ : List Str := ["self", "model", "resources", "stores", "gates", "scripts", "many", "process", "discipline", "units", "capacity", "held", "store", "word", "gate"]
theorem sc_Run___init__ : FnScope N_Run___init__ ["self", "model"] (defScope s_Run___init__) := ⟨rfl, rfl, rfl, by decide +kernel, rfl, by decide +kernel, by decide +kernel⟩

abbrev s_Run_schedule : Stmt := inS 54 2
abbrev N_Run_schedule : List Str := ["self", "process", "time"]
theorem sc_Run_schedule : FnScope N_Run_schedule ["self", "process", "time"] (defScope s_Run_schedule) := ⟨rfl, rfl, rfl, by decide +kernel, rfl, by decide +kernel, by decide +kernel⟩

abbrev s_Run_unschedule : Stmt := inS 54 3
abbrev N_Run_unschedule : List Str := ["self", "process", "entry"]
theorem sc_Run_unschedule : FnScope N_Run_unschedule ["self", "process"] (defScope s_Run_unschedule) := ⟨rfl, rfl, rfl, by decide +kernel, rfl, by decide +kernel, by decide +kernel⟩

abbrev s_Run_first_time : Stmt := inS 54 4
abbrev N_Run_first_time : List Str := ["self"]
theorem sc_Run_first_time : FnScope N_Run_first_time ["self"] (defScope s_Run_first_time) := ⟨rfl, rfl, rfl, by decide +kernel, rfl, by decide +kernel, by decide +kernel⟩

abbrev s_Run_tell : Stmt := inS 54 5
abbrev N_Run_tell : List Str := ["self", "process", "word", "more"]
theorem sc_Run_tell : FnScope N_Run_tell ["self", "process", "word", "more"] (defScope s_Run_tell) := ⟨rfl, rfl, rfl, by decide +kernel, rfl, by decide +kernel, by decide +kernel⟩

abbrev s_Run_step : Stmt := inS 54 6
abbrev N_Run_step : List Str := ["self", "first", "number", "process", "entry"]
theorem sc_Run_step : FnScope N_Run_step ["self"] (defScope s_Run_step) := ⟨rfl, rfl, rfl, by decide +kernel, rfl, by decide +kernel, by decide +kernel⟩

abbrev s_Run_proceed : Stmt := inS 54 8
abbrev N_Run_proceed : List Str := ["self", "process", "rest", "word", "numbers"]
theorem sc_Run_proceed : FnScope N_Run_proceed ["self", "process"] (defScope s_Run_proceed) := ⟨rfl, rfl, rfl, by decide +kernel, rfl, by decide +kernel, by decide +kernel⟩

abbrev s_Run_unfold : Stmt := inS 54 9
abbrev N_Run_unfold : List Str := ["self", "process", "times", "body", "more"]
theorem sc_Run_unfold : FnScope N_Run_unfold ["self", "process", "times", "body"] (defScope s_Run_unfold) := ⟨rfl, rfl, rfl, by decide +kernel, rfl, by decide +kernel, by decide +kernel⟩

abbrev s_Run_sleep : Stmt := inS 54 10
abbrev N_Run_sleep : List Str := ["self", "process", "time"]
theorem sc_Run_sleep : FnScope N_Run_sleep ["self", "process", "time"] (defScope s_Run_sleep) := ⟨rfl, rfl, rfl, by decide +kernel, rfl, by decide +kernel, by decide +kernel⟩

abbrev s_Run_continue_now : Stmt := inS 54 11
abbrev N_Run_continue_now : List Str := ["self", "process"]
theorem sc_Run_continue_now : FnScope N_Run_continue_now ["self", "process"] (defScope s_Run_continue_now) := ⟨rfl, rfl, rfl, by decide +kernel, rfl, by decide +kernel, by decide +kernel⟩

abbrev s_Run_block : Stmt := inS 54 12
abbrev N_Run_block : List Str := ["self", "process", "word", "number", "more"]
theorem sc_Run_block : FnScope N_Run_block ["self", "process", "word", "number", "more"] (defScope s_Run_block) := ⟨rfl, rfl, rfl, by decide +kernel, rfl, by decide +kernel, by decide +kernel⟩

abbrev s_Run_wait : Stmt := inS 54 13
abbrev N_Run_wait : List Str := ["self", "process", "time"]
theorem sc_Run_wait : FnScope N_Run_wait ["self", "process", "time"] (defScope s_Run_wait) := ⟨rfl, rfl, rfl, by decide +kernel, rfl, by decide +kernel, by decide +kernel⟩

abbrev s_Run_sleepers : Stmt := inS 54 14
abbrev N_Run_sleepers : List Str := ["self", "some", "one", "state"]
theorem sc_Run_sleepers : FnScope N_Run_sleepers ["self"] (defScope s_Run_sleepers) := ⟨rfl, rfl, rfl, by decide +kernel, rfl, by decide +kernel, by decide +kernel⟩

abbrev s_Run_begin_hold : Stmt := inS 54 15
abbrev N_Run_begin_hold : List Str := ["self", "resource", "request", "period"]
theorem sc_Run_begin_hold : FnScope N_Run_begin_hold ["self", "resource", "request"] (defScope s_Run_begin_hold) := ⟨rfl, rfl, rfl, by decide +kernel, rfl, by decide +kernel, by decide +kernel⟩

abbrev s_Run_end_hold : Stmt := inS 54 16
abbrev N_Run_end_hold : List Str := ["self", "resource", "request", "period"]
theorem sc_Run_end_hold : FnScope N_Run_end_hold ["self", "resource", "request"] (defScope s_Run_end_hold) := ⟨rfl, rfl, rfl, by decide +kernel, rfl, by decide +kernel, by decide +kernel⟩

abbrev s_Run_take : Stmt := inS 54 17
abbrev N_Run_take : List Str := ["self", "process", "resource", "rank", "line", "lost"]
theorem sc_Run_take : FnScope N_Run_take ["self", "process", "resource", "rank"] (defScope s_Run_take) := ⟨rfl, rfl, rfl, by decide +kernel, rfl, by decide +kernel, by decide +kernel⟩

abbrev s_Run_give : Stmt := inS 54 18
abbrev N_Run_give : List Str := ["self", "process", "resource", "line", "own", "following", "state"]
theorem sc_Run_give : FnScope N_Run_give ["self", "process", "resource"] (defScope s_Run_give) := ⟨rfl, rfl, rfl, by decide +kernel, rfl, by decide +kernel, by decide +kernel⟩

abbrev s_Run_rouse : Stmt := inS 54 23
abbrev N_Run_rouse : List Str := ["self", "process", "other"]
theorem sc_Run_rouse : FnScope N_Run_rouse ["self", "process", "other"] (defScope s_Run_rouse) := ⟨rfl, rfl, rfl, by decide +kernel, rfl, by decide +kernel, by decide +kernel⟩

abbrev s_trace_of : Stmt := top 59
abbrev N_trace_of : List Str := ["model", "horizon", "run"]
theorem sc_trace_of : FnScope N_trace_of ["model", "horizon"] (defScope s_trace_of) := ⟨rfl, rfl, rfl, by decide +kernel, rfl, by decide +kernel, by decide +kernel⟩

abbrev s_trace : Stmt := top 60
abbrev N_trace : List Str := ["model", "horizon"]
theorem sc_trace : FnScope N_trace ["model", "horizon"] (defScope s_trace) := ⟨rfl, rfl, rfl, by decide +kernel, rfl, by decide +kernel, by decide +kernel⟩

abbrev s_own_trace : Stmt := top 61
abbrev N_own_trace : List Str := ["model", "process", "horizon", "event"]
theorem sc_own_trace : FnScope N_own_trace ["model", "process", "horizon"] (defScope s_own_trace) := ⟨rfl, rfl, rfl, by decide +kernel, rfl, by decide +kernel, by decide +kernel⟩

abbrev s__law_cell_at : Stmt := top 63
abbrev N__law_cell_at : List Str := ["_law_script_here", "_law_k"]
theorem sc__law_cell_at : FnScope N__law_cell_at ["_law_script_here", "_law_k"] (defScope s__law_cell_at) := ⟨rfl, rfl, rfl, by decide +kernel, rfl, by decide +kernel, by decide +kernel⟩

abbrev s__law_pen : Stmt := top 64
abbrev N__law_pen : List Str := ["_law_cell"]
theorem sc__law_pen : FnScope N__law_pen ["_law_cell"] (defScope s__law_pen) := ⟨rfl, rfl, rfl, by decide +kernel, rfl, by decide +kernel, by decide +kernel⟩

abbrev s__law_draw : Stmt := top 65
abbrev N__law_draw : List Str := ["_law_pen_here", "_law_many", "_law_found", "_law_mixed"]
theorem sc__law_draw : FnScope N__law_draw ["_law_pen_here", "_law_many"] (defScope s__law_draw) := ⟨rfl, rfl, rfl, by decide +kernel, rfl, by decide +kernel, by decide +kernel⟩

abbrev s__law_pick : Stmt := top 66
abbrev N__law_pick : List Str := ["_law_pen_here", "_law_things"]
theorem sc__law_pick : FnScope N__law_pick ["_law_pen_here", "_law_things"] (defScope s__law_pick) := ⟨rfl, rfl, rfl, by decide +kernel, rfl, by decide +kernel, by decide +kernel⟩

abbrev s__law_same : Stmt := top 67
abbrev N__law_same : List Str := ["_law_actual", "_law_expected"]
theorem sc__law_same : FnScope N__law_same ["_law_actual", "_law_expected"] (defScope s__law_same) := ⟨rfl, rfl, rfl, by decide +kernel, rfl, by decide +kernel, by decide +kernel⟩

abbrev s__law_part : Stmt := top 68
abbrev N__law_part : List Str := ["_law_pen_here", "_law_counts", "_law_words", "_law_resources", "_law_stores", "_law_gates", "_law_processes", "_law_word", "_law_resource", "_law_rank"]
theorem sc__law_part : FnScope N__law_part ["_law_pen_here", "_law_counts", "_law_words"] (defScope s__law_part) := ⟨rfl, rfl, rfl, by decide +kernel, rfl, by decide +kernel, by decide +kernel⟩

abbrev s__law_body : Stmt := top 69
abbrev N__law_body : List Str := ["_law_pen_here", "_law_counts", "_law_words", "_law_many", "_law_found", "_law_lap"]
theorem sc__law_body : FnScope N__law_body ["_law_pen_here", "_law_counts", "_law_words", "_law_many"] (defScope s__law_body) := ⟨rfl, rfl, rfl, by decide +kernel, rfl, by decide +kernel, by decide +kernel⟩

abbrev s__law_script : Stmt := top 70
abbrev N__law_script : List Str := ["_law_pen_here", "_law_counts", "_law_words", "_law_found", "_law_way", "_law_times", "_law_body_here", "_law_inner", "_law_one", "_law_other"]
theorem sc__law_script : FnScope N__law_script ["_law_pen_here", "_law_counts", "_law_words"] (defScope s__law_script) := ⟨rfl, rfl, rfl, by decide +kernel, rfl, by decide +kernel, by decide +kernel⟩

abbrev s__law_model : Stmt := top 71
abbrev N__law_model : List Str := ["_law_pen_here", "_law_words", "_law_disciplines", "_law_most", "_law_many", "_law_resources", "_law_stores", "_law_gates", "_law_lap", "_law_most_items", "_law_items", "_law_counts", "_law_scripts", "_law_item", "_law_process"]
theorem sc__law_model : FnScope N__law_model ["_law_pen_here", "_law_words", "_law_disciplines", "_law_most"] (defScope s__law_model) := ⟨rfl, rfl, rfl, by decide +kernel, rfl, by decide +kernel, by decide +kernel⟩

abbrev s__law_plan : Stmt := top 72
abbrev N__law_plan : List Str := ["_law_run_here", "_law_process", "_law_time"]
theorem sc__law_plan : FnScope N__law_plan ["_law_run_here", "_law_process", "_law_time"] (defScope s__law_plan) := ⟨rfl, rfl, rfl, by decide +kernel, rfl, by decide +kernel, by decide +kernel⟩

abbrev s__law_tell : Stmt := top 73
abbrev N__law_tell : List Str := ["_law_run_here", "_law_process", "_law_word", "_law_more"]
theorem sc__law_tell : FnScope N__law_tell ["_law_run_here", "_law_process", "_law_word", "_law_more"] (defScope s__law_tell) := ⟨rfl, rfl, rfl, by decide +kernel, rfl, by decide +kernel, by decide +kernel⟩

abbrev s__law_go_on : Stmt := top 74
abbrev N__law_go_on : List Str := ["_law_run_here", "_law_process"]
theorem sc__law_go_on : FnScope N__law_go_on ["_law_run_here", "_law_process"] (defScope s__law_go_on) := ⟨rfl, rfl, rfl, by decide +kernel, rfl, by decide +kernel, by decide +kernel⟩

abbrev s__law_fall_asleep : Stmt := top 75
abbrev N__law_fall_asleep : List Str := ["_law_run_here", "_law_process", "_law_long"]
theorem sc__law_fall_asleep : FnScope N__law_fall_asleep ["_law_run_here", "_law_process", "_law_long"] (defScope s__law_fall_asleep) := ⟨rfl, rfl, rfl, by decide +kernel, rfl, by decide +kernel, by decide +kernel⟩

abbrev s__law_unplan : Stmt := top 76
abbrev N__law_unplan : List Str := ["_law_run_here", "_law_process", "_law_entry"]
theorem sc__law_unplan : FnScope N__law_unplan ["_law_run_here", "_law_process"] (defScope s__law_unplan) := ⟨rfl, rfl, rfl, by decide +kernel, rfl, by decide +kernel, by decide +kernel⟩

abbrev s__law_sleepers : Stmt := top 77
abbrev N__law_sleepers : List Str := ["_law_run_here", "_law_found", "_law_process", "_law_state"]
theorem sc__law_sleepers : FnScope N__law_sleepers ["_law_run_here"] (defScope s__law_sleepers) := ⟨rfl, rfl, rfl, by decide +kernel, rfl, by decide +kernel, by decide +kernel⟩

abbrev s__law_begun : Stmt := top 78
abbrev N__law_begun : List Str := ["_law_model_here", "_law_many", "_law_run_here", "_law_process", "_law_pair", "_law_word"]
theorem sc__law_begun : FnScope N__law_begun ["_law_model_here"] (defScope s__law_begun) := ⟨rfl, rfl, rfl, by decide +kernel, rfl, by decide +kernel, by decide +kernel⟩

abbrev s__law_first_request : Stmt := top 79
abbrev N__law_first_request : List Str := ["_law_requests", "_law_discipline", "_law_ranked", "_law_keys", "_law_one"]
theorem sc__law_first_request : FnScope N__law_first_request ["_law_requests", "_law_discipline"] (defScope s__law_first_request) := ⟨rfl, rfl, rfl, by decide +kernel, rfl, by decide +kernel, by decide +kernel⟩

abbrev s__law_take : Stmt := top 80
abbrev N__law_take : List Str := ["_law_run_here", "_law_process", "_law_resource", "_law_rank", "_law_requests", "_law_pair", "_law_request", "_law_held", "_law_asleep", "_law_keys", "_law_lost", "_law_other", "_law_one"]
theorem sc__law_take : FnScope N__law_take ["_law_run_here", "_law_process", "_law_resource", "_law_rank"] (defScope s__law_take) := ⟨rfl, rfl, rfl, by decide +kernel, rfl, by decide +kernel, by decide +kernel⟩

abbrev s__law_give : Stmt := top 81
abbrev N__law_give : List Str := ["_law_run_here", "_law_process", "_law_resource", "_law_requests", "_law_own", "_law_following", "_law_other", "_law_one"]
theorem sc__law_give : FnScope N__law_give ["_law_run_here", "_law_process", "_law_resource"] (defScope s__law_give) := ⟨rfl, rfl, rfl, by decide +kernel, rfl, by decide +kernel, by decide +kernel⟩

abbrev s__law_rouse : Stmt := top 84
abbrev N__law_rouse : List Str := ["_law_run_here", "_law_process", "_law_other"]
theorem sc__law_rouse : FnScope N__law_rouse ["_law_run_here", "_law_process", "_law_other"] (defScope s__law_rouse) := ⟨rfl, rfl, rfl, by decide +kernel, rfl, by decide +kernel, by decide +kernel⟩

abbrev s__law_proceed : Stmt := top 85
abbrev N__law_proceed : List Str := ["_law_run_here", "_law_process", "_law_rest", "_law_word", "_law_more", "_law_again"]
theorem sc__law_proceed : FnScope N__law_proceed ["_law_run_here", "_law_process"] (defScope s__law_proceed) := ⟨rfl, rfl, rfl, by decide +kernel, rfl, by decide +kernel, by decide +kernel⟩

abbrev s__law_run : Stmt := top 86
abbrev N__law_run : List Str := ["_law_model_here", "_law_time", "_law_run_here", "_law_first", "_law_goes"]
theorem sc__law_run : FnScope N__law_run ["_law_model_here", "_law_time"] (defScope s__law_run) := ⟨rfl, rfl, rfl, by decide +kernel, rfl, by decide +kernel, by decide +kernel⟩

abbrev s__law_events : Stmt := top 87
abbrev N__law_events : List Str := ["_law_model_here", "_law_horizon"]
theorem sc__law_events : FnScope N__law_events ["_law_model_here", "_law_horizon"] (defScope s__law_events) := ⟨rfl, rfl, rfl, by decide +kernel, rfl, by decide +kernel, by decide +kernel⟩

abbrev s__law_traces_agree : Stmt := top 88
abbrev N__law_traces_agree : List Str := ["_law_model_here", "_law_horizon", "_law_kept", "_law_expected", "_law_process", "_law_own", "_law_look", "_law_event"]
theorem sc__law_traces_agree : FnScope N__law_traces_agree ["_law_model_here", "_law_horizon"] (defScope s__law_traces_agree) := ⟨rfl, rfl, rfl, by decide +kernel, rfl, by decide +kernel, by decide +kernel⟩

abbrev s_law : Stmt := top 89
abbrev N_law : List Str := ["_law_script_here", "_law_cell", "_law_pen_here", "_law_lap", "_law_model_here"]
theorem sc_law : FnScope N_law ["_law_script_here"] (defScope s_law) := ⟨rfl, rfl, rfl, by decide +kernel, rfl, by decide +kernel, by decide +kernel⟩

end Ev
/-! Where the text stands: what the walks take of it. Printed by gentext.py -/
namespace Ev
open PySem PySem.Spec PyProof.Rows L2
def PP : Program := PySem.Challenge.rw_eventsim_k22_whole_traces_of_preemption.prog
/-- a def that says super(): its function object holds the cell of its class -/
structure SupD (K : PySem.W.Frag) (x qual : Str) (st : Stmt) (f D : Addr) : Prop where
  ex : ∃ (oc : Value) (od : Option Addr) (kV doc pm : Value) (an : Option Addr) (cda cc : Addr) (ct : Value) (osl : Array (Option Value)), K.lookup f = some ⟨oc, od, .func (PySem.W.ksFn x qual (defArgs st) (defBody st) (defScope st) .none kV doc pm an (.ref cda) ct cc), osl⟩ ∧ PySem.W.codeIn K (.ref cda) qual = true ∧
    (∃ (ccl : Value) (cdd : Option Addr) (vs : Array Value) (ccs : Array (Option Value)) (file : Str) (tf : Tok), K.lookup cda = some ⟨ccl, cdd, .fields vs, ccs⟩ ∧ vs[2]? = some (.str file tf) ∧ ((PP.main.file : Str) == file) = true) ∧
    ∃ (cl : Value) (cld : Option Addr) (csl : Array (Option Value)), K.lookup cc = some ⟨cl, cld, .cell (some (.ref D)), csl⟩
  kp : PySem.W.keepIn K (.ref f) = true
structure Adr where
  is_between : Addr
  need_between : Addr
  is_tuple : Addr
  is_pair : Addr
  is_resource : Addr
  fits : Addr
  is_instruction : Addr
  is_body : Addr
  is_forever : Addr
  is_script : Addr
  held_after : Addr
  time_of : Addr
  is_sound : Addr
  has_parts : Addr
  is_model : Addr
  need_model : Addr
  need_index : Addr
  Request___init__ : Addr
  Line___init__ : Addr
  Line_urgency : Addr
  Line_free : Addr
  Line_in_order : Addr
  Line_added : Addr
  Line_asked : Addr
  Line_last_of : Addr
  Line_ended : Addr
  RankLine_urgency : Addr
  PreemptLine_chosen : Addr
  PreemptLine_taken_over : Addr
  line_of : Addr
  Run___init__ : Addr
  Run_schedule : Addr
  Run_unschedule : Addr
  Run_first_time : Addr
  Run_tell : Addr
  Run_step : Addr
  Run_proceed : Addr
  Run_unfold : Addr
  Run_sleep : Addr
  Run_continue_now : Addr
  Run_block : Addr
  Run_wait : Addr
  Run_sleepers : Addr
  Run_begin_hold : Addr
  Run_end_hold : Addr
  Run_take : Addr
  Run_give : Addr
  Run_rouse : Addr
  trace_of : Addr
  trace : Addr
  own_trace : Addr
  _law_cell_at : Addr
  _law_pen : Addr
  _law_draw : Addr
  _law_pick : Addr
  _law_same : Addr
  _law_part : Addr
  _law_body : Addr
  _law_script : Addr
  _law_model : Addr
  _law_plan : Addr
  _law_tell : Addr
  _law_go_on : Addr
  _law_fall_asleep : Addr
  _law_unplan : Addr
  _law_sleepers : Addr
  _law_begun : Addr
  _law_first_request : Addr
  _law_take : Addr
  _law_give : Addr
  _law_rouse : Addr
  _law_proceed : Addr
  _law_run : Addr
  _law_events : Addr
  _law_traces_agree : Addr
  law : Addr
  Request : Addr
  RankLine : Addr
  PreemptLine : Addr
  Run : Addr
  Line_free_p : Addr
  NUMBERS : Addr
  BOUNDS : Addr
  DISCIPLINES : Addr
  READY : Addr
  FINISHED : Addr
abbrev LineC (A : Adr) (C : Addr) : Prop := C = A.RankLine ∨ C = A.PreemptLine
structure Txt (K : PySem.W.Frag) (mg : Str → Option Value) (w : World) (A : Adr) : Prop where
  d_is_between : Def K "is_between" "is_between" s_is_between A.is_between
  g_is_between : mg "is_between" = some (.ref A.is_between)
  d_need_between : Def K "need_between" "need_between" s_need_between A.need_between
  g_need_between : mg "need_between" = some (.ref A.need_between)
  d_is_tuple : Def K "is_tuple" "is_tuple" s_is_tuple A.is_tuple
  g_is_tuple : mg "is_tuple" = some (.ref A.is_tuple)
  d_is_pair : Def K "is_pair" "is_pair" s_is_pair A.is_pair
  g_is_pair : mg "is_pair" = some (.ref A.is_pair)
  d_is_resource : Def K "is_resource" "is_resource" s_is_resource A.is_resource
  g_is_resource : mg "is_resource" = some (.ref A.is_resource)
  d_fits : Def K "fits" "fits" s_fits A.fits
  g_fits : mg "fits" = some (.ref A.fits)
  d_is_instruction : Def K "is_instruction" "is_instruction" s_is_instruction A.is_instruction
  g_is_instruction : mg "is_instruction" = some (.ref A.is_instruction)
  d_is_body : Def K "is_body" "is_body" s_is_body A.is_body
  g_is_body : mg "is_body" = some (.ref A.is_body)
  d_is_forever : Def K "is_forever" "is_forever" s_is_forever A.is_forever
  g_is_forever : mg "is_forever" = some (.ref A.is_forever)
  d_is_script : Def K "is_script" "is_script" s_is_script A.is_script
  g_is_script : mg "is_script" = some (.ref A.is_script)
  d_held_after : Def K "held_after" "held_after" s_held_after A.held_after
  g_held_after : mg "held_after" = some (.ref A.held_after)
  d_time_of : Def K "time_of" "time_of" s_time_of A.time_of
  g_time_of : mg "time_of" = some (.ref A.time_of)
  d_is_sound : Def K "is_sound" "is_sound" s_is_sound A.is_sound
  g_is_sound : mg "is_sound" = some (.ref A.is_sound)
  d_has_parts : Def K "has_parts" "has_parts" s_has_parts A.has_parts
  g_has_parts : mg "has_parts" = some (.ref A.has_parts)
  d_is_model : Def K "is_model" "is_model" s_is_model A.is_model
  g_is_model : mg "is_model" = some (.ref A.is_model)
  d_need_model : Def K "need_model" "need_model" s_need_model A.need_model
  g_need_model : mg "need_model" = some (.ref A.need_model)
  d_need_index : Def K "need_index" "need_index" s_need_index A.need_index
  g_need_index : mg "need_index" = some (.ref A.need_index)
  d_Request___init__ : Def K "__init__" "Request.__init__" s_Request___init__ A.Request___init__
  d_Line___init__ : Def K "__init__" "Line.__init__" s_Line___init__ A.Line___init__
  d_Line_urgency : Def K "urgency" "Line.urgency" s_Line_urgency A.Line_urgency
  d_Line_free : Def K "free" "Line.free" s_Line_free A.Line_free
  d_Line_in_order : Def K "in_order" "Line.in_order" s_Line_in_order A.Line_in_order
  d_Line_added : Def K "added" "Line.added" s_Line_added A.Line_added
  d_Line_asked : Def K "asked" "Line.asked" s_Line_asked A.Line_asked
  d_Line_last_of : Def K "last_of" "Line.last_of" s_Line_last_of A.Line_last_of
  d_Line_ended : Def K "ended" "Line.ended" s_Line_ended A.Line_ended
  d_RankLine_urgency : SupD K "urgency" "RankLine.urgency" s_RankLine_urgency A.RankLine_urgency A.RankLine
  d_PreemptLine_chosen : Def K "chosen" "PreemptLine.chosen" s_PreemptLine_chosen A.PreemptLine_chosen
  d_PreemptLine_taken_over : Def K "taken_over" "PreemptLine.taken_over" s_PreemptLine_taken_over A.PreemptLine_taken_over
  d_line_of : Def K "line_of" "line_of" s_line_of A.line_of
  g_line_of : mg "line_of" = some (.ref A.line_of)
  d_Run___init__ : Def K "__init__" "Run.__init__" s_Run___init__ A.Run___init__
  d_Run_schedule : Def K "schedule" "Run.schedule" s_Run_schedule A.Run_schedule
  d_Run_unschedule : Def K "unschedule" "Run.unschedule" s_Run_unschedule A.Run_unschedule
  d_Run_first_time : Def K "first_time" "Run.first_time" s_Run_first_time A.Run_first_time
  d_Run_tell : Def K "tell" "Run.tell" s_Run_tell A.Run_tell
  d_Run_step : Def K "step" "Run.step" s_Run_step A.Run_step
  d_Run_proceed : Def K "proceed" "Run.proceed" s_Run_proceed A.Run_proceed
  d_Run_unfold : Def K "unfold" "Run.unfold" s_Run_unfold A.Run_unfold
  d_Run_sleep : Def K "sleep" "Run.sleep" s_Run_sleep A.Run_sleep
  d_Run_continue_now : Def K "continue_now" "Run.continue_now" s_Run_continue_now A.Run_continue_now
  d_Run_block : Def K "block" "Run.block" s_Run_block A.Run_block
  d_Run_wait : Def K "wait" "Run.wait" s_Run_wait A.Run_wait
  d_Run_sleepers : Def K "sleepers" "Run.sleepers" s_Run_sleepers A.Run_sleepers
  d_Run_begin_hold : Def K "begin_hold" "Run.begin_hold" s_Run_begin_hold A.Run_begin_hold
  d_Run_end_hold : Def K "end_hold" "Run.end_hold" s_Run_end_hold A.Run_end_hold
  d_Run_take : Def K "take" "Run.take" s_Run_take A.Run_take
  d_Run_give : Def K "give" "Run.give" s_Run_give A.Run_give
  d_Run_rouse : Def K "rouse" "Run.rouse" s_Run_rouse A.Run_rouse
  d_trace_of : Def K "trace_of" "trace_of" s_trace_of A.trace_of
  g_trace_of : mg "trace_of" = some (.ref A.trace_of)
  d_trace : Def K "trace" "trace" s_trace A.trace
  g_trace : mg "trace" = some (.ref A.trace)
  d_own_trace : Def K "own_trace" "own_trace" s_own_trace A.own_trace
  g_own_trace : mg "own_trace" = some (.ref A.own_trace)
  d__law_cell_at : Def K "_law_cell_at" "_law_cell_at" s__law_cell_at A._law_cell_at
  g__law_cell_at : mg "_law_cell_at" = some (.ref A._law_cell_at)
  d__law_pen : Def K "_law_pen" "_law_pen" s__law_pen A._law_pen
  g__law_pen : mg "_law_pen" = some (.ref A._law_pen)
  d__law_draw : Def K "_law_draw" "_law_draw" s__law_draw A._law_draw
  g__law_draw : mg "_law_draw" = some (.ref A._law_draw)
  d__law_pick : Def K "_law_pick" "_law_pick" s__law_pick A._law_pick
  g__law_pick : mg "_law_pick" = some (.ref A._law_pick)
  d__law_same : Def K "_law_same" "_law_same" s__law_same A._law_same
  g__law_same : mg "_law_same" = some (.ref A._law_same)
  d__law_part : Def K "_law_part" "_law_part" s__law_part A._law_part
  g__law_part : mg "_law_part" = some (.ref A._law_part)
  d__law_body : Def K "_law_body" "_law_body" s__law_body A._law_body
  g__law_body : mg "_law_body" = some (.ref A._law_body)
  d__law_script : Def K "_law_script" "_law_script" s__law_script A._law_script
  g__law_script : mg "_law_script" = some (.ref A._law_script)
  d__law_model : Def K "_law_model" "_law_model" s__law_model A._law_model
  g__law_model : mg "_law_model" = some (.ref A._law_model)
  d__law_plan : Def K "_law_plan" "_law_plan" s__law_plan A._law_plan
  g__law_plan : mg "_law_plan" = some (.ref A._law_plan)
  d__law_tell : Def K "_law_tell" "_law_tell" s__law_tell A._law_tell
  g__law_tell : mg "_law_tell" = some (.ref A._law_tell)
  d__law_go_on : Def K "_law_go_on" "_law_go_on" s__law_go_on A._law_go_on
  g__law_go_on : mg "_law_go_on" = some (.ref A._law_go_on)
  d__law_fall_asleep : Def K "_law_fall_asleep" "_law_fall_asleep" s__law_fall_asleep A._law_fall_asleep
  g__law_fall_asleep : mg "_law_fall_asleep" = some (.ref A._law_fall_asleep)
  d__law_unplan : Def K "_law_unplan" "_law_unplan" s__law_unplan A._law_unplan
  g__law_unplan : mg "_law_unplan" = some (.ref A._law_unplan)
  d__law_sleepers : Def K "_law_sleepers" "_law_sleepers" s__law_sleepers A._law_sleepers
  g__law_sleepers : mg "_law_sleepers" = some (.ref A._law_sleepers)
  d__law_begun : Def K "_law_begun" "_law_begun" s__law_begun A._law_begun
  g__law_begun : mg "_law_begun" = some (.ref A._law_begun)
  d__law_first_request : Def K "_law_first_request" "_law_first_request" s__law_first_request A._law_first_request
  g__law_first_request : mg "_law_first_request" = some (.ref A._law_first_request)
  d__law_take : Def K "_law_take" "_law_take" s__law_take A._law_take
  g__law_take : mg "_law_take" = some (.ref A._law_take)
  d__law_give : Def K "_law_give" "_law_give" s__law_give A._law_give
  g__law_give : mg "_law_give" = some (.ref A._law_give)
  d__law_rouse : Def K "_law_rouse" "_law_rouse" s__law_rouse A._law_rouse
  g__law_rouse : mg "_law_rouse" = some (.ref A._law_rouse)
  d__law_proceed : Def K "_law_proceed" "_law_proceed" s__law_proceed A._law_proceed
  g__law_proceed : mg "_law_proceed" = some (.ref A._law_proceed)
  d__law_run : Def K "_law_run" "_law_run" s__law_run A._law_run
  g__law_run : mg "_law_run" = some (.ref A._law_run)
  d__law_events : Def K "_law_events" "_law_events" s__law_events A._law_events
  g__law_events : mg "_law_events" = some (.ref A._law_events)
  d__law_traces_agree : Def K "_law_traces_agree" "_law_traces_agree" s__law_traces_agree A._law_traces_agree
  g__law_traces_agree : mg "_law_traces_agree" = some (.ref A._law_traces_agree)
  d_law : Def K "law" "law" s_law A.law
  g_Request : mg "Request" = some (.ref A.Request)
  c_Request : Cls K A.Request
  k_Request : Mk K A.Request A.Request___init__
  g_RankLine : mg "RankLine" = some (.ref A.RankLine)
  c_RankLine : Cls K A.RankLine
  k_RankLine : Mk K A.RankLine A.Line___init__
  g_PreemptLine : mg "PreemptLine" = some (.ref A.PreemptLine)
  c_PreemptLine : Cls K A.PreemptLine
  k_PreemptLine : Mk K A.PreemptLine A.Line___init__
  g_Run : mg "Run" = some (.ref A.Run)
  c_Run : Cls K A.Run
  k_Run : Mk K A.Run A.Run___init__
  n_Request_process : NoAttr K A.Request "process"
  n_Request_rank : NoAttr K A.Request "rank"
  n_Request_number : NoAttr K A.Request "number"
  n_Request_holds : NoAttr K A.Request "holds"
  n_RankLine_units : NoAttr K A.RankLine "units"
  n_RankLine_requests : NoAttr K A.RankLine "requests"
  n_RankLine_count : NoAttr K A.RankLine "count"
  n_RankLine_MOST : ∃ u, Con K A.RankLine "MOST_UNITS" (.int 3) u
  e_RankLine_in_order : Meth K A.RankLine "in_order" A.Line_in_order
  e_RankLine_added : Meth K A.RankLine "added" A.Line_added
  e_RankLine_asked : Meth K A.RankLine "asked" A.Line_asked
  e_RankLine_last_of : Meth K A.RankLine "last_of" A.Line_last_of
  e_RankLine_ended : Meth K A.RankLine "ended" A.Line_ended
  e_RankLine_urgency : BMeth K A.RankLine "urgency" A.RankLine_urgency
  e_RankLine_free : PropOf K A.RankLine "free" A.Line_free_p A.Line_free
  n_PreemptLine_units : NoAttr K A.PreemptLine "units"
  n_PreemptLine_requests : NoAttr K A.PreemptLine "requests"
  n_PreemptLine_count : NoAttr K A.PreemptLine "count"
  n_PreemptLine_MOST : ∃ u, Con K A.PreemptLine "MOST_UNITS" (.int 3) u
  e_PreemptLine_in_order : Meth K A.PreemptLine "in_order" A.Line_in_order
  e_PreemptLine_added : Meth K A.PreemptLine "added" A.Line_added
  e_PreemptLine_asked : Meth K A.PreemptLine "asked" A.Line_asked
  e_PreemptLine_last_of : Meth K A.PreemptLine "last_of" A.Line_last_of
  e_PreemptLine_ended : Meth K A.PreemptLine "ended" A.Line_ended
  e_PreemptLine_urgency : BMeth K A.PreemptLine "urgency" A.RankLine_urgency
  e_PreemptLine_free : PropOf K A.PreemptLine "free" A.Line_free_p A.Line_free
  e_PreemptLine_chosen : Meth K A.PreemptLine "chosen" A.PreemptLine_chosen
  e_PreemptLine_taken_over : Meth K A.PreemptLine "taken_over" A.PreemptLine_taken_over
  n_Run_model : NoAttr K A.Run "model"
  n_Run_clock : NoAttr K A.Run "clock"
  n_Run_removed : NoAttr K A.Run "removed"
  n_Run_numbered : NoAttr K A.Run "numbered"
  n_Run_agenda : NoAttr K A.Run "agenda"
  n_Run_log : NoAttr K A.Run "log"
  n_Run_passes : NoAttr K A.Run "passes"
  n_Run_periods : NoAttr K A.Run "periods"
  n_Run_lines : NoAttr K A.Run "lines"
  n_Run_contents : NoAttr K A.Run "contents"
  n_Run_getters : NoAttr K A.Run "getters"
  n_Run_putters : NoAttr K A.Run "putters"
  n_Run_gates : NoAttr K A.Run "gates"
  n_Run_passers : NoAttr K A.Run "passers"
  n_Run_states : NoAttr K A.Run "states"
  n_Run_rests : NoAttr K A.Run "rests"
  n_Run_since : NoAttr K A.Run "since"
  n_Run_until : NoAttr K A.Run "until"
  e_Run_schedule : Meth K A.Run "schedule" A.Run_schedule
  e_Run_unschedule : Meth K A.Run "unschedule" A.Run_unschedule
  e_Run_first_time : Meth K A.Run "first_time" A.Run_first_time
  e_Run_tell : Meth K A.Run "tell" A.Run_tell
  e_Run_step : Meth K A.Run "step" A.Run_step
  e_Run_proceed : Meth K A.Run "proceed" A.Run_proceed
  e_Run_unfold : BMeth K A.Run "unfold" A.Run_unfold
  e_Run_sleep : Meth K A.Run "sleep" A.Run_sleep
  e_Run_continue_now : Meth K A.Run "continue_now" A.Run_continue_now
  e_Run_block : Meth K A.Run "block" A.Run_block
  e_Run_wait : BMeth K A.Run "wait" A.Run_wait
  e_Run_sleepers : Meth K A.Run "sleepers" A.Run_sleepers
  e_Run_begin_hold : Meth K A.Run "begin_hold" A.Run_begin_hold
  e_Run_end_hold : Meth K A.Run "end_hold" A.Run_end_hold
  e_Run_take : BMeth K A.Run "take" A.Run_take
  e_Run_give : BMeth K A.Run "give" A.Run_give
  e_Run_rouse : BMeth K A.Run "rouse" A.Run_rouse
  b_len : mg "len" = none
  b_isinstance : mg "isinstance" = none
  b_all : mg "all" = none
  b_sorted : mg "sorted" = none
  b_min : mg "min" = none
  b_max : mg "max" = none
  b_tuple : mg "tuple" = none
  b_list : mg "list" = none
  b_range : mg "range" = none
  b_enumerate : mg "enumerate" = none
  b_zip : mg "zip" = none
  b_repr : mg "repr" = none
  b_int : mg "int" = none
  b_str : mg "str" = none
  b_bool : mg "bool" = none
  g_MOST_UNITS : ∃ u, mg "MOST_UNITS" = some u ∧ RelV (.int 3) u
  g_MOST_RANK : ∃ u, mg "MOST_RANK" = some u ∧ RelV (.int 9) u
  g_MOST_TIMES : ∃ u, mg "MOST_TIMES" = some u ∧ RelV (.int 5) u
  g_MOST_DEPTH : ∃ u, mg "MOST_DEPTH" = some u ∧ RelV (.int 3) u
  g_MOST_RESOURCES : ∃ u, mg "MOST_RESOURCES" = some u ∧ RelV (.int 4) u
  g_MOST_STORES : ∃ u, mg "MOST_STORES" = some u ∧ RelV (.int 3) u
  g_MOST_GATES : ∃ u, mg "MOST_GATES" = some u ∧ RelV (.int 3) u
  g_MOST_SCRIPTS : ∃ u, mg "MOST_SCRIPTS" = some u ∧ RelV (.int 6) u
  g_SCRIPTS : ∃ u, mg "SCRIPTS" = some u ∧ RelV (.int 3) u
  g_MOST_TIME : ∃ u, mg "MOST_TIME" = some u ∧ RelV (.int 200) u
  g_MOST_EVENTS : ∃ u, mg "MOST_EVENTS" = some u ∧ RelV (.int 3000) u
  g_ASLEEP : ∃ u, mg "ASLEEP" = some u ∧ RelV (.str "asleep") u
  g_SUSPENDED : ∃ u, mg "SUSPENDED" = some u ∧ RelV (.str "suspended") u
  g_REFERENCES : ∃ u, mg "REFERENCES" = some u ∧ RelV (.str "rsgp") u
  g_DISCIPLINES : ∃ u, mg "DISCIPLINES" = some u ∧ RelV (.ref A.DISCIPLINES) u
  t_DISCIPLINES : ∃ (ob : Obj) (its : Array Value) (n : Nat), K.lookup A.DISCIPLINES = some ob ∧ ob.cls = .type "tuple" ∧ ob.data = .seq its n ∧ its.size ≤ sizeLine ∧ Vals [.str "fifo", .str "rank", .str "preempt"] its.toList
  g_READY : ∃ u, mg "READY" = some u ∧ RelV (.ref A.READY) u
  t_READY : ∃ (ob : Obj) (its : Array Value) (n : Nat), K.lookup A.READY = some ob ∧ ob.cls = .type "tuple" ∧ ob.data = .seq its n ∧ its.size ≤ sizeLine ∧ Vals [.str "ready"] its.toList
  g_FINISHED : ∃ u, mg "FINISHED" = some u ∧ RelV (.ref A.FINISHED) u
  t_FINISHED : ∃ (ob : Obj) (its : Array Value) (n : Nat), K.lookup A.FINISHED = some ob ∧ ob.cls = .type "tuple" ∧ ob.data = .seq its n ∧ its.size ≤ sizeLine ∧ Vals [.str "finished"] its.toList
  g_NUMBERS : ∃ u, mg "NUMBERS" = some u ∧ RelV (.ref A.NUMBERS) u
  t_NUMBERS : ∃ es n, KDict K w A.NUMBERS es n
  g_BOUNDS : ∃ u, mg "BOUNDS" = some u ∧ RelV (.ref A.BOUNDS) u
  t_BOUNDS : ∃ es n, KDict K w A.BOUNDS es n
  v_NUMBERS_wait : ∃ u, PySem.W.nsIn K A.NUMBERS "wait" = some (some u) ∧ RelV (.str "d") u
  v_NUMBERS_take : ∃ u, PySem.W.nsIn K A.NUMBERS "take" = some (some u) ∧ RelV (.str "rk") u
  v_NUMBERS_give : ∃ u, PySem.W.nsIn K A.NUMBERS "give" = some (some u) ∧ RelV (.str "r") u
  v_NUMBERS_rouse : ∃ u, PySem.W.nsIn K A.NUMBERS "rouse" = some (some u) ∧ RelV (.str "p") u
  s_RankLine : PySem.W.ks_superIn K A.RankLine A.RankLine "urgency" = some (some (.ref A.Line_urgency)) ∧ PySem.W.mroIn K A.RankLine (.ref A.RankLine) = some true ∧ (∃ cd, PySem.W.clsIn K A.RankLine = some cd)
  s_PreemptLine : PySem.W.ks_superIn K A.PreemptLine A.RankLine "urgency" = some (some (.ref A.Line_urgency)) ∧ PySem.W.mroIn K A.PreemptLine (.ref A.RankLine) = some true ∧ (∃ cd, PySem.W.clsIn K A.PreemptLine = some cd)
  t_urgency : PySem.W.typeIn K (.ref A.Line_urgency) = some (.type "function")
  f_urgency : PySem.W.fnIn K A.Line_urgency = true
  b_super : mg "super" = none
  n_opaque : PySem.W.nsIn K cStatics "thirdparty.any" = some none
  v_NUMBERS_forever : PySem.W.nsIn K A.NUMBERS "forever" = some none
  v_BOUNDS_d : ∃ u, PySem.W.nsIn K A.BOUNDS "d" = some (some u) ∧ RelV .non u
  v_BOUNDS_k : ∃ u, PySem.W.nsIn K A.BOUNDS "k" = some (some u) ∧ RelV (.int 9) u
section
variable {K : PySem.W.Frag} {mg : Str → Option Value} {w : World} {A : Adr} (T : Txt K mg w A)
include T
theorem Txt.mLine_in_order : ∀ C, LineC A C → Cls K C ∧ Meth K C "in_order" A.Line_in_order := fun C h => h.elim (fun e => e ▸ ⟨T.c_RankLine, T.e_RankLine_in_order⟩) fun e => e ▸ ⟨T.c_PreemptLine, T.e_PreemptLine_in_order⟩
theorem Txt.mLine_added : ∀ C, LineC A C → Cls K C ∧ Meth K C "added" A.Line_added := fun C h => h.elim (fun e => e ▸ ⟨T.c_RankLine, T.e_RankLine_added⟩) fun e => e ▸ ⟨T.c_PreemptLine, T.e_PreemptLine_added⟩
theorem Txt.mLine_asked : ∀ C, LineC A C → Cls K C ∧ Meth K C "asked" A.Line_asked := fun C h => h.elim (fun e => e ▸ ⟨T.c_RankLine, T.e_RankLine_asked⟩) fun e => e ▸ ⟨T.c_PreemptLine, T.e_PreemptLine_asked⟩
theorem Txt.mLine_last_of : ∀ C, LineC A C → Cls K C ∧ Meth K C "last_of" A.Line_last_of := fun C h => h.elim (fun e => e ▸ ⟨T.c_RankLine, T.e_RankLine_last_of⟩) fun e => e ▸ ⟨T.c_PreemptLine, T.e_PreemptLine_last_of⟩
theorem Txt.mLine_ended : ∀ C, LineC A C → Cls K C ∧ Meth K C "ended" A.Line_ended := fun C h => h.elim (fun e => e ▸ ⟨T.c_RankLine, T.e_RankLine_ended⟩) fun e => e ▸ ⟨T.c_PreemptLine, T.e_PreemptLine_ended⟩
theorem Txt.qLine_urgency : ∀ C, LineC A C → Cls K C ∧ BMeth K C "urgency" A.RankLine_urgency := fun C h => h.elim (fun e => e ▸ ⟨T.c_RankLine, T.e_RankLine_urgency⟩) fun e => e ▸ ⟨T.c_PreemptLine, T.e_PreemptLine_urgency⟩
theorem Txt.pLine_free : ∀ C, LineC A C → Cls K C ∧ PropOf K C "free" A.Line_free_p A.Line_free := fun C h => h.elim (fun e => e ▸ ⟨T.c_RankLine, T.e_RankLine_free⟩) fun e => e ▸ ⟨T.c_PreemptLine, T.e_PreemptLine_free⟩
theorem Txt.cLine : ∀ {C}, LineC A C → Cls K C := fun h => h.elim (fun e => e ▸ T.c_RankLine) fun e => e ▸ T.c_PreemptLine
theorem Txt.nLine_units : ∀ {C}, LineC A C → NoAttr K C "units" := fun h => h.elim (fun e => e ▸ T.n_RankLine_units) fun e => e ▸ T.n_PreemptLine_units
theorem Txt.nLine_requests : ∀ {C}, LineC A C → NoAttr K C "requests" := fun h => h.elim (fun e => e ▸ T.n_RankLine_requests) fun e => e ▸ T.n_PreemptLine_requests
theorem Txt.nLine_count : ∀ {C}, LineC A C → NoAttr K C "count" := fun h => h.elim (fun e => e ▸ T.n_RankLine_count) fun e => e ▸ T.n_PreemptLine_count
theorem Txt.nLine_MOST : ∀ {C}, LineC A C → ∃ u, Con K C "MOST_UNITS" (.int 3) u := fun h => h.elim (fun e => e ▸ T.n_RankLine_MOST) fun e => e ▸ T.n_PreemptLine_MOST
theorem Txt.mPreemptLine_chosen : ∀ C, C = A.PreemptLine → Cls K C ∧ Meth K C "chosen" A.PreemptLine_chosen := fun C e => e ▸ ⟨T.c_PreemptLine, T.e_PreemptLine_chosen⟩
theorem Txt.mPreemptLine_taken_over : ∀ C, C = A.PreemptLine → Cls K C ∧ Meth K C "taken_over" A.PreemptLine_taken_over := fun C e => e ▸ ⟨T.c_PreemptLine, T.e_PreemptLine_taken_over⟩
theorem Txt.mRun_schedule : ∀ C, C = A.Run → Cls K C ∧ Meth K C "schedule" A.Run_schedule := fun C e => e ▸ ⟨T.c_Run, T.e_Run_schedule⟩
theorem Txt.mRun_unschedule : ∀ C, C = A.Run → Cls K C ∧ Meth K C "unschedule" A.Run_unschedule := fun C e => e ▸ ⟨T.c_Run, T.e_Run_unschedule⟩
theorem Txt.mRun_first_time : ∀ C, C = A.Run → Cls K C ∧ Meth K C "first_time" A.Run_first_time := fun C e => e ▸ ⟨T.c_Run, T.e_Run_first_time⟩
theorem Txt.mRun_tell : ∀ C, C = A.Run → Cls K C ∧ Meth K C "tell" A.Run_tell := fun C e => e ▸ ⟨T.c_Run, T.e_Run_tell⟩
theorem Txt.mRun_step : ∀ C, C = A.Run → Cls K C ∧ Meth K C "step" A.Run_step := fun C e => e ▸ ⟨T.c_Run, T.e_Run_step⟩
theorem Txt.mRun_proceed : ∀ C, C = A.Run → Cls K C ∧ Meth K C "proceed" A.Run_proceed := fun C e => e ▸ ⟨T.c_Run, T.e_Run_proceed⟩
theorem Txt.mRun_unfold : ∀ C, C = A.Run → Cls K C ∧ Meth K C "unfold" A.Run_unfold := fun C e => e ▸ ⟨T.c_Run, T.e_Run_unfold.mt⟩
theorem Txt.qRun_unfold : ∀ C, C = A.Run → Cls K C ∧ BMeth K C "unfold" A.Run_unfold := fun C e => e ▸ ⟨T.c_Run, T.e_Run_unfold⟩
theorem Txt.mRun_sleep : ∀ C, C = A.Run → Cls K C ∧ Meth K C "sleep" A.Run_sleep := fun C e => e ▸ ⟨T.c_Run, T.e_Run_sleep⟩
theorem Txt.mRun_continue_now : ∀ C, C = A.Run → Cls K C ∧ Meth K C "continue_now" A.Run_continue_now := fun C e => e ▸ ⟨T.c_Run, T.e_Run_continue_now⟩
theorem Txt.mRun_block : ∀ C, C = A.Run → Cls K C ∧ Meth K C "block" A.Run_block := fun C e => e ▸ ⟨T.c_Run, T.e_Run_block⟩
theorem Txt.mRun_wait : ∀ C, C = A.Run → Cls K C ∧ Meth K C "wait" A.Run_wait := fun C e => e ▸ ⟨T.c_Run, T.e_Run_wait.mt⟩
theorem Txt.qRun_wait : ∀ C, C = A.Run → Cls K C ∧ BMeth K C "wait" A.Run_wait := fun C e => e ▸ ⟨T.c_Run, T.e_Run_wait⟩
theorem Txt.mRun_sleepers : ∀ C, C = A.Run → Cls K C ∧ Meth K C "sleepers" A.Run_sleepers := fun C e => e ▸ ⟨T.c_Run, T.e_Run_sleepers⟩
theorem Txt.mRun_begin_hold : ∀ C, C = A.Run → Cls K C ∧ Meth K C "begin_hold" A.Run_begin_hold := fun C e => e ▸ ⟨T.c_Run, T.e_Run_begin_hold⟩
theorem Txt.mRun_end_hold : ∀ C, C = A.Run → Cls K C ∧ Meth K C "end_hold" A.Run_end_hold := fun C e => e ▸ ⟨T.c_Run, T.e_Run_end_hold⟩
theorem Txt.mRun_take : ∀ C, C = A.Run → Cls K C ∧ Meth K C "take" A.Run_take := fun C e => e ▸ ⟨T.c_Run, T.e_Run_take.mt⟩
theorem Txt.qRun_take : ∀ C, C = A.Run → Cls K C ∧ BMeth K C "take" A.Run_take := fun C e => e ▸ ⟨T.c_Run, T.e_Run_take⟩
theorem Txt.mRun_give : ∀ C, C = A.Run → Cls K C ∧ Meth K C "give" A.Run_give := fun C e => e ▸ ⟨T.c_Run, T.e_Run_give.mt⟩
theorem Txt.qRun_give : ∀ C, C = A.Run → Cls K C ∧ BMeth K C "give" A.Run_give := fun C e => e ▸ ⟨T.c_Run, T.e_Run_give⟩
theorem Txt.mRun_rouse : ∀ C, C = A.Run → Cls K C ∧ Meth K C "rouse" A.Run_rouse := fun C e => e ▸ ⟨T.c_Run, T.e_Run_rouse.mt⟩
theorem Txt.qRun_rouse : ∀ C, C = A.Run → Cls K C ∧ BMeth K C "rouse" A.Run_rouse := fun C e => e ▸ ⟨T.c_Run, T.e_Run_rouse⟩
end
end Ev
/-! The head: what is looked at behind the top, the run of the top. Printed by genhead.py -/
namespace Ev
open PySem PySem.Spec PyProof.Rows L2
/-! ### the part of the heap that is known -/
def refsAt (g : Addr → Option Obj) (a : Addr) : List Addr := match g a with
  | some o => He.refsD o
  | none => []
def nsAt (g : Addr → Option Obj) (a : Addr) : List Addr := match g a with
  | some ⟨_, _, .cls cd, _⟩ => [cd.ns]
  | _ => []
def known (g : Addr → Option Obj) : List Addr :=
  let l1 := refsAt g mainGlobals
  let l2 := l1.flatMap (refsAt g)
  let l3 := (l1.flatMap (nsAt g)).flatMap (refsAt g)
  let l4 := l3.flatMap (refsAt g)
  let l5 := l4.flatMap (refsAt g)
  [mainGlobals, cStatics] ++ (l1 ++ (l2 ++ (l3 ++ (l4 ++ l5))))
def KEv (g : Addr → Option Obj) : PySem.W.Frag := He.frG g (known g)
/-! ### functions -/
abbrev FnA : Type := Option (Str × Str × Arguments × FuncBody × Scope × Addr × List Str × Value × Addr)
def fnA (K : PySem.W.Frag) (a : Addr) : FnA := match K.lookup a with
  | some ⟨_, _, .func fd, _⟩ => some (fd.name, fd.qualname, fd.params, fd.body, fd.scope, fd.globals, fd.closure.map (·.1), fd.defaults, fd.builtins)
  | _ => none
structure DfE where
  at_ : PySem.W.Frag → Addr
  name : Str
  qual : Str
  st : Stmt
  cl : List Str := []
def DfE.val (d : DfE) : FnA := some (d.name, d.qual, defArgs d.st, .stmts (defBody d.st), defScope d.st, mainGlobals, d.cl, .none, builtinsNs)
def DfE.ok (K : PySem.W.Frag) (d : DfE) : Bool := PySem.W.keepIn K (.ref (d.at_ K)) && (match K.lookup (d.at_ K) with
  | some ⟨_, _, .func fd, _⟩ => PySem.W.codeIn K fd.code d.qual
  | _ => false)
theorem DfE.fd {K : PySem.W.Frag} {d : DfE} (e : fnA K (d.at_ K) = d.val) (c : d.ok K = true) : ∃ (oc : Value) (od : Option Addr) (cl : List (Str × Addr)) (kV doc pm : Value) (an : Option Addr) (cdv ct : Value) (osl : Array (Option Value)),
    cl.map (·.1) = d.cl ∧ K.lookup (d.at_ K) = some ⟨oc, od, .func ⟨d.name, d.qual, defArgs d.st, .stmts (defBody d.st), defScope d.st, mainGlobals, cl, .none, kV, doc, pm, an, cdv, ct, builtinsNs⟩, osl⟩ ∧ PySem.W.codeIn K cdv d.qual = true ∧ PySem.W.keepIn K (.ref (d.at_ K)) = true := by
  obtain ⟨kp, c2⟩ := He.ba c
  unfold fnA at e
  cases q : K.lookup (d.at_ K) with
  | none =>
    rw [q] at c2
    cases c2
  | some ob =>
    obtain ⟨oc, od, dt, osl⟩ := ob
    rw [q] at c2 e
    cases dt with
    | func fd =>
      obtain ⟨n1, n2, n3, n4, n5, n6, n7, n8, n9, n10, n11, n12, n13, n14, n15⟩ := fd
      have e2 : (some (n1, n2, n3, n4, n5, n6, n7.map (·.1), n8, n15) : FnA) = some (d.name, d.qual, defArgs d.st, .stmts (defBody d.st), defScope d.st, mainGlobals, d.cl, .none, builtinsNs) := e
      simp only [Option.some.injEq, Prod.mk.injEq] at e2
      obtain ⟨h1, h2, h3, h4, h5, h6, h7, h8, h9⟩ := e2
      subst h1 h2 h3 h4 h5 h6 h8 h9
      exact ⟨oc, od, n7, n9, n10, n11, n12, n13, n14, osl, h7, rfl, c2, kp⟩
    | _ => cases c2
theorem DfE.def_ {K : PySem.W.Frag} {d : DfE} (e : fnA K (d.at_ K) = d.val) (c : d.ok K = true) (h : d.cl = []) : Def K d.name d.qual d.st (d.at_ K) := by
  obtain ⟨oc, od, cl, kV, doc, pm, an, cdv, ct, osl, ec, lk, hcd, kp⟩ := DfE.fd e c
  rw [h] at ec
  obtain rfl : cl = [] := List.map_eq_nil_iff.mp ec
  exact ⟨⟨oc, od, kV, doc, pm, an, cdv, ct, osl, lk, hcd⟩, kp⟩
/-! ### where things stand -/
abbrev gaF (x : Str) : PySem.W.Frag → Addr := fun K => He.ga K x
abbrev maF (C m : Str) : PySem.W.Frag → Addr := fun K => He.ma K (He.ga K C) m
/-- a property's getter -/
def getF (C f : Str) : PySem.W.Frag → Addr := fun K => match PySem.W.recIn K (He.ma K (He.ga K C) f) "property" with
  | some (.ref g :: _) => g
  | _ => 0
theorem getF_ok {K : PySem.W.Frag} {C f : Str} (h : (match PySem.W.recIn K (He.ma K (He.ga K C) f) "property" with | some (.ref _ :: _) => true | _ => false) = true) : ∃ rest, PySem.W.recIn K (He.ma K (He.ga K C) f) "property" = some (.ref (getF C f K) :: rest) := by
  unfold getF
  split at h
  · rename_i g r e
    rw [e]; exact ⟨r, rfl⟩
  · cases h
def adr (K : PySem.W.Frag) : Adr where
  is_between := gaF "is_between" K
  need_between := gaF "need_between" K
  is_tuple := gaF "is_tuple" K
  is_pair := gaF "is_pair" K
  is_resource := gaF "is_resource" K
  fits := gaF "fits" K
  is_instruction := gaF "is_instruction" K
  is_body := gaF "is_body" K
  is_forever := gaF "is_forever" K
  is_script := gaF "is_script" K
  held_after := gaF "held_after" K
  time_of := gaF "time_of" K
  is_sound := gaF "is_sound" K
  has_parts := gaF "has_parts" K
  is_model := gaF "is_model" K
  need_model := gaF "need_model" K
  need_index := gaF "need_index" K
  Request___init__ := maF "Request" "__init__" K
  Line___init__ := maF "RankLine" "__init__" K
  Line_urgency := maF "Line" "urgency" K
  Line_free := getF "RankLine" "free" K
  Line_in_order := maF "RankLine" "in_order" K
  Line_added := maF "RankLine" "added" K
  Line_asked := maF "RankLine" "asked" K
  Line_last_of := maF "RankLine" "last_of" K
  Line_ended := maF "RankLine" "ended" K
  RankLine_urgency := maF "RankLine" "urgency" K
  PreemptLine_chosen := maF "PreemptLine" "chosen" K
  PreemptLine_taken_over := maF "PreemptLine" "taken_over" K
  line_of := gaF "line_of" K
  Run___init__ := maF "Run" "__init__" K
  Run_schedule := maF "Run" "schedule" K
  Run_unschedule := maF "Run" "unschedule" K
  Run_first_time := maF "Run" "first_time" K
  Run_tell := maF "Run" "tell" K
  Run_step := maF "Run" "step" K
  Run_proceed := maF "Run" "proceed" K
  Run_unfold := maF "Run" "unfold" K
  Run_sleep := maF "Run" "sleep" K
  Run_continue_now := maF "Run" "continue_now" K
  Run_block := maF "Run" "block" K
  Run_wait := maF "Run" "wait" K
  Run_sleepers := maF "Run" "sleepers" K
  Run_begin_hold := maF "Run" "begin_hold" K
  Run_end_hold := maF "Run" "end_hold" K
  Run_take := maF "Run" "take" K
  Run_give := maF "Run" "give" K
  Run_rouse := maF "Run" "rouse" K
  trace_of := gaF "trace_of" K
  trace := gaF "trace" K
  own_trace := gaF "own_trace" K
  _law_cell_at := gaF "_law_cell_at" K
  _law_pen := gaF "_law_pen" K
  _law_draw := gaF "_law_draw" K
  _law_pick := gaF "_law_pick" K
  _law_same := gaF "_law_same" K
  _law_part := gaF "_law_part" K
  _law_body := gaF "_law_body" K
  _law_script := gaF "_law_script" K
  _law_model := gaF "_law_model" K
  _law_plan := gaF "_law_plan" K
  _law_tell := gaF "_law_tell" K
  _law_go_on := gaF "_law_go_on" K
  _law_fall_asleep := gaF "_law_fall_asleep" K
  _law_unplan := gaF "_law_unplan" K
  _law_sleepers := gaF "_law_sleepers" K
  _law_begun := gaF "_law_begun" K
  _law_first_request := gaF "_law_first_request" K
  _law_take := gaF "_law_take" K
  _law_give := gaF "_law_give" K
  _law_rouse := gaF "_law_rouse" K
  _law_proceed := gaF "_law_proceed" K
  _law_run := gaF "_law_run" K
  _law_events := gaF "_law_events" K
  _law_traces_agree := gaF "_law_traces_agree" K
  law := gaF "law" K
  Request := gaF "Request" K
  RankLine := gaF "RankLine" K
  PreemptLine := gaF "PreemptLine" K
  Run := gaF "Run" K
  Line_free_p := maF "RankLine" "free" K
  NUMBERS := gaF "NUMBERS" K
  BOUNDS := gaF "BOUNDS" K
  DISCIPLINES := gaF "DISCIPLINES" K
  READY := gaF "READY" K
  FINISHED := gaF "FINISHED" K
def fns0 : List DfE := [
  ⟨gaF "is_between", "is_between", "is_between", s_is_between, []⟩,
  ⟨gaF "need_between", "need_between", "need_between", s_need_between, []⟩,
  ⟨gaF "is_tuple", "is_tuple", "is_tuple", s_is_tuple, []⟩,
  ⟨gaF "is_pair", "is_pair", "is_pair", s_is_pair, []⟩,
  ⟨gaF "is_resource", "is_resource", "is_resource", s_is_resource, []⟩,
  ⟨gaF "fits", "fits", "fits", s_fits, []⟩,
  ⟨gaF "is_instruction", "is_instruction", "is_instruction", s_is_instruction, []⟩,
  ⟨gaF "is_body", "is_body", "is_body", s_is_body, []⟩,
  ⟨gaF "is_forever", "is_forever", "is_forever", s_is_forever, []⟩,
  ⟨gaF "is_script", "is_script", "is_script", s_is_script, []⟩,
  ⟨gaF "held_after", "held_after", "held_after", s_held_after, []⟩,
  ⟨gaF "time_of", "time_of", "time_of", s_time_of, []⟩,
  ⟨gaF "is_sound", "is_sound", "is_sound", s_is_sound, []⟩,
  ⟨gaF "has_parts", "has_parts", "has_parts", s_has_parts, []⟩,
  ⟨gaF "is_model", "is_model", "is_model", s_is_model, []⟩,
  ⟨gaF "need_model", "need_model", "need_model", s_need_model, []⟩,
  ⟨gaF "need_index", "need_index", "need_index", s_need_index, []⟩,
  ⟨maF "Request" "__init__", "__init__", "Request.__init__", s_Request___init__, []⟩,
  ⟨maF "RankLine" "__init__", "__init__", "Line.__init__", s_Line___init__, []⟩,
  ⟨maF "Line" "urgency", "urgency", "Line.urgency", s_Line_urgency, []⟩,
  ⟨getF "RankLine" "free", "free", "Line.free", s_Line_free, []⟩,
  ⟨maF "RankLine" "in_order", "in_order", "Line.in_order", s_Line_in_order, []⟩,
  ⟨maF "RankLine" "added", "added", "Line.added", s_Line_added, []⟩,
  ⟨maF "RankLine" "asked", "asked", "Line.asked", s_Line_asked, []⟩,
  ⟨maF "RankLine" "last_of", "last_of", "Line.last_of", s_Line_last_of, []⟩,
  ⟨maF "RankLine" "ended", "ended", "Line.ended", s_Line_ended, []⟩,
  ⟨maF "RankLine" "urgency", "urgency", "RankLine.urgency", s_RankLine_urgency, ["__class__"]⟩,
  ⟨maF "PreemptLine" "chosen", "chosen", "PreemptLine.chosen", s_PreemptLine_chosen, []⟩,
  ⟨maF "PreemptLine" "taken_over", "taken_over", "PreemptLine.taken_over", s_PreemptLine_taken_over, []⟩,
  ⟨gaF "line_of", "line_of", "line_of", s_line_of, []⟩]
def fns1 : List DfE := [
  ⟨maF "Run" "__init__", "__init__", "Run.__init__", s_Run___init__, []⟩,
  ⟨maF "Run" "schedule", "schedule", "Run.schedule", s_Run_schedule, []⟩,
  ⟨maF "Run" "unschedule", "unschedule", "Run.unschedule", s_Run_unschedule, []⟩,
  ⟨maF "Run" "first_time", "first_time", "Run.first_time", s_Run_first_time, []⟩,
  ⟨maF "Run" "tell", "tell", "Run.tell", s_Run_tell, []⟩,
  ⟨maF "Run" "step", "step", "Run.step", s_Run_step, []⟩,
  ⟨maF "Run" "proceed", "proceed", "Run.proceed", s_Run_proceed, []⟩,
  ⟨maF "Run" "unfold", "unfold", "Run.unfold", s_Run_unfold, []⟩,
  ⟨maF "Run" "sleep", "sleep", "Run.sleep", s_Run_sleep, []⟩,
  ⟨maF "Run" "continue_now", "continue_now", "Run.continue_now", s_Run_continue_now, []⟩,
  ⟨maF "Run" "block", "block", "Run.block", s_Run_block, []⟩,
  ⟨maF "Run" "wait", "wait", "Run.wait", s_Run_wait, []⟩,
  ⟨maF "Run" "sleepers", "sleepers", "Run.sleepers", s_Run_sleepers, []⟩,
  ⟨maF "Run" "begin_hold", "begin_hold", "Run.begin_hold", s_Run_begin_hold, []⟩,
  ⟨maF "Run" "end_hold", "end_hold", "Run.end_hold", s_Run_end_hold, []⟩,
  ⟨maF "Run" "take", "take", "Run.take", s_Run_take, []⟩,
  ⟨maF "Run" "give", "give", "Run.give", s_Run_give, []⟩,
  ⟨maF "Run" "rouse", "rouse", "Run.rouse", s_Run_rouse, []⟩,
  ⟨gaF "trace_of", "trace_of", "trace_of", s_trace_of, []⟩,
  ⟨gaF "trace", "trace", "trace", s_trace, []⟩,
  ⟨gaF "own_trace", "own_trace", "own_trace", s_own_trace, []⟩,
  ⟨gaF "_law_cell_at", "_law_cell_at", "_law_cell_at", s__law_cell_at, []⟩,
  ⟨gaF "_law_pen", "_law_pen", "_law_pen", s__law_pen, []⟩,
  ⟨gaF "_law_draw", "_law_draw", "_law_draw", s__law_draw, []⟩,
  ⟨gaF "_law_pick", "_law_pick", "_law_pick", s__law_pick, []⟩,
  ⟨gaF "_law_same", "_law_same", "_law_same", s__law_same, []⟩,
  ⟨gaF "_law_part", "_law_part", "_law_part", s__law_part, []⟩,
  ⟨gaF "_law_body", "_law_body", "_law_body", s__law_body, []⟩,
  ⟨gaF "_law_script", "_law_script", "_law_script", s__law_script, []⟩,
  ⟨gaF "_law_model", "_law_model", "_law_model", s__law_model, []⟩]
def fns2 : List DfE := [
  ⟨gaF "_law_plan", "_law_plan", "_law_plan", s__law_plan, []⟩,
  ⟨gaF "_law_tell", "_law_tell", "_law_tell", s__law_tell, []⟩,
  ⟨gaF "_law_go_on", "_law_go_on", "_law_go_on", s__law_go_on, []⟩,
  ⟨gaF "_law_fall_asleep", "_law_fall_asleep", "_law_fall_asleep", s__law_fall_asleep, []⟩,
  ⟨gaF "_law_unplan", "_law_unplan", "_law_unplan", s__law_unplan, []⟩,
  ⟨gaF "_law_sleepers", "_law_sleepers", "_law_sleepers", s__law_sleepers, []⟩,
  ⟨gaF "_law_begun", "_law_begun", "_law_begun", s__law_begun, []⟩,
  ⟨gaF "_law_first_request", "_law_first_request", "_law_first_request", s__law_first_request, []⟩,
  ⟨gaF "_law_take", "_law_take", "_law_take", s__law_take, []⟩,
  ⟨gaF "_law_give", "_law_give", "_law_give", s__law_give, []⟩,
  ⟨gaF "_law_rouse", "_law_rouse", "_law_rouse", s__law_rouse, []⟩,
  ⟨gaF "_law_proceed", "_law_proceed", "_law_proceed", s__law_proceed, []⟩,
  ⟨gaF "_law_run", "_law_run", "_law_run", s__law_run, []⟩,
  ⟨gaF "_law_events", "_law_events", "_law_events", s__law_events, []⟩,
  ⟨gaF "_law_traces_agree", "_law_traces_agree", "_law_traces_agree", s__law_traces_agree, []⟩,
  ⟨gaF "law", "law", "law", s_law, []⟩]
def fns : List DfE := fns0 ++ (fns1 ++ (fns2))
def fas0 : List He.Fa := [
  .glo "is_between", .glo "need_between", .glo "is_tuple", .glo "is_pair", .glo "is_resource", .glo "fits",
  .glo "is_instruction", .glo "is_body", .glo "is_forever", .glo "is_script", .glo "held_after", .glo "time_of",
  .glo "is_sound", .glo "has_parts", .glo "is_model", .glo "need_model", .glo "need_index", .glo "line_of",
  .glo "trace_of", .glo "trace", .glo "own_trace", .glo "_law_cell_at", .glo "_law_pen", .glo "_law_draw",
  .glo "_law_pick", .glo "_law_same", .glo "_law_part", .glo "_law_body", .glo "_law_script", .glo "_law_model",
  .glo "_law_plan", .glo "_law_tell", .glo "_law_go_on", .glo "_law_fall_asleep", .glo "_law_unplan", .glo "_law_sleepers",
  .glo "_law_begun", .glo "_law_first_request", .glo "_law_take", .glo "_law_give"]
def fas1 : List He.Fa := [
  .glo "_law_rouse", .glo "_law_proceed", .glo "_law_run", .glo "_law_events", .glo "_law_traces_agree", .glo "law",
  .glo "Request", .cls "Request", .mkr "Request", .glo "RankLine", .cls "RankLine", .mkr "RankLine",
  .glo "PreemptLine", .cls "PreemptLine", .mkr "PreemptLine", .glo "Run", .cls "Run", .mkr "Run",
  .noat "Request" "process", .noat "Request" "rank", .noat "Request" "number", .noat "Request" "holds", .noat "RankLine" "units", .noat "RankLine" "requests",
  .noat "RankLine" "count", .meth "RankLine" "in_order", .meth "RankLine" "added", .meth "RankLine" "asked", .meth "RankLine" "last_of", .meth "RankLine" "ended",
  .meth "RankLine" "urgency", .noat "PreemptLine" "units", .noat "PreemptLine" "requests", .noat "PreemptLine" "count", .meth "PreemptLine" "in_order", .meth "PreemptLine" "added",
  .meth "PreemptLine" "asked", .meth "PreemptLine" "last_of", .meth "PreemptLine" "ended", .meth "PreemptLine" "urgency"]
def fas2 : List He.Fa := [
  .meth "PreemptLine" "chosen", .meth "PreemptLine" "taken_over", .noat "Run" "model", .noat "Run" "clock", .noat "Run" "removed", .noat "Run" "numbered",
  .noat "Run" "agenda", .noat "Run" "log", .noat "Run" "passes", .noat "Run" "periods", .noat "Run" "lines", .noat "Run" "contents",
  .noat "Run" "getters", .noat "Run" "putters", .noat "Run" "gates", .noat "Run" "passers", .noat "Run" "states", .noat "Run" "rests",
  .noat "Run" "since", .noat "Run" "until", .meth "Run" "schedule", .meth "Run" "unschedule", .meth "Run" "first_time", .meth "Run" "tell",
  .meth "Run" "step", .meth "Run" "proceed", .meth "Run" "unfold", .meth "Run" "sleep", .meth "Run" "continue_now", .meth "Run" "block",
  .meth "Run" "wait", .meth "Run" "sleepers", .meth "Run" "begin_hold", .meth "Run" "end_hold", .meth "Run" "take", .meth "Run" "give",
  .meth "Run" "rouse", .free "len", .free "isinstance", .free "all"]
def fas3 : List He.Fa := [
  .free "sorted", .free "min", .free "max", .free "tuple", .free "list", .free "range",
  .free "enumerate", .free "zip", .free "repr", .free "int", .free "str", .free "bool",
  .free "super", .int "MOST_UNITS" 3, .int "MOST_RANK" 9, .int "MOST_TIMES" 5, .int "MOST_DEPTH" 3, .int "MOST_RESOURCES" 4,
  .int "MOST_STORES" 3, .int "MOST_GATES" 3, .int "MOST_SCRIPTS" 6, .int "SCRIPTS" 3, .int "MOST_TIME" 200, .int "MOST_EVENTS" 3000,
  .str "ASLEEP" "asleep", .str "SUSPENDED" "suspended", .str "REFERENCES" "rsgp", .glo "DISCIPLINES", .glo "READY", .glo "FINISHED",
  .glo "NUMBERS", .glo "BOUNDS"]
def fas : List He.Fa := fas0 ++ (fas1 ++ (fas2 ++ (fas3)))
abbrev adr0 (C m : Str) : PySem.W.Frag → Addr := fun K => He.ma K (He.ga K C) m
/-- RankLine.urgency: its code is of the one file, its cell holds the class -/
def supB (K : PySem.W.Frag) : Bool := match K.lookup (maF "RankLine" "urgency" K) with
  | some ⟨_, _, .func fd, _⟩ => (match fd.closure with
    | [(x, cc)] => decide (x = "__class__") && ((match K.lookup cc with
      | some ⟨_, _, .cell (some (.ref D)), _⟩ => decide (D = He.ga K "RankLine")
      | _ => false) && (match fd.code with
      | .ref cda => (match K.lookup cda with
        | some ⟨_, _, .fields vs, _⟩ => (match (vs[2]? : Option Value) with
          | some (Value.str file _) => (PP.main.file : Str) == file
          | _ => false)
        | _ => false)
      | _ => false))
    | _ => false)
  | _ => false
def mos0 : List (PySem.W.Frag → Bool) := [
  fun K => decide ((adr0 "PreemptLine" "__init__") K = (adr0 "RankLine" "__init__") K),
  fun K => decide ((adr0 "PreemptLine" "in_order") K = (adr0 "RankLine" "in_order") K),
  fun K => decide ((adr0 "PreemptLine" "added") K = (adr0 "RankLine" "added") K),
  fun K => decide ((adr0 "PreemptLine" "asked") K = (adr0 "RankLine" "asked") K),
  fun K => decide ((adr0 "PreemptLine" "last_of") K = (adr0 "RankLine" "last_of") K),
  fun K => decide ((adr0 "PreemptLine" "ended") K = (adr0 "RankLine" "ended") K),
  fun K => decide ((adr0 "PreemptLine" "urgency") K = (adr0 "RankLine" "urgency") K),
  fun K => decide ((adr0 "PreemptLine" "free") K = (adr0 "RankLine" "free") K),
  fun K => He.eqO (PySem.W.specialIn K (.ref ((maF "RankLine" "urgency") K)) "__get__") (some (some (.builtin "function.__get__"))),
  fun K => decide (PySem.W.takesIn K (.ref ((maF "RankLine" "urgency") K)) = some false),
  fun K => PySem.W.fnIn K ((maF "RankLine" "urgency") K),
  fun K => He.eqO (PySem.W.specialIn K (.ref ((maF "Run" "wait") K)) "__get__") (some (some (.builtin "function.__get__"))),
  fun K => decide (PySem.W.takesIn K (.ref ((maF "Run" "wait") K)) = some false),
  fun K => PySem.W.fnIn K ((maF "Run" "wait") K),
  fun K => He.eqO (PySem.W.specialIn K (.ref ((maF "Run" "take") K)) "__get__") (some (some (.builtin "function.__get__"))),
  fun K => decide (PySem.W.takesIn K (.ref ((maF "Run" "take") K)) = some false),
  fun K => PySem.W.fnIn K ((maF "Run" "take") K),
  fun K => He.eqO (PySem.W.specialIn K (.ref ((maF "Run" "give") K)) "__get__") (some (some (.builtin "function.__get__"))),
  fun K => decide (PySem.W.takesIn K (.ref ((maF "Run" "give") K)) = some false),
  fun K => PySem.W.fnIn K ((maF "Run" "give") K)]
def mos1 : List (PySem.W.Frag → Bool) := [
  fun K => He.eqO (PySem.W.specialIn K (.ref ((maF "Run" "rouse") K)) "__get__") (some (some (.builtin "function.__get__"))),
  fun K => decide (PySem.W.takesIn K (.ref ((maF "Run" "rouse") K)) = some false),
  fun K => PySem.W.fnIn K ((maF "Run" "rouse") K),
  fun K => He.eqO (PySem.W.specialIn K (.ref ((maF "Run" "unfold") K)) "__get__") (some (some (.builtin "function.__get__"))),
  fun K => decide (PySem.W.takesIn K (.ref ((maF "Run" "unfold") K)) = some false),
  fun K => PySem.W.fnIn K ((maF "Run" "unfold") K),
  fun K => He.conB K "RankLine" "MOST_UNITS" (.int 3),
  fun K => He.eqO (PySem.W.findIn K (.ref (He.ga K "RankLine")) "free") (some (some (.ref (maF "RankLine" "free" K)))),
  fun K => He.eqO (PySem.W.ks_superIn K (He.ga K "RankLine") (He.ga K "RankLine") "urgency") (some (some (.ref (maF "Line" "urgency" K)))),
  fun K => decide (PySem.W.mroIn K (He.ga K "RankLine") (.ref (He.ga K "RankLine")) = some true),
  fun K => (PySem.W.clsIn K (He.ga K "RankLine")).isSome,
  fun K => He.conB K "PreemptLine" "MOST_UNITS" (.int 3),
  fun K => He.eqO (PySem.W.findIn K (.ref (He.ga K "PreemptLine")) "free") (some (some (.ref (maF "RankLine" "free" K)))),
  fun K => He.eqO (PySem.W.ks_superIn K (He.ga K "PreemptLine") (He.ga K "RankLine") "urgency") (some (some (.ref (maF "Line" "urgency" K)))),
  fun K => decide (PySem.W.mroIn K (He.ga K "PreemptLine") (.ref (He.ga K "RankLine")) = some true),
  fun K => (PySem.W.clsIn K (He.ga K "PreemptLine")).isSome,
  fun K => He.eqO (PySem.W.specialIn K (.ref (maF "RankLine" "free" K)) "__get__") (some (some (.builtin "property.__get__"))),
  fun K => decide (PySem.W.takesIn K (.ref (maF "RankLine" "free" K)) = some true),
  fun K => match PySem.W.recIn K (He.ma K (He.ga K "RankLine") "free") "property" with | some (.ref _ :: _) => true | _ => false,
  fun K => He.tupB K "DISCIPLINES" [.str "fifo", .str "rank", .str "preempt"]]
def mos2 : List (PySem.W.Frag → Bool) := [
  fun K => He.tupB K "READY" [.str "ready"],
  fun K => He.tupB K "FINISHED" [.str "finished"],
  fun K => He.valsB K (He.ga K "NUMBERS") [("wait", .str "d"), ("take", .str "rk"), ("give", .str "r"), ("rouse", .str "p")],
  fun K => He.eqO (PySem.W.nsIn K (He.ga K "NUMBERS") "forever") (some none),
  fun K => He.valsB K (He.ga K "BOUNDS") [("d", .non), ("k", .int 9)],
  fun K => decide (PySem.W.typeIn K (.ref (maF "Line" "urgency" K)) = some (.type "function")),
  fun K => PySem.W.fnIn K (maF "Line" "urgency" K),
  fun K => He.eqO (PySem.W.nsIn K cStatics "thirdparty.any") (some none),
  fun K => supB K]
def mos : List (PySem.W.Frag → Bool) := mos0 ++ (mos1 ++ (mos2))
def tbs : List He.Tab := [(gaF "NUMBERS", ["wait", "take", "give", "put", "get", "pass", "open", "shut", "rouse", "mark"]), (gaF "BOUNDS", ["d", "k", "i", "n"])]
/-! ### the Hook -/
abbrev AlE : Type := (Bool × Bool × Bool) × List FnA × List (Option (List (Option (Str × Int))))
def obsK (K : PySem.W.Frag) : AlE := ((fas.all fun f => f.ok K, mos.all fun b => b K, fns.all fun d => d.ok K), fns.map fun d => fnA K (d.at_ K), tbs.map fun t => He.dicW K (t.1 K))
def valE (w : World) : AlE := ((true, true, true), fns.map DfE.val, tbs.map fun t => some (He.keysIn w.params t.2))
def hookEv : PySem.W.Hook where
  α := AlE
  obs := fun s => obsK (KEv s.heap.get?)
  val := valE
  says := fun w h => ∃ K : PySem.W.Frag, K.In h ∧ obsK K = valE w
  of := fun _ _ e => ⟨_, He.frG_in, e⟩
  keeps := fun _ _ _ ⟨K, hK, c⟩ k => ⟨K, PySem.W.Frag.In.keeps hK k, c⟩
def obEv (s : PySem.W.SharedT) : AlE := obsK (KEv (HandSHeadRun.getT s))
theorem obEv_eq (s : PySem.W.SharedT) : obEv s = hookEv.obs s.abs := by
  have e : HandSHeadRun.getT s = s.abs.heap.get? := funext (HandSHeadRun.getT_eq s)
  show obsK (KEv (HandSHeadRun.getT s)) = obsK (KEv s.abs.heap.get?)
  rw [e]
section
variable {w : World} {K : PySem.W.Frag} (c : obsK K = valE w)
include c
theorem said_fa (i : Nat) {f : He.Fa} (h : fas[i]? = some f := by rfl) : f.ok K = true :=
  List.all_eq_true.mp (congrArg (fun z : AlE => z.1.1) c : (fas.all fun f => f.ok K) = true) f (List.mem_of_getElem? h)
theorem said_mo (i : Nat) {b : PySem.W.Frag → Bool} (h : mos[i]? = some b := by rfl) : b K = true :=
  List.all_eq_true.mp (congrArg (fun z : AlE => z.1.2.1) c : (mos.all fun b => b K) = true) b (List.mem_of_getElem? h)
theorem said_fn (i : Nat) {d : DfE} (h : fns[i]? = some d := by rfl) : fnA K (d.at_ K) = d.val ∧ d.ok K = true := by
  refine ⟨?_, List.all_eq_true.mp (congrArg (fun z : AlE => z.1.2.2) c : (fns.all fun d => d.ok K) = true) d (List.mem_of_getElem? h)⟩
  have e : fns.map (fun d => fnA K (d.at_ K)) = fns.map DfE.val := congrArg (fun z : AlE => z.2.1) c
  have e2 : (fns.map fun d => fnA K (d.at_ K))[i]? = (fns.map DfE.val)[i]? := by rw [e]
  rw [List.getElem?_map, List.getElem?_map, h] at e2
  exact Option.some.inj e2
theorem said_def (i : Nat) {d : DfE} (h : fns[i]? = some d := by rfl) (hc : d.cl = [] := by rfl) : Def K d.name d.qual d.st (d.at_ K) := DfE.def_ (said_fn c i h).1 (said_fn c i h).2 hc
theorem said_tb (i : Nat) {t : He.Tab} (h : tbs[i]? = some t := by rfl) : ∃ es n, L2.KDict K w (t.1 K) es n := by
  have e : tbs.map (fun t => He.dicW K (t.1 K)) = tbs.map fun t => some (He.keysIn w.params t.2) := congrArg (fun z : AlE => z.2.2) c
  have e2 : (tbs.map fun t => He.dicW K (t.1 K))[i]? = (tbs.map fun t => some (He.keysIn w.params t.2))[i]? := by rw [e]
  rw [List.getElem?_map, List.getElem?_map, h] at e2
  exact He.dicW_ok (Option.some.inj e2)
end
theorem sup_ok {K : PySem.W.Frag} {d : DfE} (hd : d = ⟨maF "RankLine" "urgency", "urgency", "RankLine.urgency", s_RankLine_urgency, ["__class__"]⟩) (e : fnA K (d.at_ K) = d.val) (c : d.ok K = true) (h : supB K = true) : SupD K "urgency" "RankLine.urgency" s_RankLine_urgency (maF "RankLine" "urgency" K) (He.ga K "RankLine") := by
  obtain ⟨oc, od, cl, kV, doc, pm, an, cdv, ct, osl, ec, lk, hcd, kp⟩ := DfE.fd e c
  subst hd
  unfold supB at h
  have lk : K.lookup (maF "RankLine" "urgency" K) = _ := lk
  rw [lk] at h
  have ec : cl.map (·.1) = (["__class__"] : List Str) := ec
  match cl, ec, h with
  | [(x, cc)], ec, h =>
    obtain rfl : x = "__class__" := by simpa using ec
    obtain ⟨_, h2⟩ := He.ba h
    obtain ⟨h3, h4⟩ := He.ba h2
    cases cdv with
    | ref cda =>
      have h3 : (match K.lookup cc with | some ⟨_, _, .cell (some (.ref D)), _⟩ => decide (D = He.ga K "RankLine") | _ => false) = true := h3
      have h4 : (match K.lookup cda with | some ⟨_, _, .fields vs, _⟩ => (match (vs[2]? : Option Value) with | some (Value.str file _) => (PP.main.file : Str) == file | _ => false) | _ => false) = true := h4
      refine ⟨⟨oc, od, kV, doc, pm, an, cda, cc, ct, osl, lk, hcd, ?_, ?_⟩, kp⟩
      · cases q : K.lookup cda with
        | none => rw [q] at h4; cases h4
        | some ob =>
          obtain ⟨c1, c2, c3, c4⟩ := ob
          rw [q] at h4
          cases c3 with
          | fields vs =>
            cases q2 : vs[2]? with
            | none =>
              have h4 : (match (vs[2]? : Option Value) with | some (Value.str file _) => (PP.main.file : Str) == file | _ => false) = true := h4
              rw [q2] at h4; cases h4
            | some u =>
              have h4 : (match (vs[2]? : Option Value) with | some (Value.str file _) => (PP.main.file : Str) == file | _ => false) = true := h4
              rw [q2] at h4
              cases u with
              | str file tf => exact ⟨c1, c2, vs, c4, file, tf, rfl, q2, h4⟩
              | _ => cases h4
          | _ => cases h4
      · cases q : K.lookup cc with
        | none => rw [q] at h3; cases h3
        | some ob =>
          obtain ⟨c1, c2, c3, c4⟩ := ob
          rw [q] at h3
          cases c3 with
          | cell v =>
            cases v with
            | none => cases h3
            | some u =>
              cases u with
              | ref D =>
                have h3 : decide (D = He.ga K "RankLine") = true := h3
                rw [of_decide_eq_true h3]
                exact ⟨c1, c2, c4, rfl⟩
              | _ => cases h3
          | _ => cases h3
    | _ => cases h4
theorem tup_ok {K : PySem.W.Frag} {x : Str} {vs : List He.Dv} (h : He.tupB K x vs = true) : ∃ (ob : Obj) (its : Array Value) (n : Nat), K.lookup (He.ga K x) = some ob ∧ ob.cls = .type "tuple" ∧ ob.data = .seq its n ∧ its.size ≤ sizeLine ∧ Vals (vs.map (He.Dv.v K)) its.toList := by
  rcases He.tupB_ok h (fun _ => none) with (z | ⟨_, z⟩) | z
  · cases z
  · cases z
  · exact z
theorem to_txt {w : World} {K : PySem.W.Frag} {h : Heap} {mg : Str → Option Value} (X : K.In h) (G : h.Ns mainGlobals mg) (c : obsK K = valE w) : Txt K mg w (adr K) := by
  have gl : ∀ {x : Str}, (He.Fa.glo x).ok K = true → ∃ u, mg x = some u ∧ RelV (.ref (He.ga K x)) u := fun hx => ⟨_, He.glo_ok X G hx, rfl⟩
  have it : ∀ {x : Str} {i : Int}, (He.Fa.int x i).ok K = true → ∃ u, mg x = some u ∧ RelV (.int i) u := fun hx => let ⟨t, e⟩ := He.int_ok X G hx; ⟨_, e, t, rfl⟩
  have st : ∀ {x z : Str}, (He.Fa.str x z).ok K = true → ∃ u, mg x = some u ∧ RelV (.str z) u := fun hx => let ⟨t, e⟩ := He.str_ok X G hx; ⟨_, e, t, rfl⟩
  have bm : ∀ {C m : Str}, (He.Fa.meth C m).ok K = true → He.eqO (PySem.W.specialIn K (.ref (maF C m K)) "__get__") (some (some (.builtin "function.__get__"))) = true → decide (PySem.W.takesIn K (.ref (maF C m K)) = some false) = true → PySem.W.fnIn K (maF C m K) = true → PySem.W.copiedNames.contains m = false → BMeth K (He.ga K C) m (maF C m K) :=
    fun h1 h2 h3 h4 h5 => ⟨He.meth_ok h1, He.eqO_ok h2, of_decide_eq_true h3, h5, h4⟩
  have eqP : ∀ {m : Str}, decide (adr0 "PreemptLine" m K = adr0 "RankLine" m K) = true → adr0 "PreemptLine" m K = adr0 "RankLine" m K := fun z => of_decide_eq_true z
  have mP : ∀ {m : Str}, decide (adr0 "PreemptLine" m K = adr0 "RankLine" m K) = true → Meth K (He.ga K "PreemptLine") m (adr0 "PreemptLine" m K) → Meth K (He.ga K "PreemptLine") m (adr0 "RankLine" m K) := fun z h => by rw [eqP z] at h; exact h
  have kP : decide (adr0 "PreemptLine" "__init__" K = adr0 "RankLine" "__init__" K) = true → Mk K (He.ga K "PreemptLine") (adr0 "PreemptLine" "__init__" K) → Mk K (He.ga K "PreemptLine") (adr0 "RankLine" "__init__" K) := fun z h => by rw [eqP z] at h; exact h
  exact {
    d_is_between := said_def c 0
    g_is_between := He.glo_ok X G (said_fa c 0)
    d_need_between := said_def c 1
    g_need_between := He.glo_ok X G (said_fa c 1)
    d_is_tuple := said_def c 2
    g_is_tuple := He.glo_ok X G (said_fa c 2)
    d_is_pair := said_def c 3
    g_is_pair := He.glo_ok X G (said_fa c 3)
    d_is_resource := said_def c 4
    g_is_resource := He.glo_ok X G (said_fa c 4)
    d_fits := said_def c 5
    g_fits := He.glo_ok X G (said_fa c 5)
    d_is_instruction := said_def c 6
    g_is_instruction := He.glo_ok X G (said_fa c 6)
    d_is_body := said_def c 7
    g_is_body := He.glo_ok X G (said_fa c 7)
    d_is_forever := said_def c 8
    g_is_forever := He.glo_ok X G (said_fa c 8)
    d_is_script := said_def c 9
    g_is_script := He.glo_ok X G (said_fa c 9)
    d_held_after := said_def c 10
    g_held_after := He.glo_ok X G (said_fa c 10)
    d_time_of := said_def c 11
    g_time_of := He.glo_ok X G (said_fa c 11)
    d_is_sound := said_def c 12
    g_is_sound := He.glo_ok X G (said_fa c 12)
    d_has_parts := said_def c 13
    g_has_parts := He.glo_ok X G (said_fa c 13)
    d_is_model := said_def c 14
    g_is_model := He.glo_ok X G (said_fa c 14)
    d_need_model := said_def c 15
    g_need_model := He.glo_ok X G (said_fa c 15)
    d_need_index := said_def c 16
    g_need_index := He.glo_ok X G (said_fa c 16)
    d_Request___init__ := said_def c 17
    d_Line___init__ := said_def c 18
    d_Line_urgency := said_def c 19
    d_Line_free := said_def c 20
    d_Line_in_order := said_def c 21
    d_Line_added := said_def c 22
    d_Line_asked := said_def c 23
    d_Line_last_of := said_def c 24
    d_Line_ended := said_def c 25
    d_RankLine_urgency := sup_ok rfl (said_fn c 26).1 (said_fn c 26).2 (said_mo c 48)
    d_PreemptLine_chosen := said_def c 27
    d_PreemptLine_taken_over := said_def c 28
    d_line_of := said_def c 29
    g_line_of := He.glo_ok X G (said_fa c 17)
    d_Run___init__ := said_def c 30
    d_Run_schedule := said_def c 31
    d_Run_unschedule := said_def c 32
    d_Run_first_time := said_def c 33
    d_Run_tell := said_def c 34
    d_Run_step := said_def c 35
    d_Run_proceed := said_def c 36
    d_Run_unfold := said_def c 37
    d_Run_sleep := said_def c 38
    d_Run_continue_now := said_def c 39
    d_Run_block := said_def c 40
    d_Run_wait := said_def c 41
    d_Run_sleepers := said_def c 42
    d_Run_begin_hold := said_def c 43
    d_Run_end_hold := said_def c 44
    d_Run_take := said_def c 45
    d_Run_give := said_def c 46
    d_Run_rouse := said_def c 47
    d_trace_of := said_def c 48
    g_trace_of := He.glo_ok X G (said_fa c 18)
    d_trace := said_def c 49
    g_trace := He.glo_ok X G (said_fa c 19)
    d_own_trace := said_def c 50
    g_own_trace := He.glo_ok X G (said_fa c 20)
    d__law_cell_at := said_def c 51
    g__law_cell_at := He.glo_ok X G (said_fa c 21)
    d__law_pen := said_def c 52
    g__law_pen := He.glo_ok X G (said_fa c 22)
    d__law_draw := said_def c 53
    g__law_draw := He.glo_ok X G (said_fa c 23)
    d__law_pick := said_def c 54
    g__law_pick := He.glo_ok X G (said_fa c 24)
    d__law_same := said_def c 55
    g__law_same := He.glo_ok X G (said_fa c 25)
    d__law_part := said_def c 56
    g__law_part := He.glo_ok X G (said_fa c 26)
    d__law_body := said_def c 57
    g__law_body := He.glo_ok X G (said_fa c 27)
    d__law_script := said_def c 58
    g__law_script := He.glo_ok X G (said_fa c 28)
    d__law_model := said_def c 59
    g__law_model := He.glo_ok X G (said_fa c 29)
    d__law_plan := said_def c 60
    g__law_plan := He.glo_ok X G (said_fa c 30)
    d__law_tell := said_def c 61
    g__law_tell := He.glo_ok X G (said_fa c 31)
    d__law_go_on := said_def c 62
    g__law_go_on := He.glo_ok X G (said_fa c 32)
    d__law_fall_asleep := said_def c 63
    g__law_fall_asleep := He.glo_ok X G (said_fa c 33)
    d__law_unplan := said_def c 64
    g__law_unplan := He.glo_ok X G (said_fa c 34)
    d__law_sleepers := said_def c 65
    g__law_sleepers := He.glo_ok X G (said_fa c 35)
    d__law_begun := said_def c 66
    g__law_begun := He.glo_ok X G (said_fa c 36)
    d__law_first_request := said_def c 67
    g__law_first_request := He.glo_ok X G (said_fa c 37)
    d__law_take := said_def c 68
    g__law_take := He.glo_ok X G (said_fa c 38)
    d__law_give := said_def c 69
    g__law_give := He.glo_ok X G (said_fa c 39)
    d__law_rouse := said_def c 70
    g__law_rouse := He.glo_ok X G (said_fa c 40)
    d__law_proceed := said_def c 71
    g__law_proceed := He.glo_ok X G (said_fa c 41)
    d__law_run := said_def c 72
    g__law_run := He.glo_ok X G (said_fa c 42)
    d__law_events := said_def c 73
    g__law_events := He.glo_ok X G (said_fa c 43)
    d__law_traces_agree := said_def c 74
    g__law_traces_agree := He.glo_ok X G (said_fa c 44)
    d_law := said_def c 75
    g_Request := He.glo_ok X G (said_fa c 46)
    c_Request := He.cls_ok (said_fa c 47)
    k_Request := He.mkr_ok (said_fa c 48)
    g_RankLine := He.glo_ok X G (said_fa c 49)
    c_RankLine := He.cls_ok (said_fa c 50)
    k_RankLine := He.mkr_ok (said_fa c 51)
    g_PreemptLine := He.glo_ok X G (said_fa c 52)
    c_PreemptLine := He.cls_ok (said_fa c 53)
    k_PreemptLine := kP (said_mo c 0) (He.mkr_ok (said_fa c 54))
    g_Run := He.glo_ok X G (said_fa c 55)
    c_Run := He.cls_ok (said_fa c 56)
    k_Run := He.mkr_ok (said_fa c 57)
    n_Request_process := He.noat_ok (said_fa c 58)
    n_Request_rank := He.noat_ok (said_fa c 59)
    n_Request_number := He.noat_ok (said_fa c 60)
    n_Request_holds := He.noat_ok (said_fa c 61)
    n_RankLine_units := He.noat_ok (said_fa c 62)
    n_RankLine_requests := He.noat_ok (said_fa c 63)
    n_RankLine_count := He.noat_ok (said_fa c 64)
    n_RankLine_MOST := He.conB_ok (said_mo c 26)
    e_RankLine_in_order := He.meth_ok (said_fa c 65)
    e_RankLine_added := He.meth_ok (said_fa c 66)
    e_RankLine_asked := He.meth_ok (said_fa c 67)
    e_RankLine_last_of := He.meth_ok (said_fa c 68)
    e_RankLine_ended := He.meth_ok (said_fa c 69)
    e_RankLine_urgency := bm (said_fa c 70) (said_mo c 8) (said_mo c 9) (said_mo c 10) (by decide)
    e_RankLine_free := ⟨He.eqO_ok (said_mo c 27), He.eqO_ok (said_mo c 36), of_decide_eq_true (said_mo c 37), getF_ok (said_mo c 38)⟩
    n_PreemptLine_units := He.noat_ok (said_fa c 71)
    n_PreemptLine_requests := He.noat_ok (said_fa c 72)
    n_PreemptLine_count := He.noat_ok (said_fa c 73)
    n_PreemptLine_MOST := He.conB_ok (said_mo c 31)
    e_PreemptLine_in_order := mP (said_mo c 1) (He.meth_ok (said_fa c 74))
    e_PreemptLine_added := mP (said_mo c 2) (He.meth_ok (said_fa c 75))
    e_PreemptLine_asked := mP (said_mo c 3) (He.meth_ok (said_fa c 76))
    e_PreemptLine_last_of := mP (said_mo c 4) (He.meth_ok (said_fa c 77))
    e_PreemptLine_ended := mP (said_mo c 5) (He.meth_ok (said_fa c 78))
    e_PreemptLine_urgency := ⟨mP (said_mo c 6) (He.meth_ok (said_fa c 79)), He.eqO_ok (said_mo c 8), of_decide_eq_true (said_mo c 9), (by decide), (said_mo c 10)⟩
    e_PreemptLine_free := ⟨He.eqO_ok (said_mo c 32), He.eqO_ok (said_mo c 36), of_decide_eq_true (said_mo c 37), getF_ok (said_mo c 38)⟩
    e_PreemptLine_chosen := He.meth_ok (said_fa c 80)
    e_PreemptLine_taken_over := He.meth_ok (said_fa c 81)
    n_Run_model := He.noat_ok (said_fa c 82)
    n_Run_clock := He.noat_ok (said_fa c 83)
    n_Run_removed := He.noat_ok (said_fa c 84)
    n_Run_numbered := He.noat_ok (said_fa c 85)
    n_Run_agenda := He.noat_ok (said_fa c 86)
    n_Run_log := He.noat_ok (said_fa c 87)
    n_Run_passes := He.noat_ok (said_fa c 88)
    n_Run_periods := He.noat_ok (said_fa c 89)
    n_Run_lines := He.noat_ok (said_fa c 90)
    n_Run_contents := He.noat_ok (said_fa c 91)
    n_Run_getters := He.noat_ok (said_fa c 92)
    n_Run_putters := He.noat_ok (said_fa c 93)
    n_Run_gates := He.noat_ok (said_fa c 94)
    n_Run_passers := He.noat_ok (said_fa c 95)
    n_Run_states := He.noat_ok (said_fa c 96)
    n_Run_rests := He.noat_ok (said_fa c 97)
    n_Run_since := He.noat_ok (said_fa c 98)
    n_Run_until := He.noat_ok (said_fa c 99)
    e_Run_schedule := He.meth_ok (said_fa c 100)
    e_Run_unschedule := He.meth_ok (said_fa c 101)
    e_Run_first_time := He.meth_ok (said_fa c 102)
    e_Run_tell := He.meth_ok (said_fa c 103)
    e_Run_step := He.meth_ok (said_fa c 104)
    e_Run_proceed := He.meth_ok (said_fa c 105)
    e_Run_unfold := bm (said_fa c 106) (said_mo c 23) (said_mo c 24) (said_mo c 25) (by decide)
    e_Run_sleep := He.meth_ok (said_fa c 107)
    e_Run_continue_now := He.meth_ok (said_fa c 108)
    e_Run_block := He.meth_ok (said_fa c 109)
    e_Run_wait := bm (said_fa c 110) (said_mo c 11) (said_mo c 12) (said_mo c 13) (by decide)
    e_Run_sleepers := He.meth_ok (said_fa c 111)
    e_Run_begin_hold := He.meth_ok (said_fa c 112)
    e_Run_end_hold := He.meth_ok (said_fa c 113)
    e_Run_take := bm (said_fa c 114) (said_mo c 14) (said_mo c 15) (said_mo c 16) (by decide)
    e_Run_give := bm (said_fa c 115) (said_mo c 17) (said_mo c 18) (said_mo c 19) (by decide)
    e_Run_rouse := bm (said_fa c 116) (said_mo c 20) (said_mo c 21) (said_mo c 22) (by decide)
    b_len := He.free_ok X G (said_fa c 117)
    b_isinstance := He.free_ok X G (said_fa c 118)
    b_all := He.free_ok X G (said_fa c 119)
    b_sorted := He.free_ok X G (said_fa c 120)
    b_min := He.free_ok X G (said_fa c 121)
    b_max := He.free_ok X G (said_fa c 122)
    b_tuple := He.free_ok X G (said_fa c 123)
    b_list := He.free_ok X G (said_fa c 124)
    b_range := He.free_ok X G (said_fa c 125)
    b_enumerate := He.free_ok X G (said_fa c 126)
    b_zip := He.free_ok X G (said_fa c 127)
    b_repr := He.free_ok X G (said_fa c 128)
    b_int := He.free_ok X G (said_fa c 129)
    b_str := He.free_ok X G (said_fa c 130)
    b_bool := He.free_ok X G (said_fa c 131)
    b_super := He.free_ok X G (said_fa c 132)
    g_MOST_UNITS := it (said_fa c 133)
    g_MOST_RANK := it (said_fa c 134)
    g_MOST_TIMES := it (said_fa c 135)
    g_MOST_DEPTH := it (said_fa c 136)
    g_MOST_RESOURCES := it (said_fa c 137)
    g_MOST_STORES := it (said_fa c 138)
    g_MOST_GATES := it (said_fa c 139)
    g_MOST_SCRIPTS := it (said_fa c 140)
    g_SCRIPTS := it (said_fa c 141)
    g_MOST_TIME := it (said_fa c 142)
    g_MOST_EVENTS := it (said_fa c 143)
    g_ASLEEP := st (said_fa c 144)
    g_SUSPENDED := st (said_fa c 145)
    g_REFERENCES := st (said_fa c 146)
    g_DISCIPLINES := gl (said_fa c 147)
    t_DISCIPLINES := tup_ok (K := K) (x := "DISCIPLINES") (vs := [.str "fifo", .str "rank", .str "preempt"]) (said_mo c 39)
    g_READY := gl (said_fa c 148)
    t_READY := tup_ok (K := K) (x := "READY") (vs := [.str "ready"]) (said_mo c 40)
    g_FINISHED := gl (said_fa c 149)
    t_FINISHED := tup_ok (K := K) (x := "FINISHED") (vs := [.str "finished"]) (said_mo c 41)
    g_NUMBERS := gl (said_fa c 150)
    t_NUMBERS := said_tb c 0
    g_BOUNDS := gl (said_fa c 151)
    t_BOUNDS := said_tb c 1
    v_NUMBERS_wait := He.valsB_ok (said_mo c 42) (q := ("wait", .str "d")) (by simp)
    v_NUMBERS_take := He.valsB_ok (said_mo c 42) (q := ("take", .str "rk")) (by simp)
    v_NUMBERS_give := He.valsB_ok (said_mo c 42) (q := ("give", .str "r")) (by simp)
    v_NUMBERS_rouse := He.valsB_ok (said_mo c 42) (q := ("rouse", .str "p")) (by simp)
    s_RankLine := ⟨He.eqO_ok (said_mo c 28), of_decide_eq_true (said_mo c 29), Option.isSome_iff_exists.mp (said_mo c 30)⟩
    s_PreemptLine := ⟨He.eqO_ok (said_mo c 33), of_decide_eq_true (said_mo c 34), Option.isSome_iff_exists.mp (said_mo c 35)⟩
    t_urgency := of_decide_eq_true (said_mo c 45)
    f_urgency := (said_mo c 46)
    n_opaque := He.eqO_ok (said_mo c 47)
    v_NUMBERS_forever := He.eqO_ok (said_mo c 43)
    v_BOUNDS_d := He.valsB_ok (said_mo c 44) (q := ("d", .non)) (by simp)
    v_BOUNDS_k := He.valsB_ok (said_mo c 44) (q := ("k", .int 9)) (by simp)
  }
end Ev
namespace Ev
open PySem PySem.W PySem.Calls PyProof.Rows
abbrev R : OpenRow := OpenLaw.row PySem.Challenge.rw_eventsim_k22_whole_traces_of_preemption
abbrev qv : Program := view R.prog [89]
def nm0 : List PySem.Str := ["_wall", "EventsimError", "ModelError", "NumberError", "LimitError", "DISCIPLINES", "WORDS", "MOST_RESOURCES", "MOST_STORES", "MOST_GATES", "MOST_SCRIPTS", "MOST_UNITS", "MOST_CAPACITY", "MOST_ITEM", "MOST_RANK", "MOST_MARK", "MOST_TIMES", "MOST_DEPTH", "NO_LIMIT", "NUMBERS", "REFERENCES", "BOUNDS", "is_between", "need_between", "is_tuple", "is_pair", "is_resource", "is_store", "is_gate", "fits"]
def nm1 : List PySem.Str := ["is_instruction", "is_body", "is_forever", "is_script", "held_after", "time_of", "is_sound", "has_parts", "is_model", "need_model", "need_index", "Request", "Line", "RankLine", "PreemptLine", "line_of", "ASLEEP", "SUSPENDED", "READY", "FINISHED", "Run", "MOST_TIME", "MOST_EVENTS", "SCRIPTS", "trace_of", "trace", "own_trace", "_law_cell_at", "_law_pen", "_law_draw"]
def nm2 : List PySem.Str := ["_law_pick", "_law_same", "_law_part", "_law_body", "_law_script", "_law_model", "_law_plan", "_law_tell", "_law_go_on", "_law_fall_asleep", "_law_unplan", "_law_sleepers", "_law_begun", "_law_first_request", "_law_take", "_law_give", "_law_pass", "_law_turn_gate", "_law_rouse", "_law_proceed", "_law_run", "_law_events", "_law_traces_agree"]
def names : List PySem.Str := nm0 ++ nm1 ++ nm2
theorem runF (w : World) : HandSHeadRun.RunEq R qv hookEv obEv 6500 names (w.withFollow "special-get-raises" false) := by
  intro os
  kernel_rfl
theorem runT (w : World) : HandSHeadRun.RunEq R qv hookEv obEv 6500 names (w.withFollow "special-get-raises" true) := by
  intro os
  kernel_rfl
theorem run (w : World) : HandSHeadRun.RunEq R qv hookEv obEv 6500 names w := byRow2 "special-get-raises" (P := fun w => HandSHeadRun.RunEq R qv hookEv obEv 6500 names w) runF runT w
end Ev
namespace Ev
open PySem PySem.Spec PyProof.Rows L2
section
variable {P : Program} {w : World} {K : PySem.W.Frag} {mg : Str → Option Value} {base : Heap} {k : Nat} {f : Addr} {sp : Sp0}
/-- a def with its two plain premises by search -/
theorem Def.go {x qual : Str} {st : Stmt} {N ps : List Str} (F : Def K x qual st f) (S : FnScope N ps (defScope st))
    (hbody : ∀ (cdv : Value) (A : Around) (outer : List Env) (s : Shared) (H : Hp) (vs : List V) (Q : VK), Rm k (Bd P w K mg base N qual st f cdv A outer s H).A → sp vs H Q →
      ∃ t, PSs (Bd P w K mg base N qual st f cdv A outer s H) (defBody st) t ∧ t { nx := fun _ H' => Q .non H', rt := Q } (start N vs) H)
    (len : ∀ vs H Q, sp vs H Q → vs.length = ps.length := by
      intro vs H Q h
      first
        | (obtain ⟨rfl, _⟩ := h; rfl) | (obtain ⟨_, rfl, _⟩ := h; rfl) | (obtain ⟨_, _, rfl, _⟩ := h; rfl) | (obtain ⟨_, _, _, rfl, _⟩ := h; rfl) | (obtain ⟨_, _, _, _, rfl, _⟩ := h; rfl)
        | (obtain ⟨_, _, _, _, _, rfl, _⟩ := h; rfl) | (obtain ⟨_, _, _, _, _, _, rfl, _⟩ := h; rfl) | (obtain ⟨_, _, _, _, _, _, _, rfl, _⟩ := h; rfl) | (obtain ⟨_, _, _, _, _, _, _, _, rfl, _⟩ := h; rfl)
        | (obtain ⟨_, _, _, _, _, _, _, _, _, rfl, _⟩ := h; rfl) | (obtain ⟨_, _, _, _, _, _, _, _, _, _, rfl, _⟩ := h; rfl) | (obtain ⟨_, _, _, _, _, _, _, _, _, _, _, rfl, _⟩ := h; rfl) | (obtain ⟨_, _, _, _, _, _, _, _, _, _, _, _, rfl, _⟩ := h; rfl))
    (hb : ∀ (kV doc pm : Value) (an : Option Addr) (cdv ct : Value) (us : List Value), us.length = ps.length → bindArgs (PySem.W.fnOf x qual (defArgs st) (defBody st) (defScope st) .none kV doc pm an cdv ct) ⟨us, []⟩ = pure (ps.zip us) := by
      intro _ _ _ _ _ _ us hl
      first
        | exact (match us, hl with | [_], _ => rfl) | exact (match us, hl with | [_, _], _ => rfl) | exact (match us, hl with | [_, _, _], _ => rfl) | exact (match us, hl with | [_, _, _, _], _ => rfl) | exact (match us, hl with | [_, _, _, _, _], _ => rfl)) :
    Fn P w K mg base (k + 1) f sp := F.fn S len hb hbody
end
section
variable {X : Cx} {a b : Expr} {ta tb : TE} {pos : Pos} {op : CmpOp} {r : R2}
theorem pe_cm (ho : OpR X (compareOp op) r) (ha : PE X a ta) (hb : PE X b tb) (hm : behindInMarks op b = false := by first | exact nomark _ | rfl) : PE X (.Compare a [op] [b] pos) (tOp r ta tb) := pe_cmpR ho ha hb hm
theorem pt_cm (ho : OpR X (compareOp op) r) (ha : PE X a ta) (hb : PE X b tb) (hm : behindInMarks op b = false := by first | exact nomark _ | rfl) : PT X (.Compare a [op] [b] pos) (tTest (tOp r ta tb)) := pt_cmpR ho ha hb hm
end
end Ev
/-! urgency of a request: Line's, RankLine's with super(). -/
namespace Ev
section
open PySem PySem.Spec
variable {M : Model} {A : Around} {E : Value → Shared → Prop} {s : Shared} {c : Code}
theorem at_plain {x : Sem Value} {rest : List (Bool × Sem Value)} {Q : List Value → Shared → Prop} (h : wpAt M A c x (fun v s₁ => wpAt M A c (spliced rest) (fun vs s₂ => Q (v :: vs) s₂) E s₁) E s) :
    wpAt M A c (spliced ((false, x) :: rest)) Q E s := by
  rw [spliced]
  refine wpAt_bind (wpAt_mono h (fun v s₁ h₁ => ?_) fun _ _ x => x)
  have h2 := ks_wpAt_holding (vs := [v]) h₁
  simp only [Bool.false_eq_true, if_false]
  refine wpAt_bind (wpAt_of_wpAny (wpAny_pure ?_))
  exact wpAt_bind (wpAt_mono h2 (fun vs s₂ hq => wpAt_of_wpAny (wpAny_pure hq)) fun _ _ x => x)
theorem any_plain {e : Expr} {es : List Expr} {env : Env} {pos : Pos} {Q : List Value → Shared → Prop} (h : wpAny M A (eval e env) (fun v s₁ => wpAny M A (spliced (backTo pos (starEach es env))) (fun vs s₂ => Q (v :: vs) s₂) E s₁) E s)
    (hs : starEach (e :: es) env = (false, eval e env) :: starEach es env := by rfl) : wpAny M A (spliced (backTo pos (starEach (e :: es) env))) Q E s := by
  rw [hs]
  show wpAny _ _ (spliced ((false, eval e env) :: backTo pos (starEach es env))) _ _ s
  exact Calls.spliced_cons h
theorem at_plain2 {e : Expr} {es : List Expr} {env : Env} {pos : Pos} {Q : List Value → Shared → Prop} (h : wpAt M A c (eval e env) (fun v s₁ => wpAt M A c (spliced (backTo pos (starEach es env))) (fun vs s₂ => Q (v :: vs) s₂) E s₁) E s)
    (hs : starEach (e :: es) env = (false, eval e env) :: starEach es env := by rfl) : wpAt M A c (spliced (backTo pos (starEach (e :: es) env))) Q E s := by
  rw [hs]
  show wpAt _ _ _ (spliced ((false, eval e env) :: backTo pos (starEach es env))) _ _ s
  exact at_plain h
theorem at_star {x : Sem Value} {pos : Pos} {rest : List (Bool × Sem Value)} {Q : List Value → Shared → Prop} (h : wpAt M A c x (fun v s₁ => PySem.W.StarOf M A E v (fun here s₂ => wpAny M A (spliced rest) (fun vs s₃ => Q (here ++ vs) s₃) E s₂) s₁) E s) :
    wpAt M A c (spliced ((true, (do let v ← x; standAt pos; pure v)) :: rest)) Q E s := by
  rw [spliced]
  refine wpAt_bind (wpAt_bind (wpAt_mono h (fun v s₁ h₁ => wpAt_bind (wpAt_of_wpAny (wpAny_standAt (wpAt_of_wpAny (wpAny_pure ?_))))) fun _ _ x => x))
  unfold PySem.W.StarOf at h₁
  refine wpAt_of_wpAny ?_
  dsimp only
  rw [if_pos rfl]
  refine wpAny_bind (wpAny_mono h₁ (fun b s₂ h₂ => ?_) fun _ _ x => x)
  obtain ⟨rfl, h₂⟩ := h₂
  simp only [Bool.false_eq_true, if_false]
  exact wpAny_bind (wpAny_mono h₂ (fun here s₃ h₃ => wpAny_bind (wpAny_holding (wpAny_mono h₃ (fun vs s₄ h₄ => wpAny_pure h₄) fun _ _ x => x))) fun _ _ x => x)
theorem at_tuple {prog : Program} {w : World} {env : Env} {elts : List Expr} {x1} {pos : Pos} {Q : Value → Shared → Prop}
    (h : wpAt (model prog w) A c (spliced (backTo pos (starEach elts env))) (fun vs s₁ => vs.length ≤ sizeLine ∧ Q (.ref s₁.heap.objs.size) { s₁ with heap := s₁.heap.push { cls := .type "tuple", data := .seq vs.toArray } }) E s) :
    wpAt (model prog w) A c (eval (.Tuple elts x1 pos) env) Q E s := by
  rw [arm_eval_Tuple]
  exact wpAt_bind (wpAt_of_wpAny (wpAny_standAt (wpAt_bind (wpAt_mono h (fun vs s₁ h₁ => wpAt_of_wpAny (wpAny_newTuple h₁.2 h₁.1)) fun _ _ e => e))))
end
open PySem PySem.Spec L2
section
variable {w : World} {A : Around} {s : Shared} {K : PySem.W.Frag} {mg : Str → Option Value} {base : Heap} {R : Result → Shared → Prop} {f l q dq CR : Addr} {mq : Str → Option Value} {n : Int} {t : Tok}
theorem objM_keeps {h h' : Heap} (O : ObjM h q dq CR mq) (k : ∀ b o, h.get? b = some o → h'.get? b = some o) : ObjM h' q dq CR mq := by
  obtain ⟨oL, es, ep, hL, r⟩ := O.ns
  exact ⟨k _ _ O.obj, ⟨oL, es, ep, k _ _ hL, r⟩, O.ne⟩
/-- a field of an instance, nothing but the count of texts is changed -/
theorem fld_raw {env : Env} {e : Expr} {fd : Str} {pos : Pos} {E : Value → Shared → Prop} {v : Value} {Q : Value → Shared → Prop} (X : K.In s.heap) (O : ObjM s.heap q dq CR mq) (hc : Cls K CR) (na : NoAttr K CR fd) (hv : mq fd = some v) (hh : PySem.W.handedIn v = true)
    (he : wpAny (model PP w) A (eval e env) (fun o s1 => o = .ref q ∧ s1 = s) E s) (hb : attributeBase e fd env (eval e env) = eval e env) (h : Q v { s with toks := s.toks + 1 }) : wpAny (model PP w) A (eval (.Attribute e fd pos) env) Q E s := by
  refine attr_of hb (wpAny_mono he (fun o s1 h1 => ?_) fun _ _ x => x)
  obtain ⟨rfl, rfl⟩ := h1
  exact get_map X O (hc.get _) hc.hd na hv hh h
theorem urg_line (M : Mod K mg base) (D : Def K "urgency" "Line.urgency" s_Line_urgency f) (bk : ∀ b o, base.get? b = some o → s.heap.get? b = some o) (room : A.depth < recursionLimit) (O : ObjM s.heap q dq CR mq) (hc : Cls K CR) (na : NoAttr K CR "number") (hv : mq "number" = some (.int n t))
    (hR : ∀ h' tk p, (∀ b o, s.heap.get? b = some o → h'.get? b = some o) → h'.get? p = some { cls := .type "tuple", data := .seq #[.int n t] } → R (.ok (.ret (.ref p))) { s with heap := h', toks := tk }) :
    codeAny (model PP w) A (.call (.ref f) ⟨[.ref l, .ref q], []⟩) R s := by
  obtain ⟨oc, od, kV, doc, pm, an, cdv, ct, osl, lk, hcd⟩ := D.ex
  have X : K.In s.heap := M.kin.keeps bk
  refine ks_codeAny_call_defAt (fd := PySem.W.fnOf "urgency" "Line.urgency" (defArgs s_Line_urgency) (defBody s_Line_urgency) (defScope s_Line_urgency) .none kV doc pm an cdv ct) (body := defBody s_Line_urgency) (binds := [("self", .ref l), ("request", .ref q)])
    room (X _ _ lk) rfl (M.nolimit.keeps bk) (PySem.W.codeRec_of X hcd) rfl (BindsTo.of_eq (by rfl)) (show ∀ x ∈ (defScope s_Line_urgency).names, x.2 ≠ .cell by decide +kernel) (fun x hx => ?_) (fun h₀ hns hk => ?_)
  · rcases List.mem_cons.mp hx with rfl | hx
    · rfl
    · rcases List.mem_cons.mp hx with rfl | hx
      · rfl
      · cases hx
  · have X0 : K.In h₀ := X.keeps hk
    have O0 : ObjM h₀ q dq CR mq := objM_keeps O hk
    refine wpAt_of_wpAny (wpAny_execs_cons (wpAny_Return_some (wpAny_Tuple_spliced (any_plain ?_))))
    refine fld_raw X0 O0 hc na hv rfl ?_ rfl ?_
    · exact ESX.ldL hns (v := .ref q) rfl ⟨rfl, rfl⟩
    refine Calls.spliced_nil ⟨(by decide : 1 ≤ sizeLine), ?_⟩
    refine hR _ _ _ (fun b o e => Heap.get?_push_of_some _ (hk b o e)) (Heap.get?_push_size _ rfl)
theorem urg_rank {D C : Addr} {f2 dl : Addr} {ml : Str → Option Value} {k : Int} {u : Tok} (M : Mod K mg base) (S : SupD K "urgency" "RankLine.urgency" s_RankLine_urgency f D) (D2 : Def K "urgency" "Line.urgency" s_Line_urgency f2) (bs : mg "super" = none)
    (op : PySem.W.nsIn K cStatics "thirdparty.any" = some none) (sup : PySem.W.ks_superIn K C D "urgency" = some (some (.ref f2))) (ty : PySem.W.typeIn K (.ref f2) = some (.type "function")) (sub : PySem.W.mroIn K C (.ref D) = some true) (hfi : PySem.W.fnIn K f2 = true) (hC : ∃ cd, PySem.W.clsIn K C = some cd) (hD : ∃ cd, PySem.W.clsIn K D = some cd)
    (bk : ∀ b o, base.get? b = some o → s.heap.get? b = some o) (room : A.depth + 1 < recursionLimit) (OL : ObjM s.heap l dl C ml) (O : ObjM s.heap q dq CR mq) (hc : Cls K CR) (na : NoAttr K CR "number") (na2 : NoAttr K CR "rank")
    (hv : mq "number" = some (.int n t)) (hv2 : mq "rank" = some (.int k u))
    (hR : ∀ h' tk p, (∀ b o, s.heap.get? b = some o → h'.get? b = some o) → h'.get? p = some { cls := .type "tuple", data := .seq #[.int k u, .int n t] } → R (.ok (.ret (.ref p))) { s with heap := h', toks := tk }) :
    codeAny (model PP w) A (.call (.ref f) ⟨[.ref l, .ref q], []⟩) R s := by
  obtain ⟨oc, od, kV, doc, pm, an, cda, cc, ct, osl, lk, hcd, ⟨ccl, cdd, vs, ccs, file, tf, hco, hvs, hfile⟩, cl, cld, csl, hcell⟩ := S.ex
  have X : K.In s.heap := M.kin.keeps bk
  refine ks_codeAny_call_defAt (fd := PySem.W.ksFn "urgency" "RankLine.urgency" (defArgs s_RankLine_urgency) (defBody s_RankLine_urgency) (defScope s_RankLine_urgency) .none kV doc pm an (.ref cda) ct cc) (body := defBody s_RankLine_urgency) (binds := [("self", .ref l), ("request", .ref q)])
    (by omega) (X _ _ lk) rfl (M.nolimit.keeps bk) (PySem.W.codeRec_of X hcd) rfl (BindsTo.of_eq (by rfl)) (show ∀ x ∈ (defScope s_RankLine_urgency).names, x.2 ≠ .cell by decide +kernel) (fun x hx => ?_) (fun h₀ hns hk => ?_)
  · rcases List.mem_cons.mp hx with rfl | hx
    · rfl
    · rcases List.mem_cons.mp hx with rfl | hx
      · rfl
      · cases hx
  · have X0 : K.In h₀ := X.keeps hk
    have O0 : ObjM h₀ q dq CR mq := objM_keeps O hk
    refine ks_wpAt_execs_cons (ks_wpAt_Return_some (at_tuple (at_plain2 (wpAt_of_wpAny ?_))))
    refine fld_raw X0 O0 hc na2 hv2 rfl ?_ rfl ?_
    · exact ESX.ldL hns (v := .ref q) rfl ⟨rfl, rfl⟩
    show wpAt _ _ _ (spliced ((true, (do let v ← eval _ _; standAt _; pure v)) :: [])) _ _ _
    refine at_star (ks_wpAt_MethodCall ?_)
    have X1 : K.In h₀ := X0
    obtain ⟨cdD, hD⟩ := hD
    obtain ⟨oD, hD1, hD2⟩ : ∃ oD, h₀.get? D = some oD ∧ oD.data = .cls cdD := by
      unfold PySem.W.clsIn at hD
      split at hD
      · rename_i c d cd' sl ho
        cases hD
        exact ⟨_, X0 _ _ ho, rfl⟩
      · cases hD
    have OL0 : ObjM h₀ l dl C ml := objM_keeps OL hk
    obtain ⟨odl, J, _⟩ := OL0.look
    refine ks_wpAt_super_base rfl rfl (by decide +kernel) rfl (X0 _ _ lk) rfl (by rfl) rfl (X0 _ _ hco) rfl hvs hfile (by decide +kernel) ?_
    obtain ⟨mb, hmb, hbl⟩ := M.blt
    have bk0 : ∀ b o, base.get? b = some o → h₀.get? b = some o := fun b o e => hk b o (bk b o e)
    refine PySem.W.ks_loadName_global rfl rfl (Calls.loadGlobal_builtin (M.glob.keeps bk0) bs (hmb.keeps bk0) ((hbl _ (by decide +kernel)).trans (by decide +kernel)) ⟨rfl, ?_⟩)
    refine wpAny_loadName_free rfl rfl rfl ⟨_, X0 _ _ hcell, rfl⟩ ?_
    refine wpAny_loadName_local rfl rfl hns (v := .ref l) rfl ?_
    refine ks_wpAny_isType_cls hD1 hD2 ⟨rfl, ?_⟩
    refine ks_wpAny_call_super hD1 hD2 J.at_ J.cls (fun c e => ?_) (PySem.W.looks_mroIn X0 sub) (fun h1 hso hk1 => ?_)
    · cases e
    have X2 : K.In h1 := X0.keeps hk1
    obtain ⟨cdC, hC⟩ := hC
    obtain ⟨of, hof, hofc⟩ : ∃ of, h1.get? f2 = some of ∧ of.cls = .type "function" := by
      have ht' : (K.lookup f2).map (·.cls) = some (.type "function") := ty
      cases z : K.lookup f2 with
      | none => rw [z] at ht'; cases ht'
      | some of => rw [z] at ht'; exact ⟨of, X2 _ _ z, Option.some.inj ht'⟩
    unfold PySem.W.ks_superIn at sup
    rw [hC] at sup
    obtain ⟨odl1, J1, _⟩ := (objM_keeps OL0 hk1).look
    refine ks_wpAny_getMethod_super hso (PySem.W.looks_opaque X2 op) (l₀ := cdC.mro) ?_ rfl X2 sup hof hofc (PySem.W.ks_ne X2 J1 hC) (by decide) ?_
    · exact fun A Q E s k q => wpAny_bind ((PySem.W.looks_clsIn X2 hC) A _ E s k (wpAny_pure q))
    have kp2 : ∀ b o, h₀.get? b = some o → (h1.push (PySem.W.methodObj (.ref f2) (.ref l))).get? b = some o := fun b o e => Heap.get?_push_of_some _ (hk1 b o e)
    have X3 := X0.keeps kp2
    refine PySem.W.callWith_of rfl (PySem.W.keeps_M (K := K) (f := f2) (self := .ref l) hfi) (Calls.evalArgs_plain (Calls.spliced_cons ?_))
    have hm : (h1.push (PySem.W.methodObj (.ref f2) (.ref l))).get? h1.objs.size = some (PySem.W.methodObj (.ref f2) (.ref l)) := Heap.get?_push_size _ rfl
    refine ESX.ldL (hns.keeps kp2) (v := .ref q) rfl ?_
    refine Calls.spliced_nil ⟨⟨hm, X3⟩, wpAny_call (PySem.W.method_call hm ?_)⟩
    refine urg_line M D2 (fun b o e => kp2 b o (bk0 b o e)) (by show A.depth + 1 < _; exact room) (objM_keeps O0 kp2) hc na hv (fun h3 tk p k3 hp => ?_)
    show PySem.W.StarOf _ _ _ (.ref p) _ _
    unfold PySem.W.StarOf notIterableAtAll
    refine wpAny_bind (wpAny_specialOf ⟨_, hp, rfl⟩ PySem.F.slot_tuple_iter.lookup (wpAny_pure ⟨rfl, ?_⟩))
    refine wpAny_collect_seq p (.inr rfl) hp rfl rfl (fun h4 hk4 => ?_) (by show 1 ≤ sizeLine; decide)
    refine Calls.spliced_nil ⟨(by decide : 2 ≤ sizeLine), ?_⟩
    exact hR _ _ _ (fun b o e => Heap.get?_push_of_some _ (hk4 b o (k3 b o (kp2 b o (hk b o e))))) (Heap.get?_push_size _ rfl)
end
end Ev
namespace Ev
open PySem PySem.Spec PyProof.Rows L2
def urgD (x : Addr × Nat × Nat) : PyData := .tuple [.int x.2.1, .int x.2.2]
def rSortU (K : PySem.W.Frag) (A : Adr) : List V → List V → Hp → VK → Prop := fun vs zs H Q => ∃ (a q l : Addr) (C dl : Addr) (ffl : List (Str × V)) (xs : List (Addr × Nat × Nat)), vs = [.ref a] ∧ zs = [.ref q] ∧ H q = some (.met A.RankLine_urgency l) ∧ H l = some (.ins C dl ffl) ∧ LineC A C ∧
  SqL K H a (xs.map fun x => V.ref x.1) ∧ xs.length ≤ sizeLine ∧ (∀ x ∈ xs, ∃ dx fs, H x.1 = some (.ins A.Request dx fs) ∧ fs.lookup ("rank" : Str) = some (.int x.2.1) ∧ fs.lookup ("number" : Str) = some (.int x.2.2)) ∧
  ∀ p, H p = none → Q (.ref p) (upd H p (.lst ((xs.mergeSort (PySem.W.dataLe false urgD)).map fun x => V.ref x.1)))
theorem vals_each {α : Type} (f : α → V) : ∀ {l : List α} {us : List Value}, Vals (l.map f) us → PySem.W.EachIs (fun v x => RelV (f x) v) us l
  | [], us, h => by cases h; exact .nil
  | x :: l, us, h => by
    cases h with
    | cons r t => exact .cons r (vals_each f t)
theorem each_vals {α : Type} (f : α → V) : ∀ {l : List α} {us : List Value}, PySem.W.EachIs (fun v x => RelV (f x) v) us l → Vals (l.map f) us
  | _, _, .nil => .nil
  | _, _, .cons r t => .cons r (each_vals f t)
theorem urgD_alike (x y : Addr × Nat × Nat) : PySem.W.alike (urgD x) (urgD y) = true := by simp only [urgD, PySem.W.alike, PySem.W.alikeAll, Bool.and_self]
section
variable {X : Cx} {A : Adr}
theorem cr_sortU {k : Nat} (T : Txt X.K X.mg X.w A) (hP : X.prog = PP) (hr : Rm (k + 2) X.A) : CallRK X (.builtin "sorted") [Str.ofString "key"] (rSortU X.K A) := by
  intro pins s σ H vs zs us ws Q I r rz h
  obtain ⟨a, q, l, C, dl, ffl, xs, rfl, rfl, hq, hl, hC, hs, hz, hx, hQ⟩ := h
  obtain rfl := Vals.ref1 r
  obtain rfl := Vals.ref1 rz
  obtain ⟨its, rv, hL, hz2⟩ := I.list hs
  have hm := (met_P I hq).1
  obtain ⟨ml, OL, _⟩ := ins_get I.hok hl
  have hDc : ∃ cd, PySem.W.clsIn X.K A.RankLine = some cd := T.s_RankLine.2.2
  have hsup : PySem.W.ks_superIn X.K C A.RankLine "urgency" = some (some (.ref A.Line_urgency)) ∧ PySem.W.mroIn X.K C (.ref A.RankLine) = some true ∧ (∃ cd, PySem.W.clsIn X.K C = some cd) := by
    rcases hC with rfl | rfl
    · exact T.s_RankLine
    · exact T.s_PreemptLine
  have hdp := hr.room.dp
  rw [hP]
  have hfr : H (s.heap.objs.size + 1) = none := I.hok.fresh (Nat.le_succ _)
  refine PySem.W.sorted_key_data (prog := PP) (w := X.w) (A := X.A) (s := s) (R := fun v x => RelV (V.ref x.1) v) (bs := xs) (b := false) urgD hL.isList (vals_each _ rv) (fun d hd d' hd' => ?_) (.inl fun d hd => ?_) hz (fun x _ => ?_) (PyProof.Rows.ksk_s1 _ _) (fun _ => PyProof.Rows.ksk_l1 _ _) (fun _ => PyProof.Rows.ksk_t1 _ _) (fun v x hR hxm h tk hk => ?_) (fun out c h' tk hk hn hnew hlen he => ?_)
  · obtain ⟨x, _, rfl⟩ := List.mem_map.mp hd
    obtain ⟨y, _, rfl⟩ := List.mem_map.mp hd'
    exact urgD_alike x y
  · obtain ⟨x, _, rfl⟩ := List.mem_map.mp hd
    exact ⟨_, _, rfl⟩
  · have e : (urgD x).depth = 1 := by simp [urgD, PyData.depth, PyData.depthAll]
    rw [e]
    have := hr.hu
    omega
  · obtain rfl : v = Value.ref x.1 := hR
    obtain ⟨dx, fs, hxo, hk1, hk2⟩ := hx x hxm
    obtain ⟨mq, O, hrel, _⟩ := ins_get I.hok hxo
    have r1 := hrel "rank"
    have r2 := hrel "number"
    rw [hk1] at r1
    rw [hk2] at r2
    obtain ⟨u1, e1, t1, rfl⟩ := RelO.some_of r1
    obtain ⟨u2, e2, t2, rfl⟩ := RelO.some_of r2
    refine wpAny_call (PySem.W.method_call (hk _ _ hm) ?_)
    refine urg_rank I.ok.mod T.d_RankLine_urgency T.d_Line_urgency T.b_super T.n_opaque hsup.1 T.t_urgency hsup.2.1 T.f_urgency hsup.2.2 hDc (fun b o e => hk b o (I.bk b o e)) (by show X.A.depth + 1 < _; omega) (objM_keeps OL hk) (objM_keeps O hk) T.c_Request T.n_Request_number T.n_Request_rank e2 e1 (fun h3 tk3 p k3 hp => ?_)
    exact ⟨h3, tk3, rfl, k3, .tuple (as := []) hp rfl rfl (.cons (as := []) (bs := []) (.int _ _) (.cons (as := []) (bs := []) (.int _ _) .nil))⟩
  · have hl2 : ((xs.mergeSort (PySem.W.dataLe false urgD)).map fun x => V.ref x.1).length ≤ sizeLine := by rw [List.length_map, List.length_mergeSort]; exact hz
    exact ⟨.ref (s.heap.objs.size + 1), _, I.laid (a := s.heap.objs.size + 1) (o := .lst ((xs.mergeSort (PySem.W.dataLe false urgD)).map fun x => V.ref x.1)) (t' := tk) hk (Nat.le_succ _) ⟨hl2, out, c, each_vals _ he, hnew⟩, rfl, hQ _ hfr⟩
end
end Ev
/-! How a run lies in memory. -/
namespace Ev
open PySem PySem.Spec PyProof.Rows L2

inductive Role where
  | run | ag | lg | pa | pe | ln | st | re | si | ti | rqs
  | line (r : Nat) | rq (r : Nat) | req (r n : Nat) | per (i : Nat)
  deriving DecidableEq

structure Sto where
  ad : Role → Addr
  ct : Role → Option HO
def Sto.put (S : Sto) (r : Role) (o : HO) : Sto := ⟨S.ad, fun x => if x = r then some o else S.ct x⟩
def Sto.new (S : Sto) (r : Role) (p : Addr) (o : HO) : Sto := ⟨fun x => if x = r then p else S.ad x, fun x => if x = r then some o else S.ct x⟩
theorem Sto.put_eq (S : Sto) (r : Role) (o : HO) : (S.put r o).ct r = some o := if_pos rfl
theorem Sto.put_ne (S : Sto) {r x : Role} (o : HO) (h : x ≠ r) : (S.put r o).ct x = S.ct x := if_neg h
theorem Sto.new_eq (S : Sto) (r : Role) (p : Addr) (o : HO) : (S.new r p o).ct r = some o := if_pos rfl
theorem Sto.new_ne (S : Sto) {r x : Role} (p : Addr) (o : HO) (h : x ≠ r) : (S.new r p o).ct x = S.ct x := if_neg h
theorem Sto.new_ad (S : Sto) {r x : Role} (p : Addr) (o : HO) (h : x ≠ r) : (S.new r p o).ad x = S.ad x := if_neg h
theorem Sto.new_ad_eq (S : Sto) (r : Role) (p : Addr) (o : HO) : (S.new r p o).ad r = p := if_pos rfl
/-- the mutable things of a run lie where S says, apart from what is frozen in F -/
structure SOk (F : Hp) (S : Sto) (H : Hp) : Prop where
  sm : Same F H
  liv : ∀ r o, S.ct r = some o → H (S.ad r) = some o
  apart : ∀ r o, S.ct r = some o → F (S.ad r) = none
  inj : ∀ r r' o o', S.ct r = some o → S.ct r' = some o' → S.ad r = S.ad r' → r = r'
section
variable {F F' H H' : Hp} {S : Sto} {r : Role} {o : HO} {p : Addr}
theorem SOk.same (k : SOk F S H) (s : Same H H') : SOk F S H' := ⟨k.sm.trans s, fun r o e => s _ _ (k.liv r o e), k.apart, k.inj⟩
theorem SOk.fresh (k : SOk F S H) (n : H p = none) : F p = none := k.sm.free n
theorem SOk.ne (k : SOk F S H) (n : H p = none) (e : S.ct r = some o) : S.ad r ≠ p := fun z => by
  have := k.liv r o e
  rw [z, n] at this
  cases this
/-- a new thing, never to be changed -/
theorem SOk.frz (k : SOk F S H) (n : H p = none) (o : HO) : SOk (upd F p o) S (upd H p o) := by
  refine ⟨fun b u e => ?_, fun r u e => (by rw [upd_ne (k.ne n e)]; exact k.liv r u e), fun r u e => (by rw [upd_ne (k.ne n e)]; exact k.apart r u e), k.inj⟩
  by_cases h : b = p
  · subst h; rw [upd_same] at e ⊢; exact e
  · rw [upd_ne h] at e ⊢; exact k.sm b u e
/-- a thing that was made is taken as frozen -/
theorem SOk.keep (k : SOk F S H) (s : Same H H') (n : H p = none) (e : H' p = some o) : SOk (upd F p o) S H' := by
  refine ⟨fun b u h => ?_, fun r u h => s _ _ (k.liv r u h), fun r u h => (by rw [upd_ne (k.ne n h)]; exact k.apart r u h), k.inj⟩
  by_cases z : b = p
  · subst z; rw [upd_same] at h; rw [← h]; exact e
  · rw [upd_ne z] at h; exact s _ _ (k.sm b u h)
/-- one of the run's things is changed -/
theorem SOk.put (k : SOk F S H) {o0 : HO} (e0 : S.ct r = some o0) (o : HO) : SOk F (S.put r o) (upd H (S.ad r) o) := by
  refine ⟨fun b u e => ?_, fun x u e => ?_, fun x u e => ?_, fun x y u v e1 e2 e => ?_⟩
  · have : b ≠ S.ad r := fun z => by rw [z, k.apart r o0 e0] at e; cases e
    rw [upd_ne this]; exact k.sm b u e
  · by_cases h : x = r
    · subst h
      have e : (if x = x then some o else S.ct x) = some u := e
      rw [if_pos rfl] at e
      show upd H (S.ad x) o (S.ad x) = some u
      rw [upd_same]; exact e
    · have e : (if x = r then some o else S.ct x) = some u := e
      rw [if_neg h] at e
      show upd H (S.ad r) o (S.ad x) = some u
      rw [upd_ne fun z => h (k.inj x r u o0 e e0 z)]; exact k.liv x u e
  · by_cases h : x = r
    · subst h; exact k.apart x o0 e0
    · have e : (if x = r then some o else S.ct x) = some u := e
      rw [if_neg h] at e
      exact k.apart x u e
  · have f : ∀ z w, (S.put r o).ct z = some w → ∃ w', S.ct z = some w' := fun z w h => by
      have h : (if z = r then some o else S.ct z) = some w := h
      by_cases q : z = r
      · subst q; exact ⟨o0, e0⟩
      · rw [if_neg q] at h; exact ⟨w, h⟩
    obtain ⟨u', e1⟩ := f x u e1
    obtain ⟨v', e2⟩ := f y v e2
    exact k.inj x y u' v' e1 e2 e
/-- a thing that was made becomes one of the run's -/
theorem SOk.adopt (k : SOk F S H) (s : Same H H') (n : H p = none) (e0 : H' p = some o) : SOk F (S.new r p o) H' := by
  refine ⟨k.sm.trans s, fun x u e => ?_, fun x u e => ?_, fun x y u v e1 e2 e => ?_⟩
  · have e : (if x = r then some o else S.ct x) = some u := e
    show H' (if x = r then p else S.ad x) = some u
    by_cases h : x = r
    · rw [if_pos h] at e ⊢; rw [← e]; exact e0
    · rw [if_neg h] at e ⊢; exact s _ _ (k.liv x u e)
  · have e : (if x = r then some o else S.ct x) = some u := e
    show F (if x = r then p else S.ad x) = none
    by_cases h : x = r
    · rw [if_pos h]; exact k.fresh n
    · rw [if_neg h] at e ⊢; exact k.apart x u e
  · have e1 : (if x = r then some o else S.ct x) = some u := e1
    have e2 : (if y = r then some o else S.ct y) = some v := e2
    have e : (if x = r then p else S.ad x) = (if y = r then p else S.ad y) := e
    by_cases h : x = r
    · by_cases h2 : y = r
      · rw [h, h2]
      · rw [if_pos h, if_neg h2] at e
        rw [if_neg h2] at e2
        exact absurd e.symm (k.ne n e2)
    · by_cases h2 : y = r
      · rw [if_neg h, if_pos h2] at e
        rw [if_neg h] at e1
        exact absurd e (k.ne n e1)
      · rw [if_neg h] at e1 e
        rw [if_neg h2] at e2 e
        exact k.inj x y u v e1 e2 e
theorem SOk.made (k : SOk F S H) (n : H p = none) (o : HO) : SOk F (S.new r p o) (upd H p o) := k.adopt (same_upd n) n upd_same
end
/-- what stays where it was -/
def Fix (mv : Role → Bool) (S S' : Sto) : Prop := ∀ r o, mv r = false → S.ct r = some o → S'.ad r = S.ad r ∧ ∃ o', S'.ct r = some o'
theorem Fix.refl {mv : Role → Bool} (S : Sto) : Fix mv S S := fun r o _ e => ⟨rfl, o, e⟩
theorem Fix.trans {mv : Role → Bool} {S S1 S2 : Sto} (a : Fix mv S S1) (b : Fix mv S1 S2) : Fix mv S S2 := fun r o h e => by
  obtain ⟨h1, o1, e1⟩ := a r o h e
  obtain ⟨h2, o2, e2⟩ := b r o1 h e1
  exact ⟨h2.trans h1, o2, e2⟩
theorem Fix.put {mv : Role → Bool} (S : Sto) (r : Role) (o : HO) : Fix mv S (S.put r o) := fun x u _ e => ⟨rfl, by
  by_cases h : x = r
  · exact ⟨o, show (if x = r then some o else S.ct x) = some o by rw [if_pos h]⟩
  · exact ⟨u, show (if x = r then some o else S.ct x) = some u by rw [if_neg h]; exact e⟩⟩
theorem Fix.new {mv : Role → Bool} {S : Sto} {r : Role} {p : Addr} {o : HO} (h : mv r = true ∨ S.ct r = none) : Fix mv S (S.new r p o) := fun x u hx e => by
  have hn : x ≠ r := fun z => by
    rcases h with h | h
    · rw [z, h] at hx; cases hx
    · rw [z, h] at e; cases e
  exact ⟨show (if x = r then p else S.ad x) = _ by rw [if_neg hn], u, show (if x = r then some o else S.ct x) = some u by rw [if_neg hn]; exact e⟩

/-! ### data -/
def wdS : Wd → Str
  | .wake => "wake" | .sleep => "sleep" | .hold => "hold" | .ask => "ask" | .lose => "lose" | .give => "give" | .rouse => "rouse" | .fin => "end"
def evD (e : Evt) : PyData := .tuple (.int e.t :: .int e.p :: .str (wdS e.w) :: e.xs.map fun (x : Nat) => .int x)
def stsD : Sts → PyData
  | .ready => .tuple [.str "ready"]
  | .asleep => .tuple [.str "asleep"]
  | .susp r d => .tuple [.str "suspended", .int r, .int d]
  | .wants r => .tuple [.str "wants", .int r]
  | .fin => .tuple [.str "finished"]
mutual
def insD : Ins → PyData
  | .wait d => .tuple [.str "wait", .int d]
  | .take r k => .tuple [.str "take", .int r, .int k]
  | .give r => .tuple [.str "give", .int r]
  | .rouse p => .tuple [.str "rouse", .int p]
  | .rep n b => .tuple [.str "repeat", .int n, .tuple (insDs b)]
  | .fev b => .tuple [.str "forever", .tuple (insDs b)]
def insDs : List Ins → List PyData
  | [] => []
  | i :: l => insD i :: insDs l
end
theorem insDs_map : ∀ l : List Ins, insDs l = l.map insD
  | [] => by simp [insDs]
  | i :: l => by simp [insDs, insDs_map l]
def restD (l : List Ins) : PyData := .tuple (insDs l)
def discD (b : Bool) : PyData := .str (if b then "preempt" else "rank")
def resD (x : Bool × Nat) : PyData := .tuple [discD x.1, .int x.2]
def cfgD (c : Cfg) : PyData := .tuple [.tuple (c.res.map resD), .tuple [], .tuple [], .tuple (c.scripts.map restD)]
/-- a table of n values -/
def tab (n : Nat) (f : Nat → V) : List V := (List.range n).map f
theorem tab_len (n : Nat) (f : Nat → V) : (tab n f).length = n := by simp [tab]
theorem tab_get {n : Nat} {f : Nat → V} {p : Nat} (h : p < n) : (tab n f)[p]? = some (f p) := by simp [tab, h]
theorem tab_at {n : Nat} {f : Nat → V} {p : Nat} (h : p < n) : atI (tab n f) (p : Int) = some (f p) := atI_nat (tab_get h)
theorem tab_ix {n : Nat} {f : Nat → V} {p : Nat} (h : p < n) : ixN (tab n f).length (p : Int) = some p := by
  rw [tab_len]; unfold ixN; rw [if_pos (by omega), if_pos (by omega)]; simp
theorem tab_set {n : Nat} {f : Nat → V} {p : Nat} {v : V} : (tab n f).set p v = tab n (upf f p v) := by
  apply List.ext_getElem
  · simp [tab]
  · intro i h1 h2
    simp only [tab, List.length_map, List.length_range, List.length_set] at h1 h2
    simp only [tab, List.getElem_set, List.getElem_map, List.getElem_range, upf]
    by_cases e : p = i
    · subst e; simp
    · rw [if_neg e, if_neg (fun z => e z.symm)]
theorem tab_congr {n : Nat} {f g : Nat → V} (h : ∀ p, p < n → f p = g p) : tab n f = tab n g := by
  unfold tab; exact List.map_congr_left fun p hp => h p (List.mem_range.mp hp)

/-! ### the program's run -/
def runFs (S : Sto) (mv : V) (m : M) (rem : Int) (o1 o2 o3 o4 o5 : V) : List (Str × V) :=
  [("model", mv), ("clock", .int m.clock), ("removed", .int rem), ("numbered", .int m.next), ("agenda", .ref (S.ad .ag)), ("log", .ref (S.ad .lg)), ("passes", .ref (S.ad .pa)), ("periods", .ref (S.ad .pe)),
   ("lines", .ref (S.ad .ln)), ("contents", o1), ("getters", o2), ("putters", o3), ("gates", o4), ("passers", o5), ("states", .ref (S.ad .st)), ("rests", .ref (S.ad .re)), ("since", .ref (S.ad .si)), ("until", .ref (S.ad .ti))]
def lineFs (S : Sto) (c : Cfg) (m : M) (r : Nat) : List (Str × V) := [("units", .int (c.units r)), ("requests", .ref (S.ad (.rq r))), ("count", .int (m.counts r))]
def reqFs (q : Rq) : List (Str × V) := [("process", .int q.proc), ("rank", .int q.rank), ("number", .int q.num), ("holds", .bl q.holds)]
def lineCl (A : Adr) (b : Bool) : Addr := if b then A.PreemptLine else A.RankLine
theorem lineCl_ok (A : Adr) (b : Bool) : LineC A (lineCl A b) := by cases b; exact .inl rfl; exact .inr rfl
/-- a period: with or without its end -/
def PerOk (kvs : List (Key × V)) : Prop := ∃ (r n p s : Int), kvs = [(.inr "resource", .int r), (.inr "number", .int n), (.inr "process", .int p), (.inr "start", .int s)] ∨
  ∃ e : Int, kvs = [(.inr "resource", .int r), (.inr "number", .int n), (.inr "process", .int p), (.inr "start", .int s), (.inr "end", .int e)]
def AgR (K : PySem.W.Frag) (F : Hp) (ag : List Ent) (xs : List V) : Prop := ∃ zs : List (V × Ent), xs = zs.map (·.1) ∧ ag = zs.map (·.2) ∧ ∀ z ∈ zs, Dp K F z.1 (entD z.2)
structure PR (K : PySem.W.Frag) (A : Adr) (c : Cfg) (mv : V) (m : M) (F : Hp) (S : Sto) : Prop where
  run : ∃ dx rem o1 o2 o3 o4 o5, S.ct .run = some (.ins A.Run dx (runFs S mv m rem o1 o2 o3 o4 o5))
  ag : ∃ xs, S.ct .ag = some (.lst xs) ∧ AgR K F m.agenda xs
  lg : ∃ xs, S.ct .lg = some (.lst xs) ∧ DpAll K F xs (m.log.map evD)
  pa : ∃ xs, S.ct .pa = some (.lst xs) ∧ xs.length = m.npass
  pe : ∃ k, S.ct .pe = some (.lst (tab k fun i => .ref (S.ad (.per i)))) ∧ k ≤ m.log.length ∧ ∀ i, i < k → ∃ kvs, S.ct (.per i) = some (.dK kvs) ∧ PerOk kvs
  ln : S.ct .ln = some (.lst (tab c.nr fun r => .ref (S.ad (.line r))))
  st : ∃ f, S.ct .st = some (.lst (tab c.n f)) ∧ ∀ p, p < c.n → Dp K F (f p) (stsD (m.states p))
  re : ∃ f, S.ct .re = some (.lst (tab c.n f)) ∧ ∀ p, p < c.n → Dp K F (f p) (restD (m.rests p))
  si : S.ct .si = some (.lst (tab c.n fun p => .int (m.since p)))
  ti : S.ct .ti = some (.lst (tab c.n fun p => .int (m.til p)))
  line : ∀ r, r < c.nr → ∃ dx, S.ct (.line r) = some (.ins (lineCl A (c.pre r)) dx (lineFs S c m r))
  rq : ∀ r, r < c.nr → S.ct (.rq r) = some (.lst ((m.reqs r).map fun q => .ref (S.ad (.req r q.num))))
  req : ∀ r, r < c.nr → ∀ q ∈ m.reqs r, ∃ dx, S.ct (.req r q.num) = some (.ins A.Request dx (reqFs q))
  num : ∀ r, r < c.nr → ∀ q ∈ m.reqs r, q.num < m.counts r
  old : ∀ r, r < c.nr → ∀ n, m.counts r ≤ n → S.ct (.req r n) = none
  mod : Dp K F mv (cfgD c)
structure PAt (K : PySem.W.Frag) (A : Adr) (c : Cfg) (mv : V) (a : Addr) (m : M) (F : Hp) (S : Sto) (H : Hp) : Prop where
  ok : SOk F S H
  rp : PR K A c mv m F S
  adr : S.ad .run = a
/-- the program's lists that are made anew -/
def mvP : Role → Bool
  | .ag => true
  | .rq _ => true
  | .per _ => true
  | _ => false
section
variable {K : PySem.W.Frag} {A : Adr} {c : Cfg} {mv : V} {m : M} {F F' : Hp} {S : Sto} {H H' : Hp} {a : Addr}
theorem AgR.mono {ag : List Ent} {xs : List V} (s : Same F F') (h : AgR K F ag xs) : AgR K F' ag xs := by
  obtain ⟨zs, h1, h2, h3⟩ := h
  exact ⟨zs, h1, h2, fun z hz => dp_same s (h3 z hz)⟩
theorem PR.mono (R : PR K A c mv m F S) (s : Same F F') : PR K A c mv m F' S :=
  ⟨R.run, let ⟨xs, h1, h2⟩ := R.ag; ⟨xs, h1, h2.mono s⟩, let ⟨xs, h1, h2⟩ := R.lg; ⟨xs, h1, dpa_same s h2⟩, R.pa, R.pe, R.ln, let ⟨f, h1, h2⟩ := R.st; ⟨f, h1, fun p hp => dp_same s (h2 p hp)⟩,
    let ⟨f, h1, h2⟩ := R.re; ⟨f, h1, fun p hp => dp_same s (h2 p hp)⟩, R.si, R.ti, R.line, R.rq, R.req, R.num, R.old, dp_same s R.mod⟩
theorem PAt.same (h : PAt K A c mv a m F S H) (s : Same H H') : PAt K A c mv a m F S H' := ⟨h.ok.same s, h.rp, h.adr⟩
theorem PAt.frz (h : PAt K A c mv a m F S H) {p : Addr} (n : H p = none) (o : HO) : PAt K A c mv a m (upd F p o) S (upd H p o) := ⟨h.ok.frz n o, h.rp.mono (same_upd (h.ok.fresh n)), h.adr⟩
theorem PAt.keep (h : PAt K A c mv a m F S H) {p : Addr} {o : HO} (s : Same H H') (n : H p = none) (e : H' p = some o) : PAt K A c mv a m (upd F p o) S H' := ⟨h.ok.keep s n e, h.rp.mono (same_upd (h.ok.fresh n)), h.adr⟩
theorem PAt.up (h : PAt K A c mv a m F S H) {p : Addr} (n : H p = none) (o : HO) : Same F (upd F p o) := same_upd (h.ok.fresh n)
/-- the run itself -/
theorem PAt.run (h : PAt K A c mv a m F S H) : ∃ dx rem o1 o2 o3 o4 o5, S.ct .run = some (.ins A.Run dx (runFs S mv m rem o1 o2 o3 o4 o5)) ∧ H a = some (.ins A.Run dx (runFs S mv m rem o1 o2 o3 o4 o5)) := by
  obtain ⟨dx, rem, o1, o2, o3, o4, o5, e⟩ := h.rp.run
  exact ⟨dx, rem, o1, o2, o3, o4, o5, e, h.adr ▸ h.ok.liv _ _ e⟩
/-- the agenda's list gets new items -/
theorem PAt.setAg (h : PAt K A c mv a m F S H) {xs0 : List V} (e : S.ct .ag = some (.lst xs0)) {ag : List Ent} {xs : List V} (g : AgR K F ag xs) :
    ∃ S', PAt K A c mv a { m with agenda := ag } F S' (upd H (S.ad .ag) (.lst xs)) ∧ Fix mvP S S' :=
  ⟨S.put .ag (.lst xs), ⟨h.ok.put e _, let R := h.rp; ⟨R.run, ⟨xs, rfl, g⟩, R.lg, R.pa, R.pe, R.ln, R.st, R.re, R.si, R.ti, R.line, R.rq, R.req, R.num, R.old, R.mod⟩, h.adr⟩, Fix.put _ _ _⟩
theorem PAt.addLg (h : PAt K A c mv a m F S H) {xs : List V} (e : S.ct .lg = some (.lst xs)) (d : DpAll K F xs (m.log.map evD)) {v : V} {ev : Evt} (dv : Dp K F v (evD ev)) :
    ∃ S', PAt K A c mv a { m with log := m.log ++ [ev] } F S' (upd H (S.ad .lg) (.lst (xs ++ [v]))) ∧ Fix mvP S S' ∧ S'.ct .pe = S.ct .pe := by
  refine ⟨S.put .lg (.lst (xs ++ [v])), ⟨h.ok.put e _, ?_, h.adr⟩, Fix.put _ _ _, rfl⟩
  have R := h.rp
  refine ⟨R.run, R.ag, ⟨_, rfl, ?_⟩, R.pa, ?_, R.ln, R.st, R.re, R.si, R.ti, R.line, R.rq, R.req, R.num, R.old, R.mod⟩
  · show DpAll K F (xs ++ [v]) ((m.log ++ [ev]).map evD)
    rw [List.map_append]; exact dpa_append d (.cons dv .nil)
  · obtain ⟨k, h1, h2, h3⟩ := R.pe
    exact ⟨k, h1, by show k ≤ (m.log ++ [ev]).length; rw [List.length_append]; omega, h3⟩
theorem PAt.addPa (h : PAt K A c mv a m F S H) {xs : List V} (e : S.ct .pa = some (.lst xs)) (d : xs.length = m.npass) (v : V) :
    ∃ S', PAt K A c mv a { m with npass := m.npass + 1 } F S' (upd H (S.ad .pa) (.lst (xs ++ [v]))) ∧ Fix mvP S S' :=
  ⟨S.put .pa (.lst (xs ++ [v])), ⟨h.ok.put e _, let R := h.rp; ⟨R.run, R.ag, R.lg, ⟨_, rfl, by rw [List.length_append, d]; rfl⟩, R.pe, R.ln, R.st, R.re, R.si, R.ti, R.line, R.rq, R.req, R.num, R.old, R.mod⟩, h.adr⟩, Fix.put _ _ _⟩
theorem PAt.setSt (h : PAt K A c mv a m F S H) {f : Nat → V} (e : S.ct .st = some (.lst (tab c.n f))) (d : ∀ p, p < c.n → Dp K F (f p) (stsD (m.states p))) {p : Nat} {v : V} {s : Sts} (dv : Dp K F v (stsD s)) :
    ∃ S', PAt K A c mv a (m.setSt p s) F S' (upd H (S.ad .st) (.lst ((tab c.n f).set p v))) ∧ Fix mvP S S' := by
  rw [tab_set]
  refine ⟨S.put .st (.lst (tab c.n (upf f p v))), ⟨h.ok.put e _, ?_, h.adr⟩, Fix.put _ _ _⟩
  have R := h.rp
  refine ⟨R.run, R.ag, R.lg, R.pa, R.pe, R.ln, ⟨_, rfl, fun q hq => ?_⟩, R.re, R.si, R.ti, R.line, R.rq, R.req, R.num, R.old, R.mod⟩
  show Dp K F (upf f p v q) (stsD (upf m.states p s q))
  unfold upf
  by_cases z : q = p
  · rw [if_pos z, if_pos z]; exact dv
  · rw [if_neg z, if_neg z]; exact d q hq
theorem PAt.setRe (h : PAt K A c mv a m F S H) {f : Nat → V} (e : S.ct .re = some (.lst (tab c.n f))) (d : ∀ p, p < c.n → Dp K F (f p) (restD (m.rests p))) {p : Nat} {v : V} {l : List Ins} (dv : Dp K F v (restD l)) :
    ∃ S', PAt K A c mv a (m.setRest p l) F S' (upd H (S.ad .re) (.lst ((tab c.n f).set p v))) ∧ Fix mvP S S' := by
  rw [tab_set]
  refine ⟨S.put .re (.lst (tab c.n (upf f p v))), ⟨h.ok.put e _, ?_, h.adr⟩, Fix.put _ _ _⟩
  have R := h.rp
  refine ⟨R.run, R.ag, R.lg, R.pa, R.pe, R.ln, R.st, ⟨_, rfl, fun q hq => ?_⟩, R.si, R.ti, R.line, R.rq, R.req, R.num, R.old, R.mod⟩
  show Dp K F (upf f p v q) (restD (upf m.rests p l q))
  unfold upf
  by_cases z : q = p
  · rw [if_pos z, if_pos z]; exact dv
  · rw [if_neg z, if_neg z]; exact d q hq
theorem upf_int (g : Nat → Nat) (p t : Nat) : upf (fun q => V.int ((g q : Nat) : Int)) p (.int ((t : Nat) : Int)) = fun q => V.int ((upf g p t q : Nat) : Int) := by
  funext q; unfold upf; split <;> rfl
theorem PAt.setSi (h : PAt K A c mv a m F S H) (p t : Nat) :
    ∃ S', PAt K A c mv a { m with since := upf m.since p t } F S' (upd H (S.ad .si) (.lst ((tab c.n fun p => .int (m.since p)).set p (.int t)))) ∧ Fix mvP S S' := by
  rw [tab_set, upf_int]
  exact ⟨S.put .si (.lst _), ⟨h.ok.put h.rp.si _, let R := h.rp; ⟨R.run, R.ag, R.lg, R.pa, R.pe, R.ln, R.st, R.re, rfl, R.ti, R.line, R.rq, R.req, R.num, R.old, R.mod⟩, h.adr⟩, Fix.put _ _ _⟩
theorem PAt.setTi (h : PAt K A c mv a m F S H) (p t : Nat) :
    ∃ S', PAt K A c mv a { m with til := upf m.til p t } F S' (upd H (S.ad .ti) (.lst ((tab c.n fun p => .int (m.til p)).set p (.int t)))) ∧ Fix mvP S S' := by
  rw [tab_set, upf_int]
  exact ⟨S.put .ti (.lst _), ⟨h.ok.put h.rp.ti _, let R := h.rp; ⟨R.run, R.ag, R.lg, R.pa, R.pe, R.ln, R.st, R.re, R.si, rfl, R.line, R.rq, R.req, R.num, R.old, R.mod⟩, h.adr⟩, Fix.put _ _ _⟩
section
variable {dx : Addr} {rem : Int} {o1 o2 o3 o4 o5 : V}
theorem PAt.setClock (h : PAt K A c mv a m F S H) (e : S.ct .run = some (.ins A.Run dx (runFs S mv m rem o1 o2 o3 o4 o5))) (t : Nat) :
    ∃ S', PAt K A c mv a { m with clock := t } F S' (upd H a (.ins A.Run dx (putF "clock" (.int t) (runFs S mv m rem o1 o2 o3 o4 o5)))) ∧ Fix mvP S S' := by
  obtain rfl := h.adr
  exact ⟨S.put .run (.ins A.Run dx (putF "clock" (.int t) (runFs S mv m rem o1 o2 o3 o4 o5))), ⟨h.ok.put e _, let R := h.rp; ⟨⟨dx, rem, o1, o2, o3, o4, o5, rfl⟩, R.ag, R.lg, R.pa, R.pe, R.ln, R.st, R.re, R.si, R.ti, R.line, R.rq, R.req, R.num, R.old, R.mod⟩, rfl⟩, Fix.put _ _ _⟩
theorem PAt.setRem (h : PAt K A c mv a m F S H) (e : S.ct .run = some (.ins A.Run dx (runFs S mv m rem o1 o2 o3 o4 o5))) (t : Int) :
    ∃ S', PAt K A c mv a m F S' (upd H a (.ins A.Run dx (putF "removed" (.int t) (runFs S mv m rem o1 o2 o3 o4 o5)))) ∧ Fix mvP S S' := by
  obtain rfl := h.adr
  exact ⟨S.put .run (.ins A.Run dx (putF "removed" (.int t) (runFs S mv m rem o1 o2 o3 o4 o5))), ⟨h.ok.put e _, let R := h.rp; ⟨⟨dx, t, o1, o2, o3, o4, o5, rfl⟩, R.ag, R.lg, R.pa, R.pe, R.ln, R.st, R.re, R.si, R.ti, R.line, R.rq, R.req, R.num, R.old, R.mod⟩, rfl⟩, Fix.put _ _ _⟩
theorem PAt.setNext (h : PAt K A c mv a m F S H) (e : S.ct .run = some (.ins A.Run dx (runFs S mv m rem o1 o2 o3 o4 o5))) (t : Nat) :
    ∃ S', PAt K A c mv a { m with next := t } F S' (upd H a (.ins A.Run dx (putF "numbered" (.int t) (runFs S mv m rem o1 o2 o3 o4 o5)))) ∧ Fix mvP S S' := by
  obtain rfl := h.adr
  exact ⟨S.put .run (.ins A.Run dx (putF "numbered" (.int t) (runFs S mv m rem o1 o2 o3 o4 o5))), ⟨h.ok.put e _, let R := h.rp; ⟨⟨dx, rem, o1, o2, o3, o4, o5, rfl⟩, R.ag, R.lg, R.pa, R.pe, R.ln, R.st, R.re, R.si, R.ti, R.line, R.rq, R.req, R.num, R.old, R.mod⟩, rfl⟩, Fix.put _ _ _⟩
/-- the agenda is another list -/
theorem PAt.newAg (h : PAt K A c mv a m F S H) (e : S.ct .run = some (.ins A.Run dx (runFs S mv m rem o1 o2 o3 o4 o5))) {p : Addr} {xs : List V} {ag : List Ent} (s : Same H H') (n : H p = none) (ep : H' p = some (.lst xs)) (g : AgR K F ag xs) :
    ∃ S', PAt K A c mv a { m with agenda := ag } F S' (upd H' a (.ins A.Run dx (putF "agenda" (.ref p) (runFs S mv m rem o1 o2 o3 o4 o5)))) ∧ Fix mvP S S' := by
  obtain rfl := h.adr
  have k := (h.ok.adopt (r := .ag) s n ep).put (r := .run) (o0 := .ins A.Run dx (runFs S mv m rem o1 o2 o3 o4 o5)) e (.ins A.Run dx (putF "agenda" (.ref p) (runFs S mv m rem o1 o2 o3 o4 o5)))
  exact ⟨_, ⟨k, let R := h.rp; ⟨⟨dx, rem, o1, o2, o3, o4, o5, rfl⟩, ⟨xs, rfl, g⟩, R.lg, R.pa, R.pe, R.ln, R.st, R.re, R.si, R.ti, R.line, R.rq, R.req, R.num, R.old, R.mod⟩, rfl⟩, (Fix.new (.inl rfl)).trans (Fix.put _ _ _)⟩
end
/-- a period begins -/
theorem PAt.addPer (h : PAt K A c mv a m F S H) {k : Nat} (e : S.ct .pe = some (.lst (tab k fun i => .ref (S.ad (.per i))))) (hk : k < m.log.length) (d : ∀ i, i < k → ∃ kvs, S.ct (.per i) = some (.dK kvs) ∧ PerOk kvs) {p : Addr} {kvs : List (Key × V)} (s : Same H H') (n : H p = none) (ep : H' p = some (.dK kvs)) (g : PerOk kvs) :
    ∃ S', PAt K A c mv a m F S' (upd H' (S.ad .pe) (.lst ((tab k fun i => .ref (S.ad (.per i))) ++ [.ref p]))) ∧ Fix mvP S S' := by
  have k2 := (h.ok.adopt (r := .per k) s n ep).put (r := .pe) (o0 := .lst (tab k fun i => .ref (S.ad (.per i)))) e (.lst ((tab k fun i => .ref (S.ad (.per i))) ++ [.ref p]))
  refine ⟨_, ⟨k2, ?_, h.adr⟩, (Fix.new (.inl rfl)).trans (Fix.put _ _ _)⟩
  have R := h.rp
  refine ⟨R.run, R.ag, R.lg, R.pa, ⟨k + 1, ?_, hk, fun i hi => ?_⟩, R.ln, R.st, R.re, R.si, R.ti, R.line, R.rq, R.req, R.num, R.old, R.mod⟩
  · show some (HO.lst _) = some (HO.lst _)
    congr 2
    show tab k (fun i => V.ref (S.ad (.per i))) ++ [V.ref p] = tab (k + 1) fun i => V.ref (if Role.per i = Role.per k then p else S.ad (.per i))
    unfold tab
    rw [List.range_succ, List.map_append]
    congr 1
    · exact List.map_congr_left fun i hi => by rw [if_neg (fun z => by cases z; exact absurd (List.mem_range.mp hi) (Nat.lt_irrefl _))]
    · simp
  · by_cases z : i = k
    · subst z
      exact ⟨kvs, (Sto.put_ne _ _ (by intro q; cases q)).trans (Sto.new_eq _ _ _ _), g⟩
    · obtain ⟨kv, h1, h2⟩ := d i (by omega)
      exact ⟨kv, ((Sto.put_ne _ _ (by intro q; cases q)).trans (Sto.new_ne _ _ _ (by intro q; cases q; exact z rfl))).trans h1, h2⟩
/-- a period is changed -/
theorem PAt.setPer (h : PAt K A c mv a m F S H) {i : Nat} {kvs kvs' : List (Key × V)} (e : S.ct (.per i) = some (.dK kvs)) (g : PerOk kvs') : ∃ S', PAt K A c mv a m F S' (upd H (S.ad (.per i)) (.dK kvs')) ∧ Fix mvP S S' ∧ S'.ad = S.ad ∧ (S'.ct .pe = S.ct .pe) := by
  refine ⟨S.put (.per i) (.dK kvs'), ⟨h.ok.put e _, ?_, h.adr⟩, Fix.put _ _ _, rfl, rfl⟩
  have R := h.rp
  refine ⟨R.run, R.ag, R.lg, R.pa, ?_, R.ln, R.st, R.re, R.si, R.ti, R.line, R.rq, R.req, R.num, R.old, R.mod⟩
  obtain ⟨k, h1, h2, h3⟩ := R.pe
  refine ⟨k, h1, h2, fun j hj => ?_⟩
  by_cases z : j = i
  · subst z; exact ⟨kvs', Sto.put_eq _ _ _, g⟩
  · obtain ⟨kv, h4, h5⟩ := h3 j hj
    exact ⟨kv, (Sto.put_ne _ _ (by intro q; cases q; exact z rfl)).trans h4, h5⟩

/-! ### the lines -/
theorem PAt.line (h : PAt K A c mv a m F S H) {r : Nat} (hr : r < c.nr) : ∃ dx, S.ct (.line r) = some (.ins (lineCl A (c.pre r)) dx (lineFs S c m r)) ∧ H (S.ad (.line r)) = some (.ins (lineCl A (c.pre r)) dx (lineFs S c m r)) := by
  obtain ⟨dx, e⟩ := h.rp.line r hr
  exact ⟨dx, e, h.ok.liv _ _ e⟩
theorem PAt.rqL (h : PAt K A c mv a m F S H) {r : Nat} (hr : r < c.nr) : H (S.ad (.rq r)) = some (.lst ((m.reqs r).map fun q => .ref (S.ad (.req r q.num)))) := h.ok.liv _ _ (h.rp.rq r hr)
theorem PAt.reqO (h : PAt K A c mv a m F S H) {r : Nat} (hr : r < c.nr) {q : Rq} (hq : q ∈ m.reqs r) : ∃ dx, S.ct (.req r q.num) = some (.ins A.Request dx (reqFs q)) ∧ H (S.ad (.req r q.num)) = some (.ins A.Request dx (reqFs q)) := by
  obtain ⟨dx, e⟩ := h.rp.req r hr q hq
  exact ⟨dx, e, h.ok.liv _ _ e⟩
theorem lf_upd {S S' : Sto} {c : Cfg} {m m' : M} {r : Nat} (h1 : S'.ad (.rq r) = S.ad (.rq r)) (h2 : m'.counts r = m.counts r) : lineFs S' c m' r = lineFs S c m r := by unfold lineFs; rw [h1, h2]
/-- a new request at the end of the line, count + 1 -/
theorem PAt.addReq (h : PAt K A c mv a m F S H) {r : Nat} (hr : r < c.nr) {dl : Addr} (el : S.ct (.line r) = some (.ins (lineCl A (c.pre r)) dl (lineFs S c m r))) {p dx : Addr} {q : Rq} (s : Same H H') (n : H p = none) (ep : H' p = some (.ins A.Request dx (reqFs q))) (hq : q.num = m.counts r) :
    ∃ S', PAt K A c mv a { m with reqs := upf m.reqs r (m.reqs r ++ [q]), counts := upf m.counts r (m.counts r + 1) } F S'
      (upd (upd H' (S.ad (.rq r)) (.lst (((m.reqs r).map fun q => V.ref (S.ad (.req r q.num))) ++ [.ref p]))) (S.ad (.line r)) (.ins (lineCl A (c.pre r)) dl (putF "count" (.int ((m.counts r : Int) + 1)) (lineFs S c m r)))) ∧ Fix mvP S S' ∧ S'.ad (.req r q.num) = p := by
  have k1 := h.ok.adopt (r := .req r q.num) s n ep
  have e1 : (S.new (.req r q.num) p (.ins A.Request dx (reqFs q))).ct (.rq r) = some (.lst ((m.reqs r).map fun q => .ref (S.ad (.req r q.num)))) := h.rp.rq r hr
  have k2 := k1.put e1 (.lst (((m.reqs r).map fun q => V.ref (S.ad (.req r q.num))) ++ [.ref p]))
  have k3 := k2.put (r := .line r) (o0 := .ins (lineCl A (c.pre r)) dl (lineFs S c m r)) el (.ins (lineCl A (c.pre r)) dl (putF "count" (.int ((m.counts r : Int) + 1)) (lineFs S c m r)))
  have R := h.rp
  have hnew : ∀ x ∈ m.reqs r, x.num ≠ q.num := fun x hx z => by have := R.num r hr x hx; omega
  have had : ∀ (b : Nat) (x : Rq), b < c.nr → x ∈ m.reqs b → Role.req b x.num ≠ Role.req r q.num := fun b x hb hx z => by
    injection z with z1 z2
    subst z1
    exact hnew x hx z2
  refine ⟨_, ⟨k3, ?_, h.adr⟩, ((Fix.new (.inr (R.old r hr _ (by omega)))).trans (Fix.put _ _ _)).trans (Fix.put _ _ _), Sto.new_ad_eq S (.req r q.num) p (.ins A.Request dx (reqFs q))⟩
  refine ⟨R.run, R.ag, R.lg, R.pa, R.pe, R.ln, R.st, R.re, R.si, R.ti, fun b hb => ?_, fun b hb => ?_, fun b hb x hx => ?_, fun b hb x hx => ?_, fun b hb n hn => ?_, R.mod⟩
  · by_cases z : b = r
    · subst z
      refine ⟨dl, (Sto.put_eq _ _ _).trans ?_⟩
      refine congrArg (fun l => some (HO.ins (lineCl A (c.pre b)) dl l)) ?_
      simp only [lineFs, upf_same]
      rfl
    · obtain ⟨d, e⟩ := R.line b hb
      refine ⟨d, (Sto.put_ne _ _ (by intro q; cases q; exact z rfl)).trans (e.trans ?_)⟩
      congr 2
      exact (lf_upd rfl (upf_ne _ _ z)).symm
  · have hl : ∀ l : List Rq, (∀ x ∈ l, x ∈ m.reqs b) → l.map (fun x => V.ref (if Role.req b x.num = Role.req r q.num then p else S.ad (.req b x.num))) = l.map fun x => V.ref (S.ad (.req b x.num)) := fun l hl =>
      List.map_congr_left fun x hx => by rw [if_neg (had b x hb (hl x hx))]
    by_cases z : b = r
    · subst z
      refine (Sto.put_ne _ _ (by intro q; cases q)).trans ((Sto.put_eq _ _ _).trans ?_)
      congr 2
      show _ = (upf m.reqs b (m.reqs b ++ [q]) b).map fun x => V.ref (if Role.req b x.num = Role.req b q.num then p else S.ad (.req b x.num))
      rw [upf_same, List.map_append, hl _ fun _ h => h]
      simp
    · refine (Sto.put_ne _ _ (by intro q; cases q)).trans ((Sto.put_ne _ _ (by intro q; cases q; exact z rfl)).trans ((R.rq b hb).trans ?_))
      congr 2
      show _ = (upf m.reqs r (m.reqs r ++ [q]) b).map fun x => V.ref (if Role.req b x.num = Role.req r q.num then p else S.ad (.req b x.num))
      rw [upf_ne _ _ z, hl _ fun _ h => h]
  · have hx : x ∈ upf m.reqs r (m.reqs r ++ [q]) b := hx
    by_cases z : b = r ∧ x.num = q.num
    · obtain ⟨z1, z2⟩ := z
      subst z1
      rw [upf_same] at hx
      rcases List.mem_append.mp hx with hx | hx
      · exact absurd z2 (hnew x hx)
      · obtain rfl := List.mem_singleton.mp hx
        exact ⟨dx, (Sto.put_ne _ _ (by intro q; cases q)).trans ((Sto.put_ne _ _ (by intro q; cases q)).trans (Sto.new_eq _ _ _ _))⟩
    · have hx' : x ∈ m.reqs b := by
        by_cases zb : b = r
        · subst zb
          rw [upf_same] at hx
          rcases List.mem_append.mp hx with hx | hx
          · exact hx
          · obtain rfl := List.mem_singleton.mp hx
            exact absurd ⟨rfl, rfl⟩ z
        · rw [upf_ne _ _ zb] at hx; exact hx
      obtain ⟨d, e⟩ := R.req b hb x hx'
      exact ⟨d, ((Sto.put_ne _ _ (by intro q; cases q)).trans ((Sto.put_ne _ _ (by intro q; cases q)).trans (Sto.new_ne _ _ _ (had b x hb hx')))).trans e⟩
  · have hx : x ∈ upf m.reqs r (m.reqs r ++ [q]) b := hx
    show x.num < upf m.counts r (m.counts r + 1) b
    by_cases z : b = r
    · subst z
      rw [upf_same] at hx ⊢
      rcases List.mem_append.mp hx with hx | hx
      · have := R.num b hb x hx; omega
      · obtain rfl := List.mem_singleton.mp hx; omega
    · rw [upf_ne _ _ z] at hx ⊢; exact R.num b hb x hx
  · have hn : upf m.counts r (m.counts r + 1) b ≤ n := hn
    have hnb : m.counts b ≤ n ∧ ¬ (b = r ∧ n = q.num) := by
      by_cases z : b = r
      · subst z; rw [upf_same] at hn; exact ⟨by omega, fun w => by omega⟩
      · rw [upf_ne _ _ z] at hn; exact ⟨hn, fun w => z w.1⟩
    exact ((Sto.put_ne _ _ (by intro q; cases q)).trans ((Sto.put_ne _ _ (by intro q; cases q)).trans (Sto.new_ne _ _ _ (by intro w; cases w; exact hnb.2 ⟨rfl, rfl⟩)))).trans (R.old b hb n hnb.1)
theorem mem_setHold2 {l : List Rq} {n : Nat} {b : Bool} {x : Rq} (h : x ∈ setHold l n b) : ∃ y ∈ l, y.num = x.num ∧ x = (if y.num = n then { y with holds := b } else y) := by
  obtain ⟨y, hy, e⟩ := List.mem_map.mp h
  refine ⟨y, hy, ?_, e.symm⟩
  rw [← e]; split <;> rfl
/-- a request's holds is set -/
theorem PAt.hold (h : PAt K A c mv a m F S H) {r : Nat} (hr : r < c.nr) {q : Rq} (hq : q ∈ m.reqs r) {dx : Addr} (e : S.ct (.req r q.num) = some (.ins A.Request dx (reqFs q))) (b : Bool) :
    ∃ S', PAt K A c mv a (m.setLine r (setHold (m.reqs r) q.num b)) F S' (upd H (S.ad (.req r q.num)) (.ins A.Request dx (putF "holds" (.bl b) (reqFs q)))) ∧ Fix mvP S S' ∧ S'.ad = S.ad := by
  refine ⟨S.put (.req r q.num) (.ins A.Request dx (putF "holds" (.bl b) (reqFs q))), ⟨h.ok.put e _, ?_, h.adr⟩, Fix.put _ _ _, rfl⟩
  have R := h.rp
  refine ⟨R.run, R.ag, R.lg, R.pa, R.pe, R.ln, R.st, R.re, R.si, R.ti, R.line, fun j hj => ?_, fun j hj x hx => ?_, fun j hj x hx => ?_, fun j hj n hn => ?_, R.mod⟩
  · refine (R.rq j hj).trans ?_
    congr 2
    show _ = (upf m.reqs r (setHold (m.reqs r) q.num b) j).map fun q => V.ref (S.ad (.req j q.num))
    by_cases z : j = r
    · subst z
      rw [upf_same, setHold, List.map_map]
      refine List.map_congr_left fun x _ => ?_
      show _ = V.ref (S.ad (.req j (if x.num = q.num then { x with holds := b } else x).num))
      split <;> rfl
    · rw [upf_ne _ _ z]
  · have hx : x ∈ upf m.reqs r (setHold (m.reqs r) q.num b) j := hx
    by_cases z : j = r
    · subst z
      rw [upf_same] at hx
      obtain ⟨y, hy, hn, ex⟩ := mem_setHold2 hx
      by_cases w : y.num = q.num
      · rw [if_pos w] at ex
        obtain ⟨d, e2⟩ := R.req j hj y hy
        have e3 : S.ct (.req j q.num) = some (.ins A.Request d (reqFs y)) := w ▸ e2
        have e4 : some (HO.ins A.Request dx (reqFs q)) = some (HO.ins A.Request d (reqFs y)) := e.symm.trans e3
        have e5 : dx = d ∧ reqFs q = reqFs y := by
          injection e4 with e4
          injection e4 with _ e4 e5
          exact ⟨e4, e5⟩
        refine ⟨dx, ?_⟩
        rw [← hn, w]
        refine (Sto.put_eq _ _ _).trans ?_
        rw [ex, e5.2]
        rfl
      · rw [if_neg w] at ex
        subst ex
        obtain ⟨d, e2⟩ := R.req j hj x hy
        exact ⟨d, (Sto.put_ne _ _ (fun v => by injection v with _ v2; exact w (hn.trans v2))).trans e2⟩
    · rw [upf_ne _ _ z] at hx
      obtain ⟨d, e2⟩ := R.req j hj x hx
      exact ⟨d, (Sto.put_ne _ _ (fun v => by injection v with v1 _; exact z v1)).trans e2⟩
  · have hx : x ∈ upf m.reqs r (setHold (m.reqs r) q.num b) j := hx
    by_cases z : j = r
    · subst z
      rw [upf_same] at hx
      obtain ⟨y, hy, hn, _⟩ := mem_setHold2 hx
      rw [← hn]; exact R.num j hj y hy
    · rw [upf_ne _ _ z] at hx; exact R.num j hj x hx
  · have := R.num r hr q hq
    exact (Sto.put_ne _ _ (fun v => by injection v with v1 v2; have hn' : m.counts j ≤ n := hn; rw [v1, v2] at hn'; omega)).trans (R.old j hj n hn)
/-- the line's list is another one, without a request -/
theorem PAt.drop (h : PAt K A c mv a m F S H) {r : Nat} (hr : r < c.nr) {dl : Addr} (el : S.ct (.line r) = some (.ins (lineCl A (c.pre r)) dl (lineFs S c m r))) {n : Nat} {p : Addr} (s : Same H H') (nn : H p = none) (ep : H' p = some (.lst ((without (m.reqs r) n).map fun q => V.ref (S.ad (.req r q.num))))) :
    ∃ S', PAt K A c mv a (m.setLine r (without (m.reqs r) n)) F S' (upd H' (S.ad (.line r)) (.ins (lineCl A (c.pre r)) dl (putF "requests" (.ref p) (lineFs S c m r)))) ∧ Fix mvP S S' := by
  have k := (h.ok.adopt (r := .rq r) s nn ep).put (r := .line r) (o0 := .ins (lineCl A (c.pre r)) dl (lineFs S c m r)) el (.ins (lineCl A (c.pre r)) dl (putF "requests" (.ref p) (lineFs S c m r)))
  refine ⟨_, ⟨k, ?_, h.adr⟩, (Fix.new (.inl rfl)).trans (Fix.put _ _ _)⟩
  have R := h.rp
  have hsub : ∀ {j : Nat} {x : Rq}, x ∈ upf m.reqs r (without (m.reqs r) n) j → x ∈ m.reqs j := fun {j x} hx => by
    by_cases z : j = r
    · subst z; rw [upf_same] at hx; exact (List.mem_filter.mp hx).1
    · rw [upf_ne _ _ z] at hx; exact hx
  refine ⟨R.run, R.ag, R.lg, R.pa, R.pe, R.ln, R.st, R.re, R.si, R.ti, fun j hj => ?_, fun j hj => ?_, fun j hj x hx => ?_, fun j hj x hx => R.num j hj x (hsub hx), R.old, R.mod⟩
  · by_cases z : j = r
    · subst z
      refine ⟨dl, (Sto.put_eq _ _ _).trans ?_⟩
      refine congrArg (fun l => some (HO.ins (lineCl A (c.pre j)) dl l)) ?_
      have e2 : ∀ o o' : HO, ((S.new (.rq j) p o).put (.line j) o').ad (.rq j) = p := fun o o' => Sto.new_ad_eq S (.rq j) p o
      show putF "requests" (.ref p) (lineFs S c m j) = [(Str.ofString "units", V.int (c.units j)), (Str.ofString "requests", V.ref _), (Str.ofString "count", V.int (m.counts j))]
      rw [e2]
      rfl
    · obtain ⟨d, e⟩ := R.line j hj
      refine ⟨d, (Sto.put_ne _ _ (by intro q; cases q; exact z rfl)).trans (e.trans ?_)⟩
      congr 2
      exact (lf_upd (show (if Role.rq j = Role.rq r then p else S.ad (.rq j)) = _ by rw [if_neg (by intro q; cases q; exact z rfl)]) rfl).symm
  · by_cases z : j = r
    · subst z
      refine (Sto.put_ne _ _ (by intro q; cases q)).trans ((Sto.new_eq _ _ _ _).trans ?_)
      show _ = some (HO.lst ((upf m.reqs j (without (m.reqs j) n) j).map fun q => V.ref (S.ad (.req j q.num))))
      rw [upf_same]
    · refine (Sto.put_ne _ _ (by intro q; cases q)).trans ((Sto.new_ne _ _ _ (by intro q; cases q; exact z rfl)).trans ((R.rq j hj).trans ?_))
      show _ = some (HO.lst ((upf m.reqs r (without (m.reqs r) n) j).map fun q => V.ref (S.ad (.req j q.num))))
      rw [upf_ne _ _ z]
  · obtain ⟨d, e⟩ := R.req j hj x (hsub hx)
    exact ⟨d, ((Sto.put_ne _ _ (by intro q; cases q)).trans (Sto.new_ne _ _ _ (by intro q; cases q))).trans e⟩
end
end Ev
/-! The rules with the frame's K written out (a comprehension's reading may not speak of its block). -/
namespace Ev
open PySem PySem.Spec PyProof.Rows L2
section
variable (K : PySem.W.Frag) {X : Cx}
theorem ixT (h : X.K = K := by rfl) : IxR X (rIxT K) := by subst h; exact ix_tup
theorem ixL (h : X.K = K := by rfl) : IxR X (rIxL K) := by subst h; exact ix_list
theorem fldK {e : Expr} {f : Str} {pos : Pos} {ta : TE} (he : PE X e ta) (hb : attributeBase e f X.env (eval e X.env) = eval e X.env) (h : X.K = K := by rfl) : PE X (.Attribute e f pos) (tFld K ta f) := by subst h; exact pe_fld he hb
theorem opIn (h : X.K = K := by rfl) : OpR X (compareOp .In) (rIn K false) := by subst h; exact op_in_seq
theorem opNotIn (h : X.K = K := by rfl) : OpR X (compareOp .NotIn) (rIn K true) := by subst h; exact op_notIn_seq
theorem opEqD (hu : X.A.units + 64 < cLine) (h : X.K = K := by rfl) : OpR X (compareOp .Eq) (rEqD K) := by subst h; exact op_eqD hu
theorem opNeD (hu : X.A.units + 64 < cLine) (h : X.K = K := by rfl) : OpR X (compareOp .NotEq) (rNeD K) := by subst h; exact op_neD hu
def rEqE (K : PySem.W.Frag) : R2 := fun x y H Q => ∃ a b xs, x = .ref a ∧ y = .ref b ∧ SqL K H a xs ∧ SqL K H b [] ∧ Q (.bl xs.isEmpty) H
def rNeE (K : PySem.W.Frag) : R2 := fun x y H Q => ∃ a b xs, x = .ref a ∧ y = .ref b ∧ SqL K H a xs ∧ SqL K H b [] ∧ Q (.bl (!xs.isEmpty)) H
theorem opEqE (hu : X.A.units + 64 < cLine) (h : X.K = K := by rfl) : OpR X (compareOp .Eq) (rEqE K) := by subst h; exact op_eqE hu
theorem opNeE (hu : X.A.units + 64 < cLine) (h : X.K = K := by rfl) : OpR X (compareOp .NotEq) (rNeE K) := by subst h; exact op_neE hu
def rLen (K : PySem.W.Frag) : List V → Hp → VK → Prop := fun xs H Q => ∃ p ys, xs = [.ref p] ∧ (SqL K H p ys ∨ SqT K H p ys) ∧ Q (.int ys.length) H
theorem lenK (h : X.K = K := by rfl) : CallR X (.builtin "len") (rLen K) := by subst h; exact call_len_seq
theorem isiK (h : X.K = K := by rfl) : CallR X (.builtin "isinstance") (rIsi K) := by subst h; exact call_isi
theorem allK (hc : X.calm = true) (h : X.K = K := by rfl) : CallR X (.builtin "all") (rAll K) := by subst h; exact cr_all hc
def rTupOf (K : PySem.W.Frag) : List V → Hp → VK → Prop := fun xs H Q => ∃ p ys, xs = [.ref p] ∧ ((SqL K H p ys ∧ ∀ l, H l = none → Q (.ref l) (upd H l (.tup ys))) ∨ (SqT K H p ys ∧ Q (.ref p) H))
theorem tupOf (h : X.K = K := by rfl) : CallR X (.type "tuple") (rTupOf K) := by subst h; exact call_tuple_of
def rLstOf (K : PySem.W.Frag) : List V → Hp → VK → Prop := fun xs H Q => ∃ p ys, xs = [.ref p] ∧ (SqL K H p ys ∨ SqT K H p ys) ∧ ∀ l, H l = none → Q (.ref l) (upd H l (.lst ys))
theorem lstOf (h : X.K = K := by rfl) : CallR X (.type "list") (rLstOf K) := by subst h; exact call_list_of
theorem slL (h : X.K = K := by rfl) : SlR X (rSlL K) := by subst h; exact sl_list
theorem slA (h : X.K = K := by rfl) : SlR X (rSlA K) := by subst h; exact sl_tupA
theorem catA (h : X.K = K := by rfl) : OpR X (binaryOp .Add) (rCatA K) := by subst h; exact op_catA
theorem pgT {es : List Expr} {k : Nat} {pos : Pos} {t : TGs} {n : Nat} (hc : X.calm = true) (hp : PGs X es t) (hn : (assignEach es X.env).length = n := by rfl) (hst : (assignEach es X.env).findIdx? (·.1) = none := by rfl) (h : X.K = K := by rfl) : PG X (.Tuple es k pos) (gTup K n t) := by
  subst h; exact pg_tup hc hp hn hst
theorem pgFld {o : Expr} {f : Str} {pos : Pos} {ta : TE} (ho : PE X o ta) (h : X.K = K := by rfl) : PG X (.Attribute o f pos) (gFld K ta f) := by subst h; exact pg_fld ho
theorem sFldK {o value : Expr} {f : Str} {pos pos' : Pos} {ta tv : TE} (ha : PE X o ta) (hv : PE X value tv) (hs : swapsWith value (some (.Attribute o f pos')) pos.line X.env = pure false) (h : X.K = K := by rfl) : PS X (.Assign [.Attribute o f pos'] value pos) (sFld K ta tv f) := by subst h; exact ps_fld ha hv hs
/-- o.urgency as a value -/
def tBV (K : PySem.W.Frag) (Pc : Addr → Prop) (m : Str) (g : Addr) (ta : TE) : TE := fun σ H Q => ta σ H fun x H1 => ∃ a C dx fs, x = .ref a ∧ H1 a = some (.ins C dx fs) ∧ Pc C ∧ fs.lookup m = none ∧ ∀ q, H1 q = none → Q (.ref q) (upd H1 q (.met g a))
theorem pe_bv {Pc : Addr → Prop} {o : Expr} {m : Str} {g : Addr} {ta : TE} {pos : Pos} (he : PE X o ta) (hc : ∀ C, Pc C → Cls X.K C ∧ BMeth X.K C m g) (hb : attributeBase o m X.env (eval o X.env) = eval o X.env := by rfl) : PE X (.Attribute o m pos) (tBV K Pc m g ta) := by
  refine ⟨fun pins s σ H Q I h => ?_⟩
  refine attr_of hb (thn (he.run pins s σ H _ I h) fun u s1 ⟨x, H1, I1, rx, a, C, dx, fs, ex, ea, pc, l, q⟩ => ?_)
  subst ex
  obtain rfl : u = Value.ref a := rx
  exact getbound_ok I1 ea (hc C pc).1 (hc C pc).2 l fun q1 s2 hq1 I2 => ⟨.ref q1, _, I2, rfl, q q1 hq1⟩
end
end Ev
namespace Ev
open PySem PySem.Spec PyProof.Rows L2
variable {w : World} {K : PySem.W.Frag} {mg : Str → Option Value} {base : Heap} {A : Adr}

def hiOk : V → Int → Bool
  | .non, _ => true
  | .int h, x => decide (x ≤ h)
  | _, _ => false
def isHi (v : V) : Prop := v = .non ∨ ∃ h, v = .int h
theorem ifB' {b : Bool} {p q : Prop} (e : b = true) (h1 : p) : if b = true then p else q := by rw [e]; exact h1
theorem ifN' {b : Bool} {p q : Prop} (e : b = false) (h1 : q) : if b = true then p else q := by rw [e]; exact h1
def sp_is_between (K : PySem.W.Frag) (A : Adr) : Sp0 := fun vs H Q => ∃ (x lo : Int) (hi : V), vs = [.int x, .int lo, hi] ∧ isHi hi ∧ Q (.bl (decide (lo ≤ x) && hiOk hi x)) H
/-- is_between -/
theorem ok_is_between (T : Txt K mg w A) : Fn PP w K mg base 1 A.is_between (sp_is_between K A) := by
  refine T.d_is_between.go sc_is_between fun cdv Ar outer s H vs Q hr h => ?_
  have nd := sc_is_between.nd
  obtain ⟨x, lo, hi, rfl, hh, q⟩ := h
  refine ⟨_, (pss_cons (ps_if (PW.pt (pw_or (pt_not (pt_val (pe_callB (isiK K) (by rfl) T.b_isinstance (by decide +kernel) (pa_cons (pv 0) (pa_cons (pe_bltn (v := .ty "int") (by rfl) T.b_int (by decide +kernel) rfl) pa_nil))))) (pw_or1 (pt_val (pe_callB (isiK K) (by rfl) T.b_isinstance (by decide +kernel) (pa_cons (pv 0) (pa_cons (pe_bltn (v := .ty "bool") (by rfl) T.b_bool (by decide +kernel) rfl) pa_nil)))))))
        (pss_one (ps_ret pe_bl))
        pss_nil)
      (pss_one (ps_ret (pe_and (pe_cm op_le (pv 1) (pv 0)) (pe_one (pe_or (pe_cm op_isN (pv 2) pe_non) (pe_one (pe_cm op_le (pv 0) (pv 2))))))))), ?_⟩
  refine ⟨_, rfl, _, _, _, _, true, rfl, .ty _, .base (.int _), kit_ty (by decide +kernel), _, rfl, ?_⟩
  refine ⟨_, rfl, _, _, _, _, false, rfl, .ty _, .base (.int _), kit_ty (by decide +kernel), _, rfl, ?_⟩
  refine ⟨_, rfl, _, rfl, _, _, rfl, rfl, _, rfl, ?_⟩
  by_cases e : lo ≤ x
  · rw [decide_eq_true e] at q ⊢
    refine ⟨_, rfl, rfl, _, rfl, ?_⟩
    rcases hh with rfl | ⟨h, rfl⟩
    · exact q
    · exact ⟨_, rfl, _, rfl, _, _, rfl, rfl, q⟩
  · rw [decide_eq_false e] at q ⊢
    exact q
def sp_need_between (K : PySem.W.Frag) (A : Adr) : Sp0 := fun vs H Q => ∃ (x lo : Int) (hi : V), vs = [.int x, .int lo, hi] ∧ isHi hi ∧ (decide (lo ≤ x) && hiOk hi x) = true ∧ Q .non H
/-- need_between -/
theorem ok_need_between (T : Txt K mg w A) : Fn PP w K mg base 2 A.need_between (sp_need_between K A) := by
  refine T.d_need_between.go sc_need_between fun cdv Ar outer s H vs Q hr h => ?_
  have nd := sc_need_between.nd
  obtain ⟨x, lo, hi, rfl, hh, e, q⟩ := h
  refine ⟨_, (pss_one (ps_if (pt_not (pt_val (pe_f (ok_is_between T) (hr.mono (by decide)) (by rfl) T.g_is_between T.d_is_between.kp (pa_cons (pv 0) (pa_cons (pv 1) (pa_cons (pv 2) pa_nil))))))
        (pss_one ps_never)
        pss_nil)), ?_⟩
  refine ⟨_, rfl, _, rfl, _, rfl, _, _, _, rfl, hh, _, rfl, ?_⟩
  rw [e]
  exact q
def sp_is_tuple (K : PySem.W.Frag) (A : Adr) : Sp0 := fun vs H Q => ∃ (a : Addr) (xs : List V) (lo : Int) (hi : V), vs = [.ref a, .int lo, hi] ∧ SqT K H a xs ∧ isHi hi ∧ Q (.bl (decide (lo ≤ xs.length) && hiOk hi xs.length)) H
theorem tupX {H : Hp} {a : Addr} {xs : List V} (h : SqT K H a xs) : TyX K H (.ref a) (.type "tuple") := by
  rcases h with (h | ⟨o, h⟩) | ⟨o, its, n, h, c, _⟩
  · exact .base (.tup h)
  · exact .fTuple h
  · exact .kTuple h c
/-- is_tuple -/
theorem ok_is_tuple (T : Txt K mg w A) : Fn PP w K mg base 1 A.is_tuple (sp_is_tuple K A) := by
  refine T.d_is_tuple.go sc_is_tuple fun cdv Ar outer s H vs Q hr h => ?_
  have nd := sc_is_tuple.nd
  obtain ⟨a, xs, lo, hi, rfl, hs, hh, q⟩ := h
  refine ⟨_, (pss_one (ps_ret (pe_and (pe_callB (isiK K) (by rfl) T.b_isinstance (by decide +kernel) (pa_cons (pv 0) (pa_cons (pe_bltn (v := .ty "tuple") (by rfl) T.b_tuple (by decide +kernel) rfl) pa_nil))) (pe_and (pe_cm op_le (pv 1) (pe_callB (lenK K) (by rfl) T.b_len (by decide +kernel) (pa_cons (pv 0) pa_nil))) (pe_one (pe_or (pe_cm op_isN (pv 2) pe_non) (pe_one (pe_cm op_le (pe_callB (lenK K) (by rfl) T.b_len (by decide +kernel) (pa_cons (pv 0) pa_nil)) (pv 2))))))))), ?_⟩
  refine ⟨_, rfl, _, _, _, _, true, rfl, .ty _, tupX hs, kit_ty (by decide +kernel), _, rfl, ?_⟩
  refine ⟨_, rfl, _, rfl, _, _, rfl, .inr hs, _, _, rfl, rfl, _, rfl, ?_⟩
  by_cases e : lo ≤ xs.length
  · rw [decide_eq_true e] at q ⊢
    refine ⟨_, rfl, rfl, _, rfl, ?_⟩
    rcases hh with rfl | ⟨h, rfl⟩
    · exact q
    · exact ⟨_, rfl, _, _, rfl, .inr hs, _, rfl, _, _, rfl, rfl, q⟩
  · rw [decide_eq_false e] at q ⊢
    exact q
def sp_is_pair (K : PySem.W.Frag) (A : Adr) : Sp0 := fun vs H Q => ∃ (a : Addr) (xs : List V), vs = [.ref a] ∧ SqT K H a xs ∧ Q (.bl (decide (xs.length = 2))) H
/-- is_pair -/
theorem ok_is_pair (T : Txt K mg w A) : Fn PP w K mg base 2 A.is_pair (sp_is_pair K A) := by
  refine T.d_is_pair.go sc_is_pair fun cdv Ar outer s H vs Q hr h => ?_
  have nd := sc_is_pair.nd
  obtain ⟨a, xs, rfl, hs, q⟩ := h
  refine ⟨_, (pss_one (ps_ret (pe_f (ok_is_tuple T) (hr.mono (by decide)) (by rfl) T.g_is_tuple T.d_is_tuple.kp (pa_cons (pv 0) (pa_cons pe_int (pa_cons pe_int pa_nil)))))), ?_⟩
  refine ⟨_, rfl, _, _, _, _, rfl, hs, .inr ⟨_, rfl⟩, ?_⟩
  have e : (decide ((2 : Int) ≤ xs.length) && hiOk (.int 2) xs.length) = decide (xs.length = 2) := by
    unfold hiOk
    by_cases h : xs.length = 2
    · rw [h]; rfl
    · rw [decide_eq_false h, ← Bool.not_eq_true, Bool.and_eq_true, decide_eq_true_eq, decide_eq_true_eq]; omega
  rw [e]; exact q
theorem inV_strs (x : Str) (l : List Str) : inV (.str x) (l.map V.str) = l.contains x := by
  unfold inV
  induction l with
  | nil => rfl
  | cons y l ih =>
    rw [List.map_cons, List.any_cons, ih, List.contains_cons]
    show (y == x || _) = (x == y || _)
    rw [Bool.beq_comm]
theorem Txt.tup_DISCIPLINES (T : Txt K mg w A) (H : Hp) : SqT K H A.DISCIPLINES [.str "fifo", .str "rank", .str "preempt"] := .inr T.t_DISCIPLINES
def sp_is_resource (K : PySem.W.Frag) (A : Adr) : Sp0 := fun vs H Q => ∃ (a : Addr) (x : Bool × Nat), vs = [.ref a] ∧ Dp K H (.ref a) (resD x) ∧ 1 ≤ x.2 ∧ x.2 ≤ 3 ∧ Q (.bl true) H
/-- is_resource -/
theorem ok_is_resource (T : Txt K mg w A) : Fn PP w K mg base 3 A.is_resource (sp_is_resource K A) := by
  refine T.d_is_resource.go sc_is_resource fun cdv Ar outer s H vs Q hr h => ?_
  have nd := sc_is_resource.nd
  obtain ⟨a, x, rfl, hd, h1, h3, q⟩ := h
  refine ⟨_, (pss_cons (ps_if (PW.pt (pw_or (pt_not (pt_val (pe_f (ok_is_pair T) (hr.mono (by decide)) (by rfl) T.g_is_pair T.d_is_pair.kp (pa_cons (pv 0) pa_nil)))) (pw_or1 (pt_not (pt_val (pe_callB (isiK K) (by rfl) T.b_isinstance (by decide +kernel) (pa_cons (pe_ix (ixT K) (pv 0) pe_int (fun _ _ => rfl)) (pa_cons (pe_bltn (v := .ty "str") (by rfl) T.b_str (by decide +kernel) rfl) pa_nil))))))))
        (pss_one (ps_ret pe_bl))
        pss_nil)
      (pss_one (ps_ret (pe_and (pe_cm (opIn K) (pe_ix (ixT K) (pv 0) pe_int (fun _ _ => rfl)) (pe_gl (by rfl) T.g_DISCIPLINES)) (pe_one (pe_f (ok_is_between T) (hr.mono (by decide)) (by rfl) T.g_is_between T.d_is_between.kp (pa_cons (pe_ix (ixT K) (pv 0) pe_int (fun _ _ => rfl)) (pa_cons pe_int (pa_cons (pe_gl (by rfl) T.g_MOST_UNITS) pa_nil))))))))), ?_⟩
  obtain ⟨_, xs, e, hs, hx⟩ := dp_tupI hd
  cases e
  obtain ⟨v, r, rfl, hv, hr2⟩ := dpa_consI hx
  obtain ⟨v2, r, rfl, hv2, hr2⟩ := dpa_consI hr2
  obtain rfl := dpa_nilI hr2
  obtain rfl := dp_strI hv
  obtain rfl := dp_intI hv2
  refine ⟨_, rfl, _, _, rfl, hs, _, rfl, ?_⟩
  refine ⟨_, rfl, _, _, _, _, rfl, rfl, hs, rfl, _, _, _, _, true, rfl, .ty _, .base (.str _), kit_ty (by decide +kernel), _, rfl, ?_⟩
  refine ⟨_, rfl, _, _, _, _, rfl, rfl, hs, rfl, _, _, rfl, .inr (T.tup_DISCIPLINES H), rfl, rfl, _, rfl, ?_⟩
  have e1 : inV (V.str (if x.1 = true then "preempt" else "rank")) [.str "fifo", .str "rank", .str "preempt"] = true := by cases x.1 <;> decide
  refine ifB' e1 ?_
  refine ⟨_, rfl, _, _, _, _, rfl, rfl, hs, rfl, _, _, _, rfl, .inr ⟨_, rfl⟩, ?_⟩
  have e2 : (decide ((1 : Int) ≤ x.2) && hiOk (.int 3) x.2) = true := by
    unfold hiOk
    rw [Bool.and_eq_true, decide_eq_true_eq, decide_eq_true_eq]; omega
  rw [e2]; exact q
end Ev
namespace Ev
/-! the first and the last of a sorted line -/
def leK (g : Rq → Nat) (a b : Rq) : Bool := decide (a.rank < b.rank ∨ (a.rank = b.rank ∧ g a ≤ g b))
theorem leK_trans (g : Rq → Nat) (a b c : Rq) (h1 : leK g a b = true) (h2 : leK g b c = true) : leK g a c = true := by
  have h1 := of_decide_eq_true h1; have h2 := of_decide_eq_true h2
  exact decide_eq_true (by omega)
theorem leK_total (g : Rq → Nat) (a b : Rq) : (leK g a b || leK g b a) = true := by
  rw [Bool.or_eq_true]
  by_cases h : a.rank < b.rank ∨ (a.rank = b.rank ∧ g a ≤ g b)
  · exact .inl (decide_eq_true h)
  · exact .inr (decide_eq_true (by omega))
theorem leastOf_le {g : Rq → Nat} : ∀ {W : List Rq} {x : Rq}, W.Pairwise (fun a b => g a < g b) → leastOf W = some x → ∀ y ∈ W, leK g x y = true
  | [], _, _, h => by cases h
  | z :: l, x, hp, h => by
    obtain ⟨h1, h2⟩ := List.pairwise_cons.mp hp
    unfold leastOf at h
    cases hl : leastOf l with
    | none =>
      rw [hl] at h
      obtain rfl := Option.some.inj h
      intro y hy
      rcases List.mem_cons.mp hy with rfl | hy
      · exact decide_eq_true (.inr ⟨rfl, Nat.le_refl _⟩)
      · cases l with
        | nil => cases hy
        | cons u v => unfold leastOf at hl; split at hl <;> (try split at hl) <;> cases hl
    | some u =>
      rw [hl] at h
      have ih := leastOf_le h2 hl
      have hu : u ∈ l := by
        clear ih h hp h1 h2
        induction l generalizing u with
        | nil => cases hl
        | cons a l ih2 =>
          unfold leastOf at hl
          cases hl2 : leastOf l with
          | none => rw [hl2] at hl; obtain rfl := Option.some.inj hl; exact List.mem_cons_self ..
          | some b =>
            rw [hl2] at hl
            dsimp only at hl
            split at hl
            · obtain rfl := Option.some.inj hl; exact List.mem_cons_of_mem _ (ih2 _ hl2)
            · obtain rfl := Option.some.inj hl; exact List.mem_cons_self ..
      have hzu := h1 u hu
      dsimp only at h
      intro y hy
      split at h
      · rename_i hr
        obtain rfl := Option.some.inj h
        rcases List.mem_cons.mp hy with rfl | hy
        · exact decide_eq_true (.inl hr)
        · exact ih y hy
      · rename_i hr
        obtain rfl := Option.some.inj h
        rcases List.mem_cons.mp hy with rfl | hy
        · exact decide_eq_true (.inr ⟨rfl, Nat.le_refl _⟩)
        · have := of_decide_eq_true (ih y hy)
          exact decide_eq_true (by omega)
theorem leastOf_in : ∀ {l : List Rq} {u : Rq}, leastOf l = some u → u ∈ l
  | [], _, h => by cases h
  | a :: l, u, h => by
    unfold leastOf at h
    cases hl2 : leastOf l with
    | none => rw [hl2] at h; obtain rfl := Option.some.inj h; exact List.mem_cons_self ..
    | some b =>
      rw [hl2] at h
      dsimp only at h
      split at h
      · obtain rfl := Option.some.inj h; exact List.mem_cons_of_mem _ (leastOf_in hl2)
      · obtain rfl := Option.some.inj h; exact List.mem_cons_self ..
theorem greatOf_in : ∀ {l : List Rq} {u : Rq}, greatOf l = some u → u ∈ l
  | [], _, h => by cases h
  | a :: l, u, h => by
    unfold greatOf at h
    cases hl2 : greatOf l with
    | none => rw [hl2] at h; obtain rfl := Option.some.inj h; exact List.mem_cons_self ..
    | some b =>
      rw [hl2] at h
      dsimp only at h
      split at h
      · obtain rfl := Option.some.inj h; exact List.mem_cons_self ..
      · obtain rfl := Option.some.inj h; exact List.mem_cons_of_mem _ (greatOf_in hl2)
theorem leastOf_nil {l : List Rq} (h : leastOf l = none) : l = [] := by
  cases l with
  | nil => rfl
  | cons a l => unfold leastOf at h; split at h <;> (try split at h) <;> cases h
theorem greatOf_nil {l : List Rq} (h : greatOf l = none) : l = [] := by
  cases l with
  | nil => rfl
  | cons a l => unfold greatOf at h; split at h <;> (try split at h) <;> cases h
theorem greatOf_le {g : Rq → Nat} : ∀ {W : List Rq} {x : Rq}, W.Pairwise (fun a b => g a < g b) → greatOf W = some x → ∀ y ∈ W, leK g y x = true
  | [], _, _, h => by cases h
  | z :: l, x, hp, h => by
    obtain ⟨h1, h2⟩ := List.pairwise_cons.mp hp
    unfold greatOf at h
    cases hl : greatOf l with
    | none =>
      rw [hl] at h
      obtain rfl := Option.some.inj h
      intro y hy
      rcases List.mem_cons.mp hy with rfl | hy
      · exact decide_eq_true (.inr ⟨rfl, Nat.le_refl _⟩)
      · rw [greatOf_nil hl] at hy; cases hy
    | some u =>
      rw [hl] at h
      have ih := greatOf_le h2 hl
      have hzu := h1 u (greatOf_in hl)
      dsimp only at h
      intro y hy
      split at h
      · rename_i hr
        obtain rfl := Option.some.inj h
        rcases List.mem_cons.mp hy with rfl | hy
        · exact decide_eq_true (.inr ⟨rfl, Nat.le_refl _⟩)
        · have := of_decide_eq_true (ih y hy)
          exact decide_eq_true (by omega)
      · rename_i hr
        obtain rfl := Option.some.inj h
        rcases List.mem_cons.mp hy with rfl | hy
        · exact decide_eq_true (by omega)
        · exact ih y hy
theorem eq_of_le {g : Rq → Nat} {W : List Rq} (hp : W.Pairwise (fun a b => g a < g b)) {x y : Rq} (hx : x ∈ W) (hy : y ∈ W) (h1 : leK g x y = true) (h2 : leK g y x = true) : x = y := by
  have h1 := of_decide_eq_true h1; have h2 := of_decide_eq_true h2
  have hg : g x = g y := by omega
  clear h1 h2
  induction W with
  | nil => cases hx
  | cons a l ih =>
    obtain ⟨h3, h4⟩ := List.pairwise_cons.mp hp
    rcases List.mem_cons.mp hx with rfl | hx2
    · rcases List.mem_cons.mp hy with rfl | hy2
      · rfl
      · have := h3 y hy2; omega
    · rcases List.mem_cons.mp hy with rfl | hy2
      · have := h3 x hx2; omega
      · exact ih h4 hx2 hy2
theorem sort_head {g : Rq → Nat} {W : List Rq} (hp : W.Pairwise (fun a b => g a < g b)) : (W.mergeSort (leK g))[0]? = leastOf W := by
  have hs : (W.mergeSort (leK g)).Pairwise (fun a b => leK g a b = true) := List.pairwise_mergeSort (leK_trans g) (leK_total g) W
  have hm : ∀ x, x ∈ W.mergeSort (leK g) ↔ x ∈ W := fun x => List.mem_mergeSort
  cases hl : leastOf W with
  | none => rw [leastOf_nil hl]; simp
  | some x =>
    cases hq : W.mergeSort (leK g) with
    | nil =>
      have := (hm x).mpr (leastOf_in hl)
      rw [hq] at this; cases this
    | cons h t =>
      rw [hq] at hs hm
      have hh : h ∈ W := (hm h).mp (List.mem_cons_self ..)
      have hx : x ∈ h :: t := (hm x).mpr (leastOf_in hl)
      have h1 := leastOf_le hp hl h hh
      have h2 : leK g h x = true := by
        rcases List.mem_cons.mp hx with rfl | hx
        · exact decide_eq_true (.inr ⟨rfl, Nat.le_refl _⟩)
        · exact (List.pairwise_cons.mp hs).1 x hx
      rw [eq_of_le hp hh (leastOf_in hl) h2 h1]
      rfl
theorem sort_last {g : Rq → Nat} {W : List Rq} (hp : W.Pairwise (fun a b => g a < g b)) : (W.mergeSort (leK g)).getLast? = greatOf W := by
  have hs : (W.mergeSort (leK g)).Pairwise (fun a b => leK g a b = true) := List.pairwise_mergeSort (leK_trans g) (leK_total g) W
  have hm : ∀ x, x ∈ W.mergeSort (leK g) ↔ x ∈ W := fun x => List.mem_mergeSort
  cases hl : greatOf W with
  | none => rw [greatOf_nil hl]; simp
  | some x =>
    cases hq : (W.mergeSort (leK g)).getLast? with
    | none =>
      have := (hm x).mpr (greatOf_in hl)
      rw [List.getLast?_eq_none_iff.mp hq] at this; cases this
    | some h =>
      obtain ⟨t, ht⟩ := List.getLast?_eq_some_iff.mp hq
      rw [ht] at hs hm
      have hh : h ∈ W := (hm h).mp (by simp)
      have hx : x ∈ t ++ [h] := (hm x).mpr (greatOf_in hl)
      have h1 := greatOf_le hp hl h hh
      have h2 : leK g x h = true := by
        rcases List.mem_append.mp hx with hx | hx
        · exact (List.pairwise_append.mp hs).2.2 x hx h (by simp)
        · obtain rfl := List.mem_singleton.mp hx
          exact decide_eq_true (.inr ⟨rfl, Nat.le_refl _⟩)
      rw [eq_of_le hp hh (greatOf_in hl) h1 h2]
end Ev
namespace Ev
open PySem PySem.Spec PyProof.Rows L2
variable {w : World} {K : PySem.W.Frag} {mg : Str → Option Value} {base : Heap} {A : Adr}

theorem AgR.snoc {F : Hp} {ag : List Ent} {xs : List V} {v : V} {e : Ent} (g : AgR K F ag xs) (d : Dp K F v (entD e)) : AgR K F (ag ++ [e]) (xs ++ [v]) := by
  obtain ⟨zs, rfl, rfl, h⟩ := g
  refine ⟨zs ++ [(v, e)], by simp, by simp, fun z hz => ?_⟩
  rcases List.mem_append.mp hz with hz | hz
  · exact h z hz
  · obtain rfl := List.mem_singleton.mp hz; exact d
theorem AgR.len {F : Hp} {ag : List Ent} {xs : List V} (g : AgR K F ag xs) : xs.length = ag.length := by
  obtain ⟨zs, rfl, rfl, _⟩ := g; simp
theorem dpa_zs {F : Hp} : ∀ {zs : List (V × Ent)}, (∀ z ∈ zs, Dp K F z.1 (entD z.2)) → DpAll K F (zs.map (·.1)) ((zs.map (·.2)).map entD)
  | [], _ => .nil
  | z :: zs, h => .cons (h z (List.mem_cons_self ..)) (dpa_zs fun y hy => h y (List.mem_cons_of_mem _ hy))
theorem AgR.dpa {F : Hp} {ag : List Ent} {xs : List V} (g : AgR K F ag xs) : DpAll K F xs (ag.map entD) := by
  obtain ⟨zs, rfl, rfl, h⟩ := g; exact dpa_zs h
theorem AgR.get {F : Hp} {ag : List Ent} {xs : List V} (g : AgR K F ag xs) {i : Nat} {v : V} {e : Ent} (h1 : xs[i]? = some v) (h2 : ag[i]? = some e) : Dp K F v (entD e) := by
  obtain ⟨zs, rfl, rfl, h⟩ := g
  rw [List.getElem?_map] at h1 h2
  cases hz : zs[i]? with
  | none => rw [hz] at h1; cases h1
  | some z =>
    rw [hz] at h1 h2
    obtain rfl := Option.some.inj h1
    obtain rfl := Option.some.inj h2
    exact h z (List.mem_of_getElem? hz)
theorem AgR.filter {F : Hp} {zs : List (V × Ent)} (h : ∀ z ∈ zs, Dp K F z.1 (entD z.2)) (f : Ent → Bool) : AgR K F ((zs.map (·.2)).filter f) ((zs.filter fun z => f z.2).map (·.1)) :=
  ⟨zs.filter fun z => f z.2, rfl, by rw [List.filter_map]; rfl, fun z hz => h z (List.mem_filter.mp hz).1⟩
theorem entI {H : Hp} {v : V} {e : Ent} (h : Dp K H v (entD e)) : ∃ a, v = .ref a ∧ SqT K H a [.int e.1, .int e.2.1, .int e.2.2] := by
  obtain ⟨a, xs, rfl, hs, hx⟩ := dp_tupI h
  obtain ⟨v1, r, rfl, h1, hx⟩ := dpa_consI hx
  obtain ⟨v2, r, rfl, h2, hx⟩ := dpa_consI hx
  obtain ⟨v3, r, rfl, h3, hx⟩ := dpa_consI hx
  obtain rfl := dpa_nilI hx
  obtain rfl := dp_intI h1
  obtain rfl := dp_intI h2
  obtain rfl := dp_intI h3
  exact ⟨a, rfl, hs⟩
theorem ifB {b : Bool} {p q : Prop} (h1 : b = true → p) (h2 : b = false → q) : if b = true then p else q := by
  cases b
  · exact h2 rfl
  · exact h1 rfl
theorem dint (a b : Nat) : decide (V.int (a : Int) = V.int (b : Int)) = decide (a = b) := by
  by_cases h : a = b
  · subst h; simp
  · rw [decide_eq_false h, decide_eq_false fun z => h (by injection z with z; omega)]
theorem sz3 {n : Nat} (h : n ≤ 5000) : n < sizeLine := by have : (5000 : Nat) < sizeLine := by decide
                                                          omega
def sp_Run_schedule (K : PySem.W.Frag) (A : Adr) : Sp0 := fun vs H Q => ∃ (c : Cfg) (mv : V) (a : Addr) (m : M) (F : Hp) (S : Sto) (p t : Nat), vs = [.ref a, .int p, .int t] ∧ PAt K A c mv a m F S H ∧ m.agenda.length ≤ 4000 ∧
  ∀ F' S' H', Same F F' → Fix mvP S S' → PAt K A c mv a (m.plan p t) F' S' H' → Q .non H'
/-- Run.schedule -/
theorem ok_Run_schedule (T : Txt K mg w A) : Fn PP w K mg base 1 A.Run_schedule (sp_Run_schedule K A) := by
  refine T.d_Run_schedule.go sc_Run_schedule fun cdv Ar outer s H vs Q hr h => ?_
  have nd := sc_Run_schedule.nd
  obtain ⟨c, mv, a, m, F, S, p, t, rfl, P, hz, q⟩ := h
  refine ⟨_, (pss_cons (ps_expr (pe_bm PySem.F.plainAttrs_list PySem.F.slot_list_append PySem.F.type_list_append mt_append (fldK K (pv 0) rfl) (pa_cons (pe_tup (pa_cons (pv 2) (pa_cons (fldK K (pv 0) rfl) (pa_cons (pv 1) pa_nil)))) pa_nil)))
      (pss_one (sFldK K (pv 0) (pe_op op_add (fldK K (pv 0) rfl) pe_int) rfl))), ?_⟩
  obtain ⟨dx, rem, o1, o2, o3, o4, o5, er, h1⟩ := P.run
  obtain ⟨xs, ea, ga⟩ := P.rp.ag
  refine ⟨_, rfl, _, _, _, _, _, rfl, h1, T.c_Run, T.n_Run_agenda, rfl, .inl ⟨rfl, _, SqL.of (P.ok.liv _ _ ea)⟩, _, rfl, _, rfl, _, _, _, _, _, rfl, h1, T.c_Run, T.n_Run_numbered, rfl, _, rfl, (by show 3 ≤ sizeLine; decide), fun e ne => ?_⟩
  have P1 := P.frz ne (.tup [V.int t, V.int m.next, V.int p])
  refine ⟨_, _, _, rfl, rfl, P1.ok.liv _ _ ea, sz3 (by rw [ga.len]; omega), ?_⟩
  obtain ⟨S2, P2, X2⟩ := P1.setAg ea ((ga.mono (P.up ne _)).snoc (v := .ref e) (e := (t, m.next, p)) (.tup (SqT.of upd_same) (.cons (.int _) (.cons (.int _) (.cons (.int _) .nil)))))
  obtain ⟨dx, rem, o1, o2, o3, o4, o5, er, h1⟩ := P2.run
  refine ⟨_, rfl, _, _, _, _, _, rfl, h1, T.c_Run, T.n_Run_numbered, rfl, _, _, rfl, rfl, _, rfl, _, _, _, _, rfl, h1, T.c_Run, T.n_Run_numbered, (by show 18 < 1000; decide), ?_⟩
  obtain ⟨S3, P3, X3⟩ := P2.setNext er (m.next + 1)
  exact q _ _ _ (P.up ne _) (X2.trans X3) P3
def sp_Run_unschedule (K : PySem.W.Frag) (A : Adr) : Sp0 := fun vs H Q => ∃ (c : Cfg) (mv : V) (a : Addr) (m : M) (F : Hp) (S : Sto) (p : Nat), vs = [.ref a, .int p] ∧ PAt K A c mv a m F S H ∧ m.agenda.length ≤ 5000 ∧
  ∀ F' S' H', Same F F' → Fix mvP S S' → PAt K A c mv a (m.unplan p) F' S' H' → Q .non H'
/-- Run.unschedule -/
theorem ok_Run_unschedule (T : Txt K mg w A) : Fn PP w K mg base 1 A.Run_unschedule (sp_Run_unschedule K A) := by
  refine T.d_Run_unschedule.go sc_Run_unschedule fun cdv Ar outer s H vs Q hr h => ?_
  have nd := sc_Run_unschedule.nd
  obtain ⟨c, mv, a, m, F, S, p, rfl, P, hz, q⟩ := h
  refine ⟨_, (pss_one (sFldK K (pv 0) (pe_lc (own := [("entry", 2)]) (g := gName 2) (tt := _) rfl nd (pi_list (fldK K (pv 0) rfl)) (blkOk_by (own := [("entry", 2)]) (N := N_Run_unschedule) (sc := defScope s_Run_unschedule) (by decide +kernel))
        (fun _ _ _ _ _ => (pg_name (i := 2) nd rfl (Or.inl rfl))) (fun _ _ _ _ _ => (pts_one (pt_cm op_ne (pe_ix (ixT K) (pv 2) pe_int (fun _ _ => rfl)) (pv 1))))
        (fun _ _ _ _ _ => (pv 2))) rfl)), ?_⟩
  obtain ⟨dx, rem, o1, o2, o3, o4, o5, er, h1⟩ := P.run
  obtain ⟨xs, ea, ga⟩ := P.rp.ag
  have gl := ga.len
  obtain ⟨zs, rfl, ez, dz⟩ := ga
  have hl := P.ok.liv _ _ ea
  refine ⟨_, rfl, _, _, _, _, _, rfl, h1, T.c_Run, T.n_Run_agenda, rfl, _, rfl, ⟨_, SqL.of hl⟩, fun D nD => lc_L (l := zs) (h := (·.1)) (fun z => z.2.2.2 != p) (·.1) nD (SqL.of hl) (Nat.le_of_lt (sz3 (by rw [List.length_map] at gl; omega))) (fun z hz' H1 s1 Y N hY hN => ?_) fun H1 s1 eD => ?_⟩
  · obtain ⟨e, ee, he⟩ := entI (dz z hz')
    refine ⟨rfl, _, rfl, _, _, _, _, ?_, rfl, same_T (P.ok.sm.trans s1) he, rfl, _, rfl, rfl, _, rfl, ?_⟩
    · rw [← ee]
    rw [dint]
    refine ifB (fun hb => ⟨_, rfl, hY ?_ _ (Same.refl _)⟩) fun hb => hN ?_ _ (Same.refl _)
    · simpa using hb
    · simpa using hb
  · have P1 := P.same s1
    have h1 := s1 _ _ h1
    refine ⟨_, rfl, _, _, _, _, rfl, h1, T.c_Run, T.n_Run_agenda, (by show 18 < 1000; decide), ?_⟩
    obtain ⟨S2, P2, X2⟩ := P.newAg er s1 nD eD (ez ▸ AgR.filter dz fun e => e.2.2 != p)
    exact q _ _ _ (Same.refl _) X2 P2
def sp_Run_first_time (K : PySem.W.Frag) (A : Adr) : Sp0 := fun vs H Q => ∃ (c : Cfg) (mv : V) (a : Addr) (m : M) (F : Hp) (S : Sto), vs = [.ref a] ∧ PAt K A c mv a m F S H ∧
  m.agenda ≠ [] ∧ ∀ e H', minEnt m.agenda = some e → Same H H' → Q (.int e.1) H'
/-- Run.first_time -/
theorem ok_Run_first_time (T : Txt K mg w A) : Fn PP w K mg base 1 A.Run_first_time (sp_Run_first_time K A) := by
  refine T.d_Run_first_time.go sc_Run_first_time fun cdv Ar outer s H vs Q hr h => ?_
  have nd := sc_Run_first_time.nd
  obtain ⟨c, mv, a, m, F, S, rfl, P, hne0, q⟩ := h
  refine ⟨_, (pss_one (ps_ret (pe_ifExp (pt_cm (opNeE K hr.hu) (fldK K (pv 0) rfl) (pe_lst pa_nil)) (pe_ix (ixT K) (pe_callB (cr_minE rfl hr.hu) (by rfl) T.b_min (by decide +kernel) (pa_cons (fldK K (pv 0) rfl) pa_nil)) pe_int (fun _ _ => rfl)) pe_non))), ?_⟩
  obtain ⟨dx, rem, o1, o2, o3, o4, o5, er, h1⟩ := P.run
  obtain ⟨xs, ea, ga⟩ := P.rp.ag
  have hl := P.ok.liv _ _ ea
  refine ⟨_, rfl, _, _, _, _, _, rfl, h1, T.c_Run, T.n_Run_agenda, rfl, Nat.zero_le _, fun p np => ?_⟩
  have P1 := P.same (same_upd np (o := .lst []))
  have hl1 := P1.ok.liv _ _ ea
  obtain ⟨dx, rem, o1, o2, o3, o4, o5, er, h1⟩ := P1.run
  refine ⟨_, _, _, rfl, rfl, SqL.of hl1, SqL.of upd_same, _, rfl, ?_⟩
  cases hag : m.agenda with
  | nil => exact absurd hag hne0
  | cons e l =>
    have hne : (!xs.isEmpty) = true := by
      have := ga.len
      rw [hag] at this
      cases xs with
      | nil => cases this
      | cons _ _ => rfl
    refine ifB (fun _ => ?_) fun z => absurd (hne.symm.trans z) (by decide)
    refine ⟨_, rfl, _, _, _, _, _, rfl, h1, T.c_Run, T.n_Run_agenda, rfl, _, _, e, l, rfl, SqL.of hl1, dpa_same P1.ok.sm (hag ▸ ga.dpa), fun i v hi hm => ?_⟩
    cases hx : (e :: l)[i]? with
    | none => rw [hx] at hm; cases hm
    | some x =>
      have dv := dp_same P1.ok.sm (ga.get hi (hag ▸ hx))
      obtain ⟨b, rfl, hb⟩ := entI dv
      refine ⟨_, _, _, _, rfl, rfl, hb, rfl, ?_⟩
      exact q x _ (hag ▸ (hm.trans hx)) (same_upd np)
theorem dpa_ints {H : Hp} : ∀ xs : List Nat, DpAll K H (xs.map fun x => V.int (x : Nat)) (xs.map fun x => PyData.int (x : Nat))
  | [] => .nil
  | _ :: xs => .cons (.int _) (dpa_ints xs)
def sp_tell0 (K : PySem.W.Frag) (A : Adr) : Sp0 := fun vs H Q => ∃ (c : Cfg) (mv : V) (a : Addr) (m : M) (F : Hp) (S : Sto) (p : Nat) (wd : Wd) (xs : List Nat) (t : Addr), vs = [.ref a, .int p, .str (wdS wd), .ref t] ∧ PAt K A c mv a m F S H ∧ H t = some (.tup (xs.map fun x => .int (x : Nat))) ∧ m.log.length ≤ 4000 ∧ xs.length ≤ 100 ∧
  ∀ F' S' H', Same F F' → Fix mvP S S' → S'.ct .pe = S.ct .pe → PAt K A c mv a (m.tell p wd xs) F' S' H' → Q .non H'
def sp_Run_tell (K : PySem.W.Frag) (A : Adr) : Sp0 := fun vs H Q => ∃ (c : Cfg) (mv : V) (a : Addr) (m : M) (F : Hp) (S : Sto) (p : Nat) (wd : Wd) (xs : List Nat), vs = .ref a :: .int p :: .str (wdS wd) :: xs.map (fun x => .int (x : Nat)) ∧ PAt K A c mv a m F S H ∧ m.log.length ≤ 4000 ∧ xs.length ≤ 100 ∧
  ∀ F' S' H', Same F F' → Fix mvP S S' → S'.ct .pe = S.ct .pe → PAt K A c mv a (m.tell p wd xs) F' S' H' → Q .non H'
theorem ok_Run_tell (T : Txt K mg w A) : Fn PP w K mg base 1 A.Run_tell (sp_Run_tell K A) := by
  refine (T.d_Run_tell.fnStar (ps := ["self", "process", "word"]) (pv := "more") (sp := sp_tell0 K A) sc_Run_tell (fun _ _ _ _ _ _ us rest hl => match us, hl with | [_, _, _], _ => by cases rest <;> rfl) fun cdv Ar outer s H vs Q hr h => ?_).imp (fun vs H Q h => ?_)
  · have nd := sc_Run_tell.nd
    obtain ⟨c, mv, a, m, F, S, p, wd, xs, t, rfl, P, ht, hz, hx, q⟩ := h
    obtain ⟨dx, rem, o1, o2, o3, o4, o5, er, h1⟩ := P.run
    obtain ⟨ys, el, dl⟩ := P.rp.lg
    have hl := P.ok.liv _ _ el
    have hyl : ys.length = m.log.length := by rw [dpa_length dl, List.length_map]
    have s100 : (200 : Nat) < sizeLine := by decide
    refine ⟨_, (pss_one (ps_expr (pe_bm PySem.F.plainAttrs_list PySem.F.slot_list_append PySem.F.type_list_append mt_append (fldK K (pv 0) rfl) (pa_cons (pe_tup (pa_cons (fldK K (pv 0) rfl) (pa_cons (pv 1) (pa_cons (pv 2) (StX.pa_star (pv 3) pa_nil))))) pa_nil)))), ?_⟩
    refine ⟨_, rfl, _, _, _, _, _, rfl, h1, T.c_Run, T.n_Run_log, rfl, .inl ⟨rfl, _, SqL.of hl⟩, _, rfl, _, _, _, _, _, rfl, h1, T.c_Run, T.n_Run_clock, rfl, _, rfl, _, rfl, _, rfl, _, _, rfl, .inl (SqT.of ht), (by simp only [List.length_cons, List.append_nil, List.length_map]; omega), fun e ne => ?_⟩
    have P1 := P.frz ne (.tup (V.int m.clock :: V.int p :: V.str (wdS wd) :: (xs.map (fun x => V.int (x : Nat)) ++ [])))
    refine ⟨_, _, _, rfl, rfl, P1.ok.liv _ _ el, sz3 (by omega), ?_⟩
    obtain ⟨S2, P2, X2, Y2⟩ := P1.addLg el (dpa_same (P.up ne _) dl) (v := .ref e) (ev := ⟨m.clock, p, wd, xs⟩) (.tup (SqT.of upd_same) (.cons (.int _) (.cons (.int _) (.cons (.str _) (by rw [List.append_nil]; exact dpa_ints xs)))))
    exact q _ _ _ (P.up ne _) X2 Y2 P2
  · obtain ⟨c, mv, a, m, F, S, p, wd, xs, rfl, P, hz, hx, q⟩ := h
    have s100 : (200 : Nat) < sizeLine := by decide
    refine ⟨[.ref a, .int p, .str (wdS wd)], xs.map (fun x => .int (x : Nat)), rfl, rfl, (by rw [List.length_map]; omega), fun t nt => ?_⟩
    exact ⟨c, mv, a, m, F, S, p, wd, xs, t, rfl, P.same (same_upd nt), upd_same, hz, hx, q⟩
end Ev
namespace Ev
open PySem PySem.Spec PyProof.Rows L2
variable {w : World} {K : PySem.W.Frag} {mg : Str → Option Value} {base : Heap} {A : Adr}

theorem sts_shaped (s : Sts) : SeqAt.shaped (stsD s) = true := by
  cases s <;> simp only [SeqAt.shaped, stsD, PyData.canLay0, PyData.canLayAll0, PyData.depth, PyData.depthAll, Bool.and_true, Bool.true_and] <;> first | decide | decide +kernel
theorem eqv_sts (s t : Sts) : PyData.eqv (stsD s) (stsD t) = decide (s = t) := by
  cases s <;> cases t <;> simp only [stsD, PyData.eqv, PyData.eqvAll, Bool.and_true, Bool.and_false, Bool.false_and, Bool.true_and] <;> first | rfl | decide | skip
  · rw [Bool.eq_iff_iff]; simp
    omega
  · rw [Bool.eq_iff_iff]; simp
    omega
theorem PAt.ghost {c : Cfg} {mv : V} {a : Addr} {m : M} {F : Hp} {S : Sto} {H : Hp} (h : PAt K A c mv a m F S H) (t : Nat → Nat) : PAt K A c mv a { m with tau := t } F S H :=
  ⟨h.ok, let R := h.rp; ⟨R.run, R.ag, R.lg, R.pa, R.pe, R.ln, R.st, R.re, R.si, R.ti, R.line, R.rq, R.req, R.num, R.old, R.mod⟩, h.adr⟩
theorem PAt.ghost2 {c : Cfg} {mv : V} {a : Addr} {m : M} {F : Hp} {S : Sto} {H : Hp} (h : PAt K A c mv a m F S H) (t : Nat) : PAt K A c mv a { m with asked := t } F S H :=
  ⟨h.ok, let R := h.rp; ⟨R.run, R.ag, R.lg, R.pa, R.pe, R.ln, R.st, R.re, R.si, R.ti, R.line, R.rq, R.req, R.num, R.old, R.mod⟩, h.adr⟩
theorem s9 : 9 ≤ sizeLine := by decide
theorem Txt.tREADY (T : Txt K mg w A) (H : Hp) : Dp K H (.ref A.READY) (stsD .ready) := .tup (.inr T.t_READY) (.cons (.str _) .nil)
theorem Txt.tFINISHED (T : Txt K mg w A) (H : Hp) : Dp K H (.ref A.FINISHED) (stsD .fin) := .tup (.inr T.t_FINISHED) (.cons (.str _) .nil)
def sp_Run_sleep (K : PySem.W.Frag) (A : Adr) : Sp0 := fun vs H Q => ∃ (c : Cfg) (mv : V) (a : Addr) (m : M) (F : Hp) (S : Sto) (p d : Nat), vs = [.ref a, .int p, .int d] ∧ PAt K A c mv a m F S H ∧ p < c.n ∧ m.agenda.length ≤ 4000 ∧
  ∀ F' S' H', Same F F' → Fix mvP S S' → PAt K A c mv a (m.fallAsleep p d) F' S' H' → Q .non H'
/-- Run.sleep -/
theorem ok_Run_sleep (T : Txt K mg w A) : Fn PP w K mg base 2 A.Run_sleep (sp_Run_sleep K A) := by
  refine T.d_Run_sleep.go sc_Run_sleep fun cdv Ar outer s H vs Q hr h => ?_
  have nd := sc_Run_sleep.nd
  obtain ⟨c, mv, a, m, F, S, p, d, rfl, P, hp, hz, q⟩ := h
  refine ⟨_, (pss_cons (ps_asg (pe_tup (pa_cons (pe_gl (by rfl) T.g_ASLEEP) pa_nil)) (pg_sub (fldK K (pv 0) rfl) (pv 1) set_list (fun _ => rfl)))
      (pss_cons (ps_asg (fldK K (pv 0) rfl) (pg_sub (fldK K (pv 0) rfl) (pv 1) set_list (fun _ => rfl)))
      (pss_cons (ps_asg (pe_op op_add (fldK K (pv 0) rfl) (pv 2)) (pg_sub (fldK K (pv 0) rfl) (pv 1) set_list (fun _ => rfl)))
      (pss_one (ps_expr (pe_m (pv 0) T.mRun_schedule (ok_Run_schedule T) (hr.mono (by decide)) T.d_Run_schedule.kp (pa_cons (pv 1) (pa_cons (pe_op op_add (fldK K (pv 0) rfl) (pv 2)) pa_nil)))))))), ?_⟩
  obtain ⟨dx, rem, o1, o2, o3, o4, o5, er, h1⟩ := P.run
  obtain ⟨f, es, ds⟩ := P.rp.st
  refine ⟨Nat.le_trans (by decide) s9, fun e ne => ?_⟩
  have P1 := P.frz ne (.tup [V.str "asleep"])
  obtain ⟨dx, rem, o1, o2, o3, o4, o5, er, h1⟩ := P1.run
  refine ⟨_, rfl, _, _, _, _, _, rfl, h1, T.c_Run, T.n_Run_states, rfl, _, rfl, _, _, _, p, rfl, rfl, P1.ok.liv _ _ es, tab_ix hp, ?_⟩
  obtain ⟨S2, P2, X2⟩ := P1.setSt es (fun q hq => dp_same (P.up ne _) (ds q hq)) (p := p) (v := .ref e) (s := .asleep) (.tup (SqT.of upd_same) (.cons (.str _) .nil))
  obtain ⟨dx, rem, o1, o2, o3, o4, o5, er, h1⟩ := P2.run
  refine ⟨_, rfl, _, _, _, _, _, rfl, h1, T.c_Run, T.n_Run_clock, rfl, _, rfl, _, _, _, _, _, rfl, h1, T.c_Run, T.n_Run_since, rfl, _, rfl, _, _, _, p, rfl, rfl, P2.ok.liv _ _ P2.rp.si, tab_ix hp, ?_⟩
  obtain ⟨S3, P3, X3⟩ := P2.setSi p m.clock
  obtain ⟨dx, rem, o1, o2, o3, o4, o5, er, h1⟩ := P3.run
  refine ⟨_, rfl, _, _, _, _, _, rfl, h1, T.c_Run, T.n_Run_clock, rfl, _, rfl, _, _, rfl, rfl, _, rfl, _, _, _, _, _, rfl, h1, T.c_Run, T.n_Run_until, rfl, _, rfl, _, _, _, p, rfl, rfl, P3.ok.liv _ _ P3.rp.ti, tab_ix hp, ?_⟩
  obtain ⟨S4, P4, X4⟩ := P3.setTi p (m.clock + d)
  obtain ⟨dx, rem, o1, o2, o3, o4, o5, er, h1⟩ := P4.run
  refine ⟨_, rfl, _, _, _, _, rfl, h1, rfl, rfl, _, rfl, _, rfl, _, _, _, _, _, rfl, h1, T.c_Run, T.n_Run_clock, rfl, _, rfl, _, _, rfl, rfl, c, mv, a, _, _, S4, p, m.clock + d, rfl, P4, hz, fun F5 S5 H5 s5 X5 P5 => ?_⟩
  exact q _ _ _ ((P.up ne _).trans s5) (((X2.trans X3).trans X4).trans X5) (P5.ghost (upf m.tau p (m.clock + 1)))
def sp_Run_continue_now (K : PySem.W.Frag) (A : Adr) : Sp0 := fun vs H Q => ∃ (c : Cfg) (mv : V) (a : Addr) (m : M) (F : Hp) (S : Sto) (p : Nat), vs = [.ref a, .int p] ∧ PAt K A c mv a m F S H ∧ p < c.n ∧ m.agenda.length ≤ 4000 ∧
  ∀ F' S' H', Same F F' → Fix mvP S S' → PAt K A c mv a (m.goOn p) F' S' H' → Q .non H'
/-- Run.continue_now -/
theorem ok_Run_continue_now (T : Txt K mg w A) : Fn PP w K mg base 2 A.Run_continue_now (sp_Run_continue_now K A) := by
  refine T.d_Run_continue_now.go sc_Run_continue_now fun cdv Ar outer s H vs Q hr h => ?_
  have nd := sc_Run_continue_now.nd
  obtain ⟨c, mv, a, m, F, S, p, rfl, P, hp, hz, q⟩ := h
  refine ⟨_, (pss_cons (ps_asg (pe_gl (by rfl) T.g_READY) (pg_sub (fldK K (pv 0) rfl) (pv 1) set_list (fun _ => rfl)))
      (pss_one (ps_expr (pe_m (pv 0) T.mRun_schedule (ok_Run_schedule T) (hr.mono (by decide)) T.d_Run_schedule.kp (pa_cons (pv 1) (pa_cons (fldK K (pv 0) rfl) pa_nil)))))), ?_⟩
  obtain ⟨dx, rem, o1, o2, o3, o4, o5, er, h1⟩ := P.run
  obtain ⟨f, es, ds⟩ := P.rp.st
  refine ⟨_, rfl, _, _, _, _, _, rfl, h1, T.c_Run, T.n_Run_states, rfl, _, rfl, _, _, _, p, rfl, rfl, P.ok.liv _ _ es, tab_ix hp, ?_⟩
  obtain ⟨S2, P2, X2⟩ := P.setSt es ds (p := p) (v := .ref A.READY) (s := .ready) (T.tREADY F)
  obtain ⟨dx, rem, o1, o2, o3, o4, o5, er, h1⟩ := P2.run
  refine ⟨_, rfl, _, _, _, _, rfl, h1, rfl, rfl, _, rfl, _, rfl, _, _, _, _, _, rfl, h1, T.c_Run, T.n_Run_clock, rfl, c, mv, a, _, _, S2, p, m.clock, rfl, P2, hz, fun F5 S5 H5 s5 X5 P5 => ?_⟩
  exact q _ _ _ s5 (X2.trans X5) P5
def sp_Run_wait (K : PySem.W.Frag) (A : Adr) : Sp0 := fun vs H Q => ∃ (c : Cfg) (mv : V) (a : Addr) (m : M) (F : Hp) (S : Sto) (p d : Nat), vs = [.ref a, .int p, .int d] ∧ PAt K A c mv a m F S H ∧ p < c.n ∧ m.agenda.length ≤ 4000 ∧ m.log.length ≤ 4000 ∧
  (d = 0 → Q (.bl true) H) ∧ (1 ≤ d → ∀ F' S' H', Same F F' → Fix mvP S S' → PAt K A c mv a ((m.tell p .sleep [d]).fallAsleep p d) F' S' H' → Q (.bl false) H')
/-- Run.wait -/
theorem ok_Run_wait (T : Txt K mg w A) : Fn PP w K mg base 3 A.Run_wait (sp_Run_wait K A) := by
  refine T.d_Run_wait.go sc_Run_wait fun cdv Ar outer s H vs Q hr h => ?_
  have nd := sc_Run_wait.nd
  obtain ⟨c, mv, a, m, F, S, p, d, rfl, P, hp, hz, hl, q0, q⟩ := h
  refine ⟨_, (pss_cons (ps_if (pt_cm op_eq (pv 2) pe_int)
        (pss_one (ps_ret pe_bl))
        pss_nil)
      (pss_cons (ps_expr (pe_m (pv 0) T.mRun_tell (ok_Run_tell T) (hr.mono (by decide)) T.d_Run_tell.kp (pa_cons (pv 1) (pa_cons pe_str (pa_cons (pv 2) pa_nil)))))
      (pss_cons (ps_expr (pe_m (pv 0) T.mRun_sleep (ok_Run_sleep T) (hr.mono (by decide)) T.d_Run_sleep.kp (pa_cons (pv 1) (pa_cons (pv 2) pa_nil))))
      (pss_one (ps_ret pe_bl))))), ?_⟩
  refine ⟨_, rfl, rfl, _, rfl, ?_⟩
  have e : decide (V.int (d : Int) = V.int 0) = decide (d = 0) := dint d 0
  rw [e]
  refine ifB (fun hb => q0 (by simpa using hb)) fun hb => ?_
  have hd : 1 ≤ d := by have : d ≠ 0 := by simpa using hb
                        omega
  obtain ⟨dx, rem, o1, o2, o3, o4, o5, er, h1⟩ := P.run
  refine ⟨_, rfl, _, _, _, _, rfl, h1, rfl, rfl, _, rfl, _, rfl, c, mv, a, m, F, S, p, .sleep, [d], rfl, P, hl, (by show 1 ≤ 100; decide), fun F1 S1 H1 s1 X1 _ P1 => ?_⟩
  obtain ⟨dx, rem, o1, o2, o3, o4, o5, er, h1⟩ := P1.run
  refine ⟨_, rfl, _, _, _, _, rfl, h1, rfl, rfl, _, rfl, _, rfl, c, mv, a, _, F1, S1, p, d, rfl, P1, hp, hz, fun F2 S2 H2 s2 X2 P2 => ?_⟩
  exact q hd _ _ _ (s1.trans s2) (X1.trans X2) P2
def sp_Run_sleepers (K : PySem.W.Frag) (A : Adr) : Sp0 := fun vs H Q => ∃ (c : Cfg) (mv : V) (a : Addr) (m : M) (F : Hp) (S : Sto), vs = [.ref a] ∧ PAt K A c mv a m F S H ∧ c.n ≤ 1000 ∧
  ∀ t H', Same H H' → H' t = some (.tup ((m.sleepers c.n).map fun x => .int (x : Nat))) → Q (.ref t) H'
/-- Run.sleepers -/
theorem ok_Run_sleepers (T : Txt K mg w A) : Fn PP w K mg base 1 A.Run_sleepers (sp_Run_sleepers K A) := by
  refine T.d_Run_sleepers.go sc_Run_sleepers fun cdv Ar outer s H vs Q hr h => ?_
  have nd := sc_Run_sleepers.nd
  obtain ⟨c, mv, a, m, F, S, rfl, P, hn, q⟩ := h
  refine ⟨_, (pss_cons (ps_setLc (i := 1) (hy := rfl) (hyl := rfl) (hsw := sw_true rfl rfl rfl (by decide +kernel)) (own := [("one", 2), ("state", 3)]) (g := _) (tt := _) rfl nd (pi_enum (by rfl) T.b_enumerate (pa_cons (fldK K (pv 0) rfl) pa_nil)) (blkOk_by (own := [("one", 2), ("state", 3)]) (N := N_Run_sleepers) (sc := defScope s_Run_sleepers) (by decide +kernel))
        (fun _ _ _ _ _ => (pgT K (n := 2) rfl (pgs_cons (pg_name (i := 2) nd rfl (Or.inl rfl)) (pgs_cons (pg_name (i := 3) nd rfl (Or.inl rfl)) pgs_nil)))) (fun _ _ _ _ _ => (pts_one (pt_cm (opEqD K hr.hu) (pv 3) (pe_tup (pa_cons (pe_gl (by rfl) T.g_ASLEEP) pa_nil)))))
        (fun _ _ _ _ _ => (pv 2)))
      (pss_one (ps_ret (pe_callTy (tupOf K) (by rfl) T.b_tuple (by decide +kernel) (pa_cons (pe_lc (own := [("one", 2)]) (g := gName 2) (tt := _) rfl nd (pi_list (pv 1)) (blkOk_by (own := [("one", 2)]) (N := N_Run_sleepers) (sc := defScope s_Run_sleepers) (by decide +kernel))
        (fun _ _ _ _ _ => (pg_name (i := 2) nd rfl (Or.inl rfl))) (fun _ _ _ _ _ => (pts_one (pt_cm op_gt (pe_ix (ixL K) (fldK K (pv 0) rfl) (pv 2) (fun _ _ => rfl)) (fldK K (pv 0) rfl))))
        (fun _ _ _ _ _ => (pv 2))) pa_nil))))), ?_⟩
  obtain ⟨dx, rem, o1, o2, o3, o4, o5, er, h1⟩ := P.run
  have s9 := s9
  have s5 := sz3 (Nat.le_refl _)
  obtain ⟨f, es, ds⟩ := P.rp.st
  refine ⟨_, rfl, _, _, _, _, _, rfl, h1, T.c_Run, T.n_Run_states, rfl, _, _, rfl, SqL.of (P.ok.liv _ _ es), fun D nD => lc_E (n := c.n) (h := f) (fun i => m.states i == .asleep) (fun i => .int i) nD (SqL.of (P.ok.liv _ _ es)) (by omega) (fun i hi H1 s1 e ne Y N hY hN => ?_) fun H1 s1 eD => ?_⟩
  · refine ⟨_, _, rfl, SqT.of upd_same, rfl, _, _, rfl, _, _, rfl, rfl, rfl, _, rfl, Nat.le_trans (by decide) s9, fun u nu => ?_⟩
    refine ⟨stsD (m.states i), stsD .asleep, dp_same (P.ok.sm.trans (s1.trans ((same_upd ne).trans (same_upd nu)))) (ds i hi), .tup (SqT.of upd_same) (.cons (.str _) .nil), sts_shaped _, sts_shaped _, _, rfl, ?_⟩
    rw [eqv_sts]
    refine ifB (fun hb => ⟨_, rfl, hY ?_ _ (same_upd nu)⟩) fun hb => hN ?_ _ (same_upd nu)
    · simpa using hb
    · simpa using hb
  have P1 := P.same s1
  refine ⟨_, rfl, _, rfl, ⟨_, SqL.of eD⟩, fun D2 nD2 => lc_L (l := (List.range c.n).filter fun i => m.states i == .asleep) (h := fun i => .int (i : Nat)) (fun i => decide (m.clock < m.til i)) (fun i => .int (i : Nat)) nD2 (SqL.of eD) (Nat.le_trans (List.length_filter_le ..) (by rw [List.length_range]; omega)) (fun i hi H2 s2 Y N hY hN => ?_) fun H2 s2 eD2 => ?_⟩
  · have hi : i < c.n := List.mem_range.mp (List.mem_filter.mp hi).1
    have P2 := P1.same s2
    have h1 := s2 _ _ (s1 _ _ h1)
    refine ⟨rfl, _, rfl, _, _, _, _, _, rfl, h1, T.c_Run, T.n_Run_until, rfl, _, rfl, _, _, _, _, rfl, rfl, SqL.of (P2.ok.liv _ _ P2.rp.ti), tab_at hi, _, rfl, _, _, _, _, _, rfl, h1, T.c_Run, T.n_Run_clock, rfl, _, _, rfl, rfl, _, rfl, ?_⟩
    have e : decide ((m.clock : Int) < (m.til i : Int)) = decide (m.clock < m.til i) := decide_eq_decide.mpr (by omega)
    rw [e]
    exact ifB (fun hb => ⟨_, rfl, hY hb _ (Same.refl _)⟩) fun hb => hN hb _ (Same.refl _)
  refine ⟨_, _, rfl, .inl ⟨SqL.of eD2, fun t nt => ?_⟩⟩
  refine q t _ (s1.trans (s2.trans (same_upd nt))) (upd_same.trans ?_)
  rw [List.filter_filter]
  congr 3
  exact List.filter_congr fun i _ => Bool.and_comm _ _
end Ev
namespace Ev
open PySem PySem.Spec PyProof.Rows L2
variable {w : World} {K : PySem.W.Frag} {mg : Str → Option Value} {base : Heap} {A : Adr}

def sp_Run_begin_hold (K : PySem.W.Frag) (A : Adr) : Sp0 := fun vs H Q => ∃ (c : Cfg) (mv : V) (a : Addr) (m : M) (F : Hp) (S : Sto) (r : Nat) (q : Rq), vs = [.ref a, .int r, .ref (S.ad (.req r q.num))] ∧ PAt K A c mv a m F S H ∧ r < c.nr ∧ q ∈ m.reqs r ∧ m.log.length ≤ 4000 ∧
  ∀ F' S' H', Same F F' → Fix mvP S S' → PAt K A c mv a (m.tell q.proc .hold [r]) F' S' H' → Q .non H'
/-- Run.begin_hold -/
theorem ok_Run_begin_hold (T : Txt K mg w A) : Fn PP w K mg base 2 A.Run_begin_hold (sp_Run_begin_hold K A) := by
  refine T.d_Run_begin_hold.go sc_Run_begin_hold fun cdv Ar outer s H vs Q hr h => ?_
  have nd := sc_Run_begin_hold.nd
  obtain ⟨c, mv, a, m, F, S, r, y, rfl, P, hr', hy, hl, q⟩ := h
  refine ⟨_, (pss_cons (ps_expr (pe_m (pv 0) T.mRun_tell (ok_Run_tell T) (hr.mono (by decide)) T.d_Run_tell.kp (pa_cons (fldK K (pv 2) rfl) (pa_cons pe_str (pa_cons (pv 1) pa_nil)))))
      (pss_cons (ps_set (i := 3) nd rfl (Or.inl rfl) (pe_disp (pps_cons pe_str (pv 1) (pps_cons pe_str (fldK K (pv 2) rfl) (pps_cons pe_str (fldK K (pv 2) rfl) (pps_cons pe_str (fldK K (pv 0) rfl) pps_nil)))) (by rfl) (by rfl) (fun z => by cases z) (by decide)))
      (pss_one (ps_expr (pe_bm PySem.F.plainAttrs_list PySem.F.slot_list_append PySem.F.type_list_append mt_append (fldK K (pv 0) rfl) (pa_cons (pv 3) pa_nil)))))), ?_⟩
  obtain ⟨dx, rem, o1, o2, o3, o4, o5, er, h1⟩ := P.run
  obtain ⟨dq, eq, hq⟩ := P.reqO hr' hy
  refine ⟨_, rfl, _, _, _, _, rfl, h1, rfl, rfl, _, rfl, _, _, _, _, _, rfl, hq, T.c_Request, T.n_Request_process, rfl, _, rfl, c, mv, a, m, F, S, y.proc, .hold, [r], rfl, P, hl, (by show 1 ≤ 100; decide), fun F1 S1 H1 s1 X1 Y1 P1 => ?_⟩
  obtain ⟨dq1, eq1, hq1⟩ := P1.reqO hr' (q := y) hy
  rw [(X1 _ _ rfl eq).1] at hq1
  obtain ⟨dx, rem, o1, o2, o3, o4, o5, er, h1⟩ := P1.run
  refine fun p np => ?_
  have hq2 := same_upd np (o := .dK []) _ _ hq1
  have h1' := h1
  have h1 := same_upd np (o := .dK []) _ _ h1
  refine ⟨_, rfl, _, rfl, _, _, _, _, _, rfl, hq2, T.c_Request, T.n_Request_number, rfl, _, rfl, _, _, _, _, _, rfl, hq2, T.c_Request, T.n_Request_process, rfl, _, rfl, _, _, _, _, _, rfl, h1, T.c_Run, T.n_Run_clock, rfl, upd_same, [(.inr "resource", .int r), (.inr "number", .int y.num), (.inr "process", .int y.proc), (.inr "start", .int m.clock)], rfl, (by show 4 ≤ 15; decide), ?_⟩
  rw [upd_upd]
  obtain ⟨k, ek, _, dk⟩ := P1.rp.pe
  obtain ⟨k0, ek0, hk0, _⟩ := P.rp.pe
  have hk : k ≤ m.log.length := by
    rw [Y1, ek0] at ek
    injection ek with ek
    injection ek with ek
    have := congrArg List.length ek
    rw [tab_len, tab_len] at this
    omega
  have sm := same_upd np (o := HO.dK (mergeK [] [(.inr "resource", .int r), (.inr "number", .int y.num), (.inr "process", .int y.proc), (.inr "start", .int m.clock)]))
  have h1 := sm _ _ h1'
  have hlog : (m.tell y.proc .hold [r]).log.length = m.log.length + 1 := by simp [M.tell]
  refine ⟨_, rfl, _, _, _, _, _, rfl, h1, T.c_Run, T.n_Run_periods, rfl, .inl ⟨rfl, _, SqL.of (sm _ _ (P1.ok.liv _ _ ek))⟩, _, rfl, _, _, _, rfl, rfl, sm _ _ (P1.ok.liv _ _ ek), sz3 (by rw [tab_len]; omega), ?_⟩
  obtain ⟨S2, P2, X2⟩ := P1.addPer ek (by rw [hlog]; omega) dk sm np upd_same (⟨r, y.num, y.proc, m.clock, .inl rfl⟩ : PerOk (mergeK [] [(.inr "resource", .int r), (.inr "number", .int y.num), (.inr "process", .int y.proc), (.inr "start", .int m.clock)]))
  exact q _ _ _ s1 (X1.trans X2) P2
def sp_Run_end_hold (K : PySem.W.Frag) (A : Adr) : Sp0 := fun vs H Q => ∃ (c : Cfg) (mv : V) (a : Addr) (m : M) (F : Hp) (S : Sto) (r : Nat) (q : Rq), vs = [.ref a, .int r, .ref (S.ad (.req r q.num))] ∧ PAt K A c mv a m F S H ∧ r < c.nr ∧ q ∈ m.reqs r ∧
  ∀ S' H', Fix mvP S S' → PAt K A c mv a m F S' H' → Q .non H'
theorem per_res {kvs : List (Key × V)} (g : PerOk kvs) : (∃ i, valV kvs (.inr "resource") = some (.int i)) ∧ (∃ i, valV kvs (.inr "number") = some (.int i)) ∧ kvs.length ≤ 5 ∧ (valV kvs (.inr "end") = none → ∀ e : Int, PerOk (putK kvs (.inr "end") (.int e))) := by
  obtain ⟨r, n, p, s, rfl | ⟨e, rfl⟩⟩ := g
  · exact ⟨⟨r, rfl⟩, ⟨n, rfl⟩, by show 4 ≤ 5; decide, fun _ e => ⟨r, n, p, s, .inr ⟨e, rfl⟩⟩⟩
  · exact ⟨⟨r, rfl⟩, ⟨n, rfl⟩, by show 5 ≤ 5; decide, fun h => by cases h⟩
theorem int2_shaped (a b : Int) : SeqAt.shaped (.tuple [.int a, .int b]) = true := by
  simp only [SeqAt.shaped, PyData.canLay0, PyData.canLayAll0, PyData.depth, PyData.depthAll, Bool.and_true, Bool.true_and]; rfl
/-- Run.end_hold -/
theorem ok_Run_end_hold (T : Txt K mg w A) : Fn PP w K mg base 1 A.Run_end_hold (sp_Run_end_hold K A) := by
  refine T.d_Run_end_hold.go sc_Run_end_hold fun cdv Ar outer s H vs Q hr h => ?_
  have nd := sc_Run_end_hold.nd
  obtain ⟨c, mv, a, m, F, S, r, y, rfl, P, hr', hy, q⟩ := h
  refine ⟨_, (pss_one (ps_for PassesOwn.never rfl (pi_list (fldK K (pv 0) rfl)) (pg_name (i := 3) nd rfl (Or.inl rfl))
        (pss_one (ps_if (PW.pt (pw_and (pt_cm (opEqD K hr.hu) (pe_tup (pa_cons (pe_dget hr.hu1 (pv 3) pe_str (fun _ _ => rfl)) (pa_cons (pe_dget hr.hu1 (pv 3) pe_str (fun _ _ => rfl)) pa_nil))) (pe_tup (pa_cons (pv 1) (pa_cons (fldK K (pv 2) rfl) pa_nil)))) (pw_and1 (pt_cmp (pc_dnotin hr.hu1 pe_str (pv 3))))))
          (pss_one (ps_asg (fldK K (pv 0) rfl) (pg_sub (pv 3) pe_str (set_dict hr.hu1) (fun _ => rfl))))
          pss_nil)))), ?_⟩
  obtain ⟨dx, rem, o1, o2, o3, o4, o5, er, h1⟩ := P.run
  obtain ⟨dq, eq, hq⟩ := P.reqO hr' hy
  obtain ⟨k, ek, hk, dk⟩ := P.rp.pe
  have hl := P.ok.liv _ _ ek
  refine ⟨_, rfl, _, _, _, _, _, rfl, h1, T.c_Run, T.n_Run_periods, rfl, _, rfl, ⟨_, SqL.of hl⟩, for_list (xs := tab k fun i => .ref (S.ad (.per i))) (fun i σ H2 => ∃ S2 x, σ = [some (.ref a), some (.int r), some (.ref (S.ad (.req r y.num))), x] ∧ PAt K A c mv a m F S2 H2 ∧ Fix mvP S S2 ∧ S2.ad = S.ad ∧ S2.ct .pe = S.ct .pe) ⟨S, none, rfl, P, Fix.refl _, rfl, rfl⟩ ?_ ?_ ?_⟩
  · rintro i σ H2 hi ⟨S2, x, rfl, P2, X2, ad2, ct2⟩
    have := P2.ok.liv _ _ (ct2.trans ek)
    rw [ad2] at this
    exact SqL.of this
  · rintro i v σ H2 hv ⟨S2, x, rfl, P2, X2, ad2, ct2⟩
    have hi : i < k := by have := (List.getElem?_eq_some_iff.mp hv).1; rwa [tab_len] at this
    rw [tab_get hi] at hv
    obtain rfl := Option.some.inj hv
    obtain ⟨k2, ek2, hk2, dk2⟩ := P2.rp.pe
    have e2 : k2 = k := by
      rw [ct2, ek] at ek2
      injection ek2 with ek2
      injection ek2 with ek2
      have := congrArg List.length ek2
      rw [tab_len, tab_len] at this
      exact this.symm
    subst e2
    obtain ⟨kvs, eper, gper⟩ := dk2 i hi
    have hper := P2.ok.liv _ _ eper
    rw [ad2] at hper
    obtain ⟨⟨i1, v1⟩, ⟨i2, v2⟩, hlen, hput⟩ := per_res gper
    obtain ⟨dq2, eq2, hq2⟩ := P2.reqO hr' hy
    rw [ad2] at hq2
    refine ⟨_, rfl, S.ad (.per i), .int i1, rfl, v1 ▸ DGet.k (k := .inr "resource") hper, _, rfl, S.ad (.per i), .int i2, rfl, v2 ▸ DGet.k (k := .inr "number") hper, (by show 2 ≤ sizeLine; decide), fun e1 n1 => ?_⟩
    have s1 := same_upd n1 (o := .tup [V.int i1, V.int i2])
    refine ⟨_, rfl, _, rfl, _, _, _, _, _, rfl, s1 _ _ hq2, T.c_Request, T.n_Request_number, rfl, (by show 2 ≤ sizeLine; decide), fun e2 n2 => ?_⟩
    have s2 := same_upd n2 (o := .tup [V.int r, V.int y.num])
    refine ⟨.tuple [.int i1, .int i2], .tuple [.int r, .int y.num], .tup (SqT.of (s2 _ _ upd_same)) (.cons (.int _) (.cons (.int _) .nil)), .tup (SqT.of upd_same) (.cons (.int _) (.cons (.int _) .nil)), int2_shaped _ _, int2_shaped _ _, _, rfl, ?_⟩
    have P3 := P2.same (s1.trans s2)
    refine ifB (fun _ => ?_) (fun _ => ⟨S2, _, rfl, P3, X2, ad2, ct2⟩)
    refine ⟨_, rfl, S.ad (.per i), valV kvs (.inr "end"), rfl, DGet.k (k := .inr "end") (s2 _ _ (s1 _ _ hper)), _, rfl, ?_⟩
    refine ifB (fun hb => ?_) (fun _ => ⟨S2, _, rfl, P3, X2, ad2, ct2⟩)
    have hnone : valV kvs (.inr "end") = none := by
      cases z : valV kvs (.inr "end") with
      | none => rfl
      | some _ => rw [z] at hb; cases hb
    obtain ⟨dx, rem, o1, o2, o3, o4, o5, er, h1⟩ := P3.run
    obtain ⟨S4, P4, X4, ad4, ct4⟩ := P3.setPer eper (hput hnone m.clock)
    rw [ad2] at P4
    refine ⟨_, rfl, _, _, _, _, _, rfl, h1, T.c_Run, T.n_Run_clock, rfl, _, rfl, S.ad (.per i), _, rfl, DPut.k (k := .inr "end") (s2 _ _ (s1 _ _ hper)) (sz3 (by omega)), S4, _, rfl, P4, X2.trans X4, ad4.trans ad2, ct4.trans ct2⟩
  · rintro σ H2 ⟨S2, x, rfl, P2, X2, ad2, ct2⟩
    exact q _ _ X2 P2
def sp_block0 (K : PySem.W.Frag) (A : Adr) : Sp0 := fun vs H Q => ∃ (c : Cfg) (mv : V) (a : Addr) (m : M) (F : Hp) (S : Sto) (p r : Nat) (t : Addr), vs = [.ref a, .int p, .str "wants", .int r, .ref t] ∧ PAt K A c mv a m F S H ∧ H t = some (.tup []) ∧ p < c.n ∧
  ∀ F' S' H', Same F F' → Fix mvP S S' → PAt K A c mv a (m.setSt p (.wants r)) F' S' H' → Q (.bl false) H'
def sp_Run_block (K : PySem.W.Frag) (A : Adr) : Sp0 := fun vs H Q => ∃ (c : Cfg) (mv : V) (a : Addr) (m : M) (F : Hp) (S : Sto) (p r : Nat), vs = [.ref a, .int p, .str "wants", .int r] ∧ PAt K A c mv a m F S H ∧ p < c.n ∧
  ∀ F' S' H', Same F F' → Fix mvP S S' → PAt K A c mv a (m.setSt p (.wants r)) F' S' H' → Q (.bl false) H'
theorem ok_Run_block (T : Txt K mg w A) : Fn PP w K mg base 1 A.Run_block (sp_Run_block K A) := by
  refine (T.d_Run_block.fnStar (ps := ["self", "process", "word", "number"]) (pv := "more") (sp := sp_block0 K A) sc_Run_block (fun _ _ _ _ _ _ us rest hl => match us, hl with | [_, _, _, _], _ => by cases rest <;> rfl) fun cdv Ar outer s H vs Q hr h => ?_).imp (fun vs H Q h => ?_)
  · have nd := sc_Run_block.nd
    obtain ⟨c, mv, a, m, F, S, p, r, t, rfl, P, ht, hp, q⟩ := h
    obtain ⟨dx, rem, o1, o2, o3, o4, o5, er, h1⟩ := P.run
    obtain ⟨f, es, ds⟩ := P.rp.st
    refine ⟨_, (pss_cons (ps_asg (pe_tup (pa_cons (pv 2) (pa_cons (pv 3) (StX.pa_star (pv 4) pa_nil)))) (pg_sub (fldK K (pv 0) rfl) (pv 1) set_list (fun _ => rfl)))
      (pss_one (ps_ret pe_bl))), ?_⟩
    refine ⟨_, rfl, _, rfl, _, rfl, _, _, rfl, .inl (SqT.of ht), (by show 2 ≤ sizeLine; decide), fun e ne => ?_⟩
    have P1 := P.frz ne (.tup [V.str "wants", V.int r])
    obtain ⟨dx, rem, o1, o2, o3, o4, o5, er, h1⟩ := P1.run
    refine ⟨_, rfl, _, _, _, _, _, rfl, h1, T.c_Run, T.n_Run_states, rfl, _, rfl, _, _, _, p, rfl, rfl, P1.ok.liv _ _ es, tab_ix hp, ?_⟩
    obtain ⟨S2, P2, X2⟩ := P1.setSt es (fun q hq => dp_same (P.up ne _) (ds q hq)) (p := p) (v := .ref e) (s := .wants r) (.tup (SqT.of upd_same) (.cons (.str _) (.cons (.int _) .nil)))
    exact q _ _ _ (P.up ne _) X2 P2
  · obtain ⟨c, mv, a, m, F, S, p, r, rfl, P, hp, q⟩ := h
    refine ⟨[.ref a, .int p, .str "wants", .int r], [], rfl, rfl, Nat.zero_le _, fun t nt => ?_⟩
    exact ⟨c, mv, a, m, F, S, p, r, t, rfl, P.same (same_upd nt), upd_same, hp, q⟩
end Ev
namespace Ev
open PySem PySem.Spec PyProof.Rows L2
variable {w : World} {K : PySem.W.Frag} {mg : Str → Option Value} {base : Heap} {A : Adr}

def sp_Request___init__ (K : PySem.W.Frag) (A : Adr) : Sp0 := fun vs H Q => ∃ (x dx : Addr) (y : Rq), vs = [.ref x, .int y.proc, .int y.rank, .int y.num, .bl y.holds] ∧ H x = some (.ins A.Request dx []) ∧ Q .non (upd H x (.ins A.Request dx (reqFs y)))
/-- Request.__init__ -/
theorem ok_Request___init__ (T : Txt K mg w A) : Fn PP w K mg base 1 A.Request___init__ (sp_Request___init__ K A) := by
  refine T.d_Request___init__.go sc_Request___init__ fun cdv Ar outer s H vs Q hr h => ?_
  have nd := sc_Request___init__.nd
  obtain ⟨x, dx, y, rfl, hx, q⟩ := h
  refine ⟨_, (pss_cons (sFldK K (pv 0) (pv 1) rfl)
      (pss_cons (sFldK K (pv 0) (pv 2) rfl)
      (pss_cons (sFldK K (pv 0) (pv 3) rfl)
      (pss_one (sFldK K (pv 0) (pv 4) rfl))))), ?_⟩
  refine ⟨_, rfl, _, rfl, _, _, _, _, rfl, hx, T.c_Request, T.n_Request_process, (by decide), ?_⟩
  refine ⟨_, rfl, _, rfl, _, _, _, _, rfl, upd_same, T.c_Request, T.n_Request_rank, (by show 1 < 1000; decide), ?_⟩
  refine ⟨_, rfl, _, rfl, _, _, _, _, rfl, upd_same, T.c_Request, T.n_Request_number, (by show 2 < 1000; decide), ?_⟩
  refine ⟨_, rfl, _, rfl, _, _, _, _, rfl, upd_same, T.c_Request, T.n_Request_holds, (by show 3 < 1000; decide), ?_⟩
  rw [upd_upd, upd_upd, upd_upd]
  exact q
def sp_Line___init__ (K : PySem.W.Frag) (A : Adr) : Sp0 := fun vs H Q => ∃ (x dx C : Addr) (u : Nat), vs = [.ref x, .int u] ∧ LineC A C ∧ 1 ≤ u ∧ u ≤ 3 ∧ H x = some (.ins C dx []) ∧ ∀ p, H p = none → Q .non (upd (upd H p (.lst [])) x (.ins C dx [("units", .int u), ("requests", .ref p), ("count", .int 0)]))
/-- Line.__init__ -/
theorem ok_Line___init__ (T : Txt K mg w A) : Fn PP w K mg base 3 A.Line___init__ (sp_Line___init__ K A) := by
  refine T.d_Line___init__.go sc_Line___init__ fun cdv Ar outer s H vs Q hr h => ?_
  have nd := sc_Line___init__.nd
  obtain ⟨x, dx, C, u, rfl, hC, h1, h3, hx, q⟩ := h
  refine ⟨_, (pss_cons (ps_expr (pe_f (ok_need_between T) (hr.mono (by decide)) (by rfl) T.g_need_between T.d_need_between.kp (pa_cons (pv 1) (pa_cons pe_int (pa_cons (pe_con (pv 0) rfl) pa_nil)))))
      (pss_cons (sFldK K (pv 0) (pv 1) rfl)
      (pss_cons (sFldK K (pv 0) (pe_lst pa_nil) rfl)
      (pss_one (sFldK K (pv 0) pe_int rfl))))), ?_⟩
  obtain ⟨uc, hcon⟩ := T.nLine_MOST hC
  refine ⟨_, rfl, _, rfl, _, _, _, _, _, _, rfl, hx, T.cLine hC, hcon, rfl, u, 1, .int 3, rfl, .inr ⟨_, rfl⟩, ?_, ?_⟩
  · unfold hiOk
    rw [Bool.and_eq_true, decide_eq_true_eq, decide_eq_true_eq]; omega
  refine ⟨_, rfl, _, rfl, _, _, _, _, rfl, hx, T.cLine hC, T.nLine_units hC, (by decide), ?_⟩
  refine ⟨Nat.zero_le _, fun p np => ?_⟩
  have hpx : p ≠ x := fun z => by rw [z, upd_same] at np; cases np
  have np : H p = none := by rw [upd_ne hpx] at np; exact np
  refine ⟨_, rfl, _, _, _, _, rfl, (upd_ne hpx.symm).trans upd_same, T.cLine hC, T.nLine_requests hC, (by show 1 < 1000; decide), ?_⟩
  refine ⟨_, rfl, _, _, _, _, rfl, upd_same, T.cLine hC, T.nLine_count hC, (by show 2 < 1000; decide), ?_⟩
  have e : ∀ o o2 : HO, ∀ l : HO, upd (upd (upd (upd H x o) p l) x o2) x (.ins C dx [("units", .int u), ("requests", .ref p), ("count", .int 0)]) = upd (upd H p l) x (.ins C dx [("units", .int u), ("requests", .ref p), ("count", .int 0)]) := fun o o2 l => by
    funext b
    by_cases hb : b = x <;> by_cases hb2 : b = p <;> simp [upd, hb, hb2, hpx]
  have q := q p np
  rw [← e (.ins C dx [("units", .int u)]) (.ins C dx [("units", .int u), ("requests", .ref p)])] at q
  exact q
section
variable {c : Cfg} {mv : V} {a : Addr} {m : M} {F : Hp} {S : Sto} {H : Hp}
theorem held_len (l : List Rq) : held l = (l.filter fun x => x.holds).length := by unfold held; rw [List.countP_eq_length_filter]
theorem req_at (P : PAt K A c mv a m F S H) {r : Nat} (hr : r < c.nr) {q : Rq} (hq : q ∈ m.reqs r) {H' : Hp} (s : Same H H') : ∃ dx, H' (S.ad (.req r q.num)) = some (.ins A.Request dx (reqFs q)) := by
  obtain ⟨dx, _, h⟩ := P.reqO hr hq
  exact ⟨dx, s _ _ h⟩
end
def refs (S : Sto) (r : Nat) (l : List Rq) : List V := l.map fun q => .ref (S.ad (.req r q.num))
def sp_Line_free (K : PySem.W.Frag) (A : Adr) : Sp0 := fun vs H Q => ∃ (c : Cfg) (mv : V) (a : Addr) (m : M) (F : Hp) (S : Sto) (r : Nat), vs = [.ref (S.ad (.line r))] ∧ PAt K A c mv a m F S H ∧ r < c.nr ∧ (m.reqs r).length ≤ 4000 ∧
  ∀ H', Same H H' → Q (.int ((c.units r : Int) - (held (m.reqs r) : Nat))) H'
/-- Line.free -/
theorem ok_Line_free (T : Txt K mg w A) : Fn PP w K mg base 1 A.Line_free (sp_Line_free K A) := by
  refine T.d_Line_free.go sc_Line_free fun cdv Ar outer s H vs Q hr h => ?_
  have nd := sc_Line_free.nd
  obtain ⟨c, mv, a, m, F, S, r, rfl, P, hr', hz, q⟩ := h
  refine ⟨_, (pss_one (ps_ret (pe_op op_sub (fldK K (pv 0) rfl) (pe_callB (lenK K) (by rfl) T.b_len (by decide +kernel) (pa_cons (pe_lc (own := [("one", 1)]) (g := gName 1) (tt := _) rfl nd (pi_list (fldK K (pv 0) rfl)) (blkOk_by (own := [("one", 1)]) (N := N_Line_free) (sc := defScope s_Line_free) (by decide +kernel))
        (fun _ _ _ _ _ => (pg_name (i := 1) nd rfl (Or.inl rfl))) (fun _ _ _ _ _ => (pts_one (pt_val (fldK K (pv 1) rfl))))
        (fun _ _ _ _ _ => (pv 1))) pa_nil))))), ?_⟩
  obtain ⟨dl, el, hl⟩ := P.line hr'
  have hC := lineCl_ok A (c.pre r)
  have hq := P.rqL hr'
  refine ⟨_, rfl, _, _, _, _, _, rfl, hl, T.cLine hC, T.nLine_units hC, rfl, _, rfl, _, _, _, _, _, rfl, hl, T.cLine hC, T.nLine_requests hC, rfl, _, rfl, ⟨_, SqL.of hq⟩, fun D nD => lc_L (l := m.reqs r) (h := fun q => .ref (S.ad (.req r q.num))) (fun q => q.holds) (fun q => .ref (S.ad (.req r q.num))) nD (SqL.of hq) (Nat.le_of_lt (sz3 (by omega))) (fun y hy H1 s1 Y N hY hN => ?_) fun H1 s1 eD => ?_⟩
  · obtain ⟨dq, hq⟩ := req_at P hr' hy s1
    refine ⟨rfl, _, rfl, _, _, _, _, _, rfl, hq, T.c_Request, T.n_Request_holds, rfl, _, rfl, ?_⟩
    exact ifB (fun hb => ⟨_, rfl, hY hb _ (Same.refl _)⟩) fun hb => hN hb _ (Same.refl _)
  refine ⟨_, _, rfl, .inl (SqL.of eD), _, _, rfl, rfl, ?_⟩
  rw [List.length_map, ← held_len]
  exact q _ s1
def sp_Line_added (K : PySem.W.Frag) (A : Adr) : Sp0 := fun vs H Q => ∃ (c : Cfg) (mv : V) (a : Addr) (m : M) (F : Hp) (S : Sto) (r p k : Nat) (b : Bool), vs = [.ref (S.ad (.line r)), .int p, .int k, .bl b] ∧ PAt K A c mv a m F S H ∧ r < c.nr ∧ (m.reqs r).length ≤ 4000 ∧
  ∀ F' S' H', Same F F' → Fix mvP S S' → PAt K A c mv a (m.request p r k b) F' S' H' → Q (.ref (S'.ad (.req r (m.counts r)))) H'
/-- Line.added -/
theorem ok_Line_added (T : Txt K mg w A) : Fn PP w K mg base 3 A.Line_added (sp_Line_added K A) := by
  refine T.d_Line_added.go sc_Line_added fun cdv Ar outer s H vs Q hr h => ?_
  have nd := sc_Line_added.nd
  obtain ⟨c, mv, a, m, F, S, r, p, k, b, rfl, P, hr', hz, q⟩ := h
  refine ⟨_, (pss_cons (ps_expr (pe_bm PySem.F.plainAttrs_list PySem.F.slot_list_append PySem.F.type_list_append mt_append (fldK K (pv 0) rfl) (pa_cons (pe_mk T.k_Request (ok_Request___init__ T) (hr.mono (by decide)) (by rfl) T.g_Request (pa_cons (pv 1) (pa_cons (pv 2) (pa_cons (fldK K (pv 0) rfl) (pa_cons (pv 3) pa_nil))))) pa_nil)))
      (pss_cons (sFldK K (pv 0) (pe_op op_add (fldK K (pv 0) rfl) pe_int) rfl)
      (pss_one (ps_ret (pe_ix (ixL K) (fldK K (pv 0) rfl) (pe_un un_neg pe_int) (fun _ _ => rfl)))))), ?_⟩
  obtain ⟨dl, el, hl⟩ := P.line hr'
  have hC := lineCl_ok A (c.pre r)
  have hq := P.rqL hr'
  refine ⟨_, rfl, _, _, _, _, _, rfl, hl, T.cLine hC, T.nLine_requests hC, rfl, .inl ⟨rfl, _, SqL.of hq⟩, _, rfl, _, rfl, _, rfl, _, _, _, _, _, rfl, hl, T.cLine hC, T.nLine_count hC, rfl, _, rfl, fun x dx nx nd ne => ?_⟩
  refine ⟨x, dx, ⟨k, m.counts r, m.asked, p, b⟩, rfl, upd_same, rfl, ?_⟩
  rw [upd_upd]
  have n2 : (upd H dx (.own x)) x = none := (upd_ne ne.symm).trans nx
  have s1 : Same H (upd (upd H dx (.own x)) x (.ins A.Request dx (reqFs ⟨k, m.counts r, m.asked, p, b⟩))) := (same_upd nd).trans (same_upd n2)
  refine ⟨_, _, _, rfl, rfl, s1 _ _ hq, sz3 (by rw [List.length_map]; omega), ?_⟩
  obtain ⟨S2, P2, X2, e2⟩ := P.addReq hr' el s1 nx upd_same (q := ⟨k, m.counts r, m.asked, p, b⟩) rfl
  have hne : S.ad (.line r) ≠ S.ad (.rq r) := fun z => by have := P.ok.inj _ _ _ _ el (P.rp.rq r hr') z; cases this
  have hl := (upd_ne (o := .lst (((m.reqs r).map fun q => V.ref (S.ad (.req r q.num))) ++ [.ref x])) hne).trans (s1 _ _ hl)
  refine ⟨_, rfl, _, _, _, _, _, rfl, hl, T.cLine hC, T.nLine_count hC, rfl, _, _, rfl, rfl, _, rfl, _, _, _, _, rfl, hl, T.cLine hC, T.nLine_count hC, (by show 3 < 1000; decide), ?_⟩
  obtain ⟨dl2, el2, hl2⟩ := P2.line hr'
  have hl := hl2
  rw [(X2 _ _ rfl el).1] at hl
  have hq2 := P2.rqL hr'
  have e3 : ({ m with reqs := upf m.reqs r (m.reqs r ++ [⟨k, m.counts r, m.asked, p, b⟩]), counts := upf m.counts r (m.counts r + 1) } : M).reqs r = m.reqs r ++ [⟨k, m.counts r, m.asked, p, b⟩] := upf_same _ _ _
  rw [e3, List.map_append] at hq2
  refine ⟨_, rfl, _, _, _, _, _, rfl, hl, T.cLine hC, T.nLine_requests hC, rfl, _, rfl, _, _, _, _, rfl, rfl, SqL.of hq2, atI_last _ _, ?_⟩
  exact q _ _ _ (Same.refl _) X2 (P2.ghost2 (m.asked + 1))
def sp_Line_asked (K : PySem.W.Frag) (A : Adr) : Sp0 := fun vs H Q => ∃ (c : Cfg) (mv : V) (a : Addr) (m : M) (F : Hp) (S : Sto) (r p k : Nat), vs = [.ref (S.ad (.line r)), .int p, .int k] ∧ PAt K A c mv a m F S H ∧ r < c.nr ∧ (m.reqs r).length ≤ 4000 ∧
  ∀ F' S' H', Same F F' → Fix mvP S S' → PAt K A c mv a (m.request p r k (decide (held (m.reqs r) < c.units r))) F' S' H' → Q (.ref (S'.ad (.req r (m.counts r)))) H'
/-- Line.asked -/
theorem ok_Line_asked (T : Txt K mg w A) : Fn PP w K mg base 4 A.Line_asked (sp_Line_asked K A) := by
  refine T.d_Line_asked.go sc_Line_asked fun cdv Ar outer s H vs Q hr h => ?_
  have nd := sc_Line_asked.nd
  obtain ⟨c, mv, a, m, F, S, r, p, k, rfl, P, hr', hz, q⟩ := h
  refine ⟨_, (pss_one (ps_ret (pe_m (pv 0) T.mLine_added (ok_Line_added T) (hr.mono (by decide)) T.d_Line_added.kp (pa_cons (pv 1) (pa_cons (pv 2) (pa_cons (pe_cm op_gt (pe_pr (pv 0) T.pLine_free (ok_Line_free T) (hr.mono (by decide)) rfl) pe_int) pa_nil)))))), ?_⟩
  obtain ⟨dl, el, hl⟩ := P.line hr'
  have hC := lineCl_ok A (c.pre r)
  refine ⟨_, rfl, _, _, _, _, rfl, hl, hC, rfl, _, rfl, _, rfl, _, rfl, _, _, _, _, rfl, hl, hC, c, mv, a, m, F, S, r, rfl, P, hr', hz, fun H1 s1 => ?_⟩
  refine ⟨_, _, rfl, rfl, ?_⟩
  have e : decide ((0 : Int) < (c.units r : Int) - (held (m.reqs r) : Nat)) = decide (held (m.reqs r) < c.units r) := decide_eq_decide.mpr (by omega)
  exact ⟨c, mv, a, m, F, S, r, p, k, decide ((0 : Int) < (c.units r : Int) - (held (m.reqs r) : Nat)), rfl, P.same s1, hr', hz, fun F' S' H' s X P' => q _ _ _ s X (e ▸ P')⟩
end Ev
namespace Ev
open PySem PySem.Spec PyProof.Rows L2
variable {w : World} {K : PySem.W.Frag} {mg : Str → Option Value} {base : Heap} {A : Adr}

theorem sortU (S : Sto) (r : Nat) (W : List Rq) : ((W.map fun q => (S.ad (.req r q.num), q.rank, q.num)).mergeSort (PySem.W.dataLe false urgD)).map (fun x => V.ref x.1) = (W.mergeSort (leK (·.num))).map fun q => .ref (S.ad (.req r q.num)) := by
  have h := List.map_mergeSort (r := leK (·.num)) (s := PySem.W.dataLe false urgD) (f := fun q : Rq => (S.ad (.req r q.num), q.rank, q.num)) (l := W) (fun x _ y _ => by
    have e : PySem.W.dataLe false urgD = fun p q : Addr × Nat × Nat => decide ((p.2.1 : Int) < q.2.1 ∨ ((p.2.1 : Int) = q.2.1 ∧ (p.2.2 : Int) ≤ q.2.2)) := PySem.W.dataLe_ii (fun b : Addr × Nat × Nat => (b.2.1 : Int)) (fun b => (b.2.2 : Int))
    rw [e]
    unfold leK
    refine decide_eq_decide.mpr ?_
    show (x.rank < y.rank ∨ (x.rank = y.rank ∧ x.num ≤ y.num)) ↔ ((x.rank : Int) < y.rank ∨ ((x.rank : Int) = y.rank ∧ (x.num : Int) ≤ y.num))
    omega)
  rw [← h, List.map_map]
  rfl
def sp_Line_in_order (K : PySem.W.Frag) (A : Adr) : Sp0 := fun vs H Q => ∃ (c : Cfg) (mv : V) (a : Addr) (m : M) (F : Hp) (S : Sto) (r : Nat), vs = [.ref (S.ad (.line r))] ∧ PAt K A c mv a m F S H ∧ r < c.nr ∧ (m.reqs r).length ≤ 4000 ∧
  ∀ l H', Same H H' → H' l = some (.lst ((((m.reqs r).filter fun x => !x.holds).mergeSort (leK (·.num))).map fun q => .ref (S.ad (.req r q.num)))) → Q (.ref l) H'
/-- Line.in_order -/
theorem ok_Line_in_order (T : Txt K mg w A) : Fn PP w K mg base 3 A.Line_in_order (sp_Line_in_order K A) := by
  refine T.d_Line_in_order.go sc_Line_in_order fun cdv Ar outer s H vs Q hr h => ?_
  have nd := sc_Line_in_order.nd
  obtain ⟨c, mv, a, m, F, S, r, rfl, P, hr', hz, q⟩ := h
  refine ⟨_, (pss_one (ps_ret (pe_callBK (cr_sortU (k := 0) T rfl (hr.mono (by decide))) (by rfl) T.b_sorted (by decide +kernel) (pa_cons (pe_lc (own := [("one", 1)]) (g := gName 1) (tt := _) rfl nd (pi_list (fldK K (pv 0) rfl)) (blkOk_by (own := [("one", 1)]) (N := N_Line_in_order) (sc := defScope s_Line_in_order) (by decide +kernel))
        (fun _ _ _ _ _ => (pg_name (i := 1) nd rfl (Or.inl rfl))) (fun _ _ _ _ _ => (pts_one (pt_not (pt_val (fldK K (pv 1) rfl)))))
        (fun _ _ _ _ _ => (pv 1))) pa_nil) (pk_cons (pe_bv K (pv 0) T.qLine_urgency) pk_nil)))), ?_⟩
  obtain ⟨dl, el, hl⟩ := P.line hr'
  have hC := lineCl_ok A (c.pre r)
  have hq := P.rqL hr'
  refine ⟨_, rfl, _, _, _, _, _, rfl, hl, T.cLine hC, T.nLine_requests hC, rfl, _, rfl, ⟨_, SqL.of hq⟩, fun D nD => lc_L (l := m.reqs r) (h := fun q => .ref (S.ad (.req r q.num))) (fun q => !q.holds) (fun q => .ref (S.ad (.req r q.num))) nD (SqL.of hq) (Nat.le_of_lt (sz3 (by omega))) (fun y hy H1 s1 Y N hY hN => ?_) fun H1 s1 eD => ?_⟩
  · obtain ⟨dq, hq⟩ := req_at P hr' hy s1
    refine ⟨rfl, _, rfl, _, _, _, _, _, rfl, hq, T.c_Request, T.n_Request_holds, rfl, _, rfl, ?_⟩
    exact ifB (fun hb => ⟨_, rfl, hY hb _ (Same.refl _)⟩) fun hb => hN hb _ (Same.refl _)
  have hl := s1 _ _ hl
  refine ⟨_, rfl, _, _, _, _, rfl, hl, hC, rfl, fun b nb => ?_⟩
  have s2 := same_upd nb (o := .met A.RankLine_urgency (S.ad (.line r)))
  refine ⟨D, b, S.ad (.line r), _, _, _, ((m.reqs r).filter fun x => !x.holds).map fun q => (S.ad (.req r q.num), q.rank, q.num), rfl, rfl, upd_same, s2 _ _ hl, hC, ?_, ?_, fun x hx => ?_, fun p np => ?_⟩
  · rw [List.map_map]; exact SqL.of (s2 _ _ eD)
  · rw [List.length_map]; exact Nat.le_trans (List.length_filter_le ..) (Nat.le_of_lt (sz3 (by omega)))
  · obtain ⟨y, hy, rfl⟩ := List.mem_map.mp hx
    obtain ⟨dq, hq⟩ := req_at P hr' (List.mem_filter.mp hy).1 (s1.trans s2)
    exact ⟨dq, _, hq, rfl, rfl⟩
  · rw [sortU]
    exact q p _ (s1.trans (s2.trans (same_upd np))) upd_same
def sp_Line_last_of (K : PySem.W.Frag) (A : Adr) : Sp0 := fun vs H Q => ∃ (c : Cfg) (mv : V) (a : Addr) (m : M) (F : Hp) (S : Sto) (r p : Nat) (x : Rq), vs = [.ref (S.ad (.line r)), .int p] ∧ PAt K A c mv a m F S H ∧ r < c.nr ∧ (m.reqs r).length ≤ 4000 ∧ lastOf (m.reqs r) p = some x ∧
  ∀ H', Same H H' → Q (.ref (S.ad (.req r x.num))) H'
/-- Line.last_of -/
theorem ok_Line_last_of (T : Txt K mg w A) : Fn PP w K mg base 1 A.Line_last_of (sp_Line_last_of K A) := by
  refine T.d_Line_last_of.go sc_Line_last_of fun cdv Ar outer s H vs Q hr h => ?_
  have nd := sc_Line_last_of.nd
  obtain ⟨c, mv, a, m, F, S, r, p, x, rfl, P, hr', hz, hx, q⟩ := h
  refine ⟨_, (pss_cons (ps_setLc (i := 2) (hy := rfl) (hyl := rfl) (hsw := sw_true rfl rfl rfl (by decide +kernel)) (own := [("one", 3)]) (g := gName 3) (tt := _) rfl nd (pi_list (fldK K (pv 0) rfl)) (blkOk_by (own := [("one", 3)]) (N := N_Line_last_of) (sc := defScope s_Line_last_of) (by decide +kernel))
        (fun _ _ _ _ _ => (pg_name (i := 3) nd rfl (Or.inl rfl))) (fun _ _ _ _ _ => (pts_one (PW.pt (pw_and (pt_val (fldK K (pv 3) rfl)) (pw_and1 (pt_cm op_eq (fldK K (pv 3) rfl) (pv 1)))))))
        (fun _ _ _ _ _ => (pv 3)))
      (pss_one (ps_ret (pe_ifExp (pt_cm (opNeE K hr.hu) (pv 2) (pe_lst pa_nil)) (pe_ix (ixL K) (pv 2) (pe_un un_neg pe_int) (fun _ _ => rfl)) pe_non)))), ?_⟩
  obtain ⟨dl, el, hl⟩ := P.line hr'
  have hC := lineCl_ok A (c.pre r)
  have hq := P.rqL hr'
  refine ⟨_, rfl, _, _, _, _, _, rfl, hl, T.cLine hC, T.nLine_requests hC, rfl, _, rfl, ⟨_, SqL.of hq⟩, fun D nD => lc_L (l := m.reqs r) (h := fun q => .ref (S.ad (.req r q.num))) (fun q => q.holds && q.proc == p) (fun q => .ref (S.ad (.req r q.num))) nD (SqL.of hq) (Nat.le_of_lt (sz3 (by omega))) (fun y hy H1 s1 Y N hY hN => ?_) fun H1 s1 eD => ?_⟩
  · obtain ⟨dq, hq⟩ := req_at P hr' hy s1
    refine ⟨rfl, _, rfl, _, _, _, _, _, rfl, hq, T.c_Request, T.n_Request_holds, rfl, _, rfl, ?_⟩
    refine ifB (fun hb => ?_) fun hb => hN (by rw [hb]; rfl) _ (Same.refl _)
    refine ⟨_, rfl, _, _, _, _, _, rfl, hq, T.c_Request, T.n_Request_process, rfl, _, rfl, rfl, _, rfl, ?_⟩
    rw [dint]
    refine ifB (fun hb2 => ⟨_, rfl, hY ?_ _ (Same.refl _)⟩) fun hb2 => hN ?_ _ (Same.refl _)
    · rw [hb, Bool.true_and]; simpa using hb2
    · rw [hb, Bool.true_and]; simpa using hb2
  refine ⟨_, rfl, Nat.zero_le _, fun e ne => ?_⟩
  have s2 := same_upd ne (o := .lst [])
  refine ⟨_, _, _, rfl, rfl, SqL.of (s2 _ _ eD), SqL.of upd_same, _, rfl, ?_⟩
  obtain ⟨t, ht⟩ := List.getLast?_eq_some_iff.mp hx
  have hx' : (m.reqs r).filter (fun q => q.holds && q.proc == p) = t ++ [x] := ht
  rw [hx', List.map_append] at eD ⊢
  refine ifB' (by simp) ?_
  refine ⟨_, rfl, _, rfl, _, _, _, _, rfl, rfl, SqL.of (s2 _ _ eD), atI_last _ _, ?_⟩
  exact q _ (s1.trans s2)
theorem PAt.rqL' {c : Cfg} {mv : V} {a : Addr} {m : M} {F : Hp} {S : Sto} {H : Hp} (h : PAt K A c mv a m F S H) {r : Nat} (hr : r < c.nr) {l : List Rq} (e : m.reqs r = l) : H (S.ad (.rq r)) = some (.lst (l.map fun q => .ref (S.ad (.req r q.num)))) := e ▸ h.rqL hr
def endedLine (l : List Rq) (n : Nat) : List Rq × Option Rq :=
  match leastOf ((without l n).filter fun x => !x.holds) with
  | none => (without l n, none)
  | some x => (setHold (without l n) x.num true, some x)
def sp_Line_ended (K : PySem.W.Frag) (A : Adr) : Sp0 := fun vs H Q => ∃ (c : Cfg) (mv : V) (a : Addr) (m : M) (F : Hp) (S : Sto) (r : Nat) (own : Rq), vs = [.ref (S.ad (.line r)), .ref (S.ad (.req r own.num))] ∧ PAt K A c mv a m F S H ∧ r < c.nr ∧ own ∈ m.reqs r ∧ (m.reqs r).length ≤ 4000 ∧ (m.reqs r).Pairwise (fun x y => x.num < y.num) ∧
  (leastOf ((without (m.reqs r) own.num).filter fun x => !x.holds) = none → ∀ F' S' H', Same F F' → Fix mvP S S' → PAt K A c mv a (m.setLine r (without (m.reqs r) own.num)) F' S' H' → Q .non H') ∧
  (∀ x, leastOf ((without (m.reqs r) own.num).filter fun x => !x.holds) = some x → ∀ F' S' H', Same F F' → Fix mvP S S' → PAt K A c mv a (m.setLine r (setHold (without (m.reqs r) own.num) x.num true)) F' S' H' → Q (.ref (S'.ad (.req r x.num))) H')
/-- Line.ended -/
theorem ok_Line_ended (T : Txt K mg w A) : Fn PP w K mg base 4 A.Line_ended (sp_Line_ended K A) := by
  refine T.d_Line_ended.go sc_Line_ended fun cdv Ar outer s H vs Q hr h => ?_
  have nd := sc_Line_ended.nd
  obtain ⟨c, mv, a, m, F, S, r, own, rfl, P, hr', ho, hz, hpw, qn, qs⟩ := h
  refine ⟨_, (pss_cons (sFldK K (pv 0) (pe_lc (own := [("one", 3)]) (g := gName 3) (tt := _) rfl nd (pi_list (fldK K (pv 0) rfl)) (blkOk_by (own := [("one", 3)]) (N := N_Line_ended) (sc := defScope s_Line_ended) (by decide +kernel))
        (fun _ _ _ _ _ => (pg_name (i := 3) nd rfl (Or.inl rfl))) (fun _ _ _ _ _ => (pts_one (pt_cm op_ne (fldK K (pv 3) rfl) (fldK K (pv 1) rfl))))
        (fun _ _ _ _ _ => (pv 3))) rfl)
      (pss_cons (ps_set (i := 2) nd rfl (Or.inl rfl) (pe_m0 (pv 0) T.mLine_in_order (ok_Line_in_order T) (hr.mono (by decide)) T.d_Line_in_order.kp))
      (pss_cons (ps_if (pt_cm (opEqE K hr.hu) (pv 2) (pe_lst pa_nil))
        (pss_one (ps_ret pe_non))
        pss_nil)
      (pss_cons (sFldK K (pe_ix (ixL K) (pv 2) pe_int (fun _ _ => rfl)) pe_bl rfl)
      (pss_one (ps_ret (pe_ix (ixL K) (pv 2) pe_int (fun _ _ => rfl)))))))), ?_⟩
  obtain ⟨dl, el, hl⟩ := P.line hr'
  have hC := lineCl_ok A (c.pre r)
  have hq := P.rqL hr'
  refine ⟨_, rfl, _, _, _, _, _, rfl, hl, T.cLine hC, T.nLine_requests hC, rfl, _, rfl, ⟨_, SqL.of hq⟩, fun D nD => lc_L (l := m.reqs r) (h := fun q => .ref (S.ad (.req r q.num))) (fun x => x.num != own.num) (fun q => .ref (S.ad (.req r q.num))) nD (SqL.of hq) (Nat.le_of_lt (sz3 (by omega))) (fun y hy H1 s1 Y N hY hN => ?_) fun H1 s1 eD => ?_⟩
  · obtain ⟨dq, hq⟩ := req_at P hr' hy s1
    refine ⟨rfl, _, rfl, _, _, _, _, _, rfl, hq, T.c_Request, T.n_Request_number, rfl, ?_⟩
    obtain ⟨dq, hq⟩ := req_at P hr' ho s1
    refine ⟨_, rfl, _, _, _, _, _, rfl, hq, T.c_Request, T.n_Request_number, rfl, rfl, _, rfl, ?_⟩
    rw [dint]
    refine ifB (fun hb => ⟨_, rfl, hY ?_ _ (Same.refl _)⟩) fun hb => hN ?_ _ (Same.refl _)
    · simpa using hb
    · simpa using hb
  obtain ⟨S2, P2, X2⟩ := P.drop hr' el s1 nD eD
  have hl := s1 _ _ hl
  refine ⟨_, rfl, _, _, _, _, rfl, hl, T.cLine hC, T.nLine_requests hC, (by show 3 < 1000; decide), ?_⟩
  obtain ⟨dl2, el2, hl⟩ := P2.line hr'
  have ead := (X2 _ _ rfl el).1
  rw [ead] at hl
  have e1 : (m.setLine r (without (m.reqs r) own.num)).reqs r = without (m.reqs r) own.num := upf_same _ _ _
  have hw : (without (m.reqs r) own.num).length ≤ (m.reqs r).length := List.length_filter_le ..
  refine ⟨_, rfl, _, _, _, _, rfl, hl, hC, rfl, c, mv, a, _, F, S2, r, by rw [ead], P2, hr', (by rw [e1]; omega), fun l H3 s3 el3 => ?_⟩
  rw [e1] at el3
  have hpw2 : ((without (m.reqs r) own.num).filter fun x => !x.holds).Pairwise (fun x y => x.num < y.num) := (hpw.filter _).filter _
  have hsh := sort_head hpw2
  refine ⟨_, rfl, Nat.zero_le _, fun e ne => ?_⟩
  have s4 := same_upd ne (o := .lst [])
  refine ⟨_, _, _, rfl, rfl, SqL.of (s4 _ _ el3), SqL.of upd_same, _, rfl, ?_⟩
  have P4 := (P2.same s3).same s4
  cases hlo : leastOf ((without (m.reqs r) own.num).filter fun x => !x.holds) with
  | none =>
    have hnil := leastOf_nil hlo
    refine ifB' (by rw [hnil]; simp) ?_
    exact qn hlo _ _ _ (Same.refl _) X2 P4
  | some x =>
    rw [hlo] at hsh
    have hget := hsh
    have hxm : x ∈ without (m.reqs r) own.num := (List.mem_filter.mp (leastOf_in hlo)).1
    refine ifN' ?_ ?_
    · cases hms : ((without (m.reqs r) own.num).filter fun x => !x.holds).mergeSort (leK fun x => x.num) with
      | nil => rw [hms] at hget; cases hget
      | cons _ _ => rfl
    obtain ⟨dq, eq, hq⟩ := P4.reqO hr' (q := x) (by rw [e1]; exact hxm)
    have hat : ∀ z : Sto, atI ((((without (m.reqs r) own.num).filter fun x => !x.holds).mergeSort (leK fun x => x.num)).map fun q => V.ref (z.ad (.req r q.num))) 0 = some (V.ref (z.ad (.req r x.num))) := fun z => atI_nat (j := 0) (by rw [List.getElem?_map, hget]; rfl)
    refine ⟨_, rfl, _, _, _, _, rfl, rfl, SqL.of (s4 _ _ el3), hat S2, _, _, _, _, rfl, hq, T.c_Request, T.n_Request_holds, (by show 4 < 1000; decide), ?_⟩
    obtain ⟨S5, P5, X5, ad5⟩ := P4.hold hr' (q := x) (by rw [e1]; exact hxm) eq true
    rw [e1] at P5
    have hne : l ≠ S2.ad (.req r x.num) := by
      intro z
      have h3 := s4 _ _ el3
      rw [z, hq] at h3
      cases h3
    refine ⟨_, rfl, _, _, _, _, rfl, rfl, SqL.of ((upd_ne hne).trans (s4 _ _ el3)), hat S2, ?_⟩
    have e6 : (m.setLine r (without (m.reqs r) own.num)).setLine r (setHold (without (m.reqs r) own.num) x.num true) = m.setLine r (setHold (without (m.reqs r) own.num) x.num true) := by
      unfold M.setLine
      congr 1
      funext b
      by_cases h : b = r <;> simp [upf, h]
    rw [e6] at P5
    have hh := qs x hlo _ _ _ (Same.refl _) (X2.trans X5) P5
    rw [ad5] at hh
    exact hh
def sp_PreemptLine_taken_over (K : PySem.W.Frag) (A : Adr) : Sp0 := fun vs H Q => ∃ (c : Cfg) (mv : V) (a : Addr) (m : M) (F : Hp) (S : Sto) (r p k : Nat) (x : Rq), vs = [.ref (S.ad (.line r)), .int p, .int k, .ref (S.ad (.req r x.num))] ∧ PAt K A c mv a m F S H ∧ r < c.nr ∧ (m.reqs r).length ≤ 4000 ∧ x ∈ m.reqs r ∧ c.pre r = true ∧
  ∀ F' S' H', Same F F' → Fix mvP S S' → PAt K A c mv a ((m.setLine r (setHold (m.reqs r) x.num false)).request p r k true) F' S' H' → Q (.ref (S'.ad (.req r (m.counts r)))) H'
/-- PreemptLine.taken_over -/
theorem ok_PreemptLine_taken_over (T : Txt K mg w A) : Fn PP w K mg base 4 A.PreemptLine_taken_over (sp_PreemptLine_taken_over K A) := by
  refine T.d_PreemptLine_taken_over.go sc_PreemptLine_taken_over fun cdv Ar outer s H vs Q hr h => ?_
  have nd := sc_PreemptLine_taken_over.nd
  obtain ⟨c, mv, a, m, F, S, r, p, k, x, rfl, P, hr', hz, hx, hpre, q⟩ := h
  refine ⟨_, (pss_cons (sFldK K (pv 3) pe_bl rfl)
      (pss_one (ps_ret (pe_m (pv 0) T.mLine_added (ok_Line_added T) (hr.mono (by decide)) T.d_Line_added.kp (pa_cons (pv 1) (pa_cons (pv 2) (pa_cons pe_bl pa_nil))))))), ?_⟩
  obtain ⟨dl, el, hl⟩ := P.line hr'
  have hC := lineCl_ok A (c.pre r)
  obtain ⟨dq, eq, hq⟩ := P.reqO hr' hx
  refine ⟨_, rfl, _, _, _, _, rfl, hq, T.c_Request, T.n_Request_holds, (by show 4 < 1000; decide), ?_⟩
  obtain ⟨S2, P2, X2, ad2⟩ := P.hold hr' hx eq false
  obtain ⟨dl2, el2, hl⟩ := P2.line hr'
  rw [ad2] at hl
  have e1 : (m.setLine r (setHold (m.reqs r) x.num false)).reqs r = setHold (m.reqs r) x.num false := upf_same _ _ _
  refine ⟨_, rfl, _, _, _, _, rfl, hl, hC, rfl, _, rfl, _, rfl, c, mv, a, _, F, S2, r, p, k, true, by rw [ad2], P2, hr', by rw [e1, setHold, List.length_map]; exact hz, fun F3 S3 H3 s3 X3 P3 => ?_⟩
  exact q _ _ _ s3 (X2.trans X3) P3
def sp_PreemptLine_chosen (K : PySem.W.Frag) (A : Adr) : Sp0 := fun vs H Q => ∃ (c : Cfg) (mv : V) (a : Addr) (m : M) (F : Hp) (S : Sto) (r k : Nat) (t : Addr) (vi : List Nat), vs = [.ref (S.ad (.line r)), .int k, .ref t] ∧ PAt K A c mv a m F S H ∧ r < c.nr ∧ (m.reqs r).length ≤ 4000 ∧ (m.reqs r).Pairwise (fun x y => x.num < y.num) ∧ ¬ held (m.reqs r) < c.units r ∧
  c.pre r = true ∧ H t = some (.tup (vi.map fun x => .int (x : Nat))) ∧
  (greatOf ((m.reqs r).filter fun x => x.holds && decide (k < x.rank) && vi.contains x.proc) = none → ∀ H', Same H H' → Q .non H') ∧
  (∀ x, greatOf ((m.reqs r).filter fun x => x.holds && decide (k < x.rank) && vi.contains x.proc) = some x → ∀ H', Same H H' → Q (.ref (S.ad (.req r x.num))) H')
theorem inV_ints (x : Nat) (l : List Nat) : inV (.int x) (l.map fun y => V.int (y : Nat)) = l.contains x := by
  unfold inV
  induction l with
  | nil => rfl
  | cons y l ih =>
    rw [List.map_cons, List.any_cons, ih, List.contains_cons]
    congr 1
    show ((y : Int) == (x : Int)) = (x == y)
    rw [Bool.eq_iff_iff]; simp; omega
theorem flat_ints (l : List Nat) : (l.map fun y => V.int (y : Nat)).all flatV = true := by simp [flatV]
/-- PreemptLine.chosen -/
theorem ok_PreemptLine_chosen (T : Txt K mg w A) : Fn PP w K mg base 3 A.PreemptLine_chosen (sp_PreemptLine_chosen K A) := by
  refine T.d_PreemptLine_chosen.go sc_PreemptLine_chosen fun cdv Ar outer s H vs Q hr h => ?_
  have nd := sc_PreemptLine_chosen.nd
  obtain ⟨c, mv, a, m, F, S, r, k, t, vi, rfl, P, hr', hz, hpw, hfull, hpre, ht, qn, qs⟩ := h
  refine ⟨_, (pss_cons (ps_if (pt_cm op_gt (pe_pr (pv 0) T.pLine_free (ok_Line_free T) (hr.mono (by decide)) rfl) pe_int)
        (pss_one (ps_ret pe_non))
        pss_nil)
      (pss_cons (ps_setLc (i := 3) (hy := rfl) (hyl := rfl) (hsw := sw_true rfl rfl rfl (by decide +kernel)) (own := [("one", 4)]) (g := gName 4) (tt := _) rfl nd (pi_list (fldK K (pv 0) rfl)) (blkOk_by (own := [("one", 4)]) (N := N_PreemptLine_chosen) (sc := defScope s_PreemptLine_chosen) (by decide +kernel))
        (fun _ _ _ _ _ => (pg_name (i := 4) nd rfl (Or.inl rfl))) (fun _ _ _ _ _ => (pts_one (PW.pt (pw_and (pt_val (fldK K (pv 4) rfl)) (pw_and (pt_cm op_gt (fldK K (pv 4) rfl) (pv 1)) (pw_and1 (pt_cm (opIn K) (fldK K (pv 4) rfl) (pv 2))))))))
        (fun _ _ _ _ _ => (pv 4)))
      (pss_one (ps_ret (pe_ifExp (pt_cm (opNeE K hr.hu) (pv 3) (pe_lst pa_nil)) (pe_ix (ixL K) (pe_callBK (cr_sortU (k := 0) T rfl (hr.mono (by decide))) (by rfl) T.b_sorted (by decide +kernel) (pa_cons (pv 3) pa_nil) (pk_cons (pe_bv K (pv 0) T.qLine_urgency) pk_nil)) (pe_un un_neg pe_int) (fun _ _ => rfl)) pe_non))))), ?_⟩
  obtain ⟨dl, el, hl⟩ := P.line hr'
  have hC := lineCl_ok A (c.pre r)
  refine ⟨_, rfl, _, _, _, _, rfl, hl, hC, c, mv, a, m, F, S, r, rfl, P, hr', hz, fun H0 s0 => ?_⟩
  refine ⟨_, _, rfl, rfl, _, rfl, ?_⟩
  refine ifN' (decide_eq_false (by omega)) ?_
  have P := P.same s0
  have hl := s0 _ _ hl
  have ht := s0 _ _ ht
  have hq := P.rqL hr'
  refine ⟨_, rfl, _, _, _, _, _, rfl, hl, T.cLine hC, T.nLine_requests hC, rfl, _, rfl, ⟨_, SqL.of hq⟩, fun D nD => lc_L (l := m.reqs r) (h := fun q => .ref (S.ad (.req r q.num))) (fun x => x.holds && decide (k < x.rank) && vi.contains x.proc) (fun q => .ref (S.ad (.req r q.num))) nD (SqL.of hq) (Nat.le_of_lt (sz3 (by omega))) (fun y hy H1 s1 Y N hY hN => ?_) fun H1 s1 eD => ?_⟩
  · obtain ⟨dq, hq⟩ := req_at P hr' hy s1
    refine ⟨rfl, _, rfl, _, _, _, _, _, rfl, hq, T.c_Request, T.n_Request_holds, rfl, _, rfl, ?_⟩
    refine ifB (fun hb => ?_) fun hb => hN (by rw [hb]; rfl) _ (Same.refl _)
    refine ⟨_, rfl, _, _, _, _, _, rfl, hq, T.c_Request, T.n_Request_rank, rfl, _, rfl, _, _, rfl, rfl, _, rfl, ?_⟩
    have e : decide ((k : Int) < (y.rank : Nat)) = decide (k < y.rank) := decide_eq_decide.mpr (by omega)
    rw [e]
    refine ifB (fun hb2 => ?_) fun hb2 => hN (by rw [hb, hb2]; rfl) _ (Same.refl _)
    refine ⟨_, rfl, _, _, _, _, _, rfl, hq, T.c_Request, T.n_Request_process, rfl, _, rfl, _, _, rfl, .inr (SqT.of (s1 _ _ ht)), rfl, flat_ints vi, _, rfl, ?_⟩
    show if inV (V.int y.proc) (vi.map fun x => V.int (x : Nat)) = true then _ else _
    rw [inV_ints]
    exact ifB (fun hb3 => ⟨_, rfl, hY (by rw [hb, hb2, hb3]; rfl) _ (Same.refl _)⟩) fun hb3 => hN (by rw [hb, hb2, hb3]; rfl) _ (Same.refl _)
  have hpw2 : ((m.reqs r).filter fun x => x.holds && decide (k < x.rank) && vi.contains x.proc).Pairwise (fun x y => x.num < y.num) := hpw.filter _
  have hsl := sort_last hpw2
  refine ⟨_, rfl, Nat.zero_le _, fun e ne => ?_⟩
  have s2 := same_upd ne (o := .lst [])
  refine ⟨_, _, _, rfl, rfl, SqL.of (s2 _ _ eD), SqL.of upd_same, _, rfl, ?_⟩
  cases hgo : greatOf ((m.reqs r).filter fun x => x.holds && decide (k < x.rank) && vi.contains x.proc) with
  | none =>
    have hnil := greatOf_nil hgo
    refine ifN' (by rw [hnil]; rfl) ?_
    exact qn hgo _ (s0.trans (s1.trans s2))
  | some x =>
    have hin := greatOf_in hgo
    refine ifB' ?_ ?_
    · cases hms : (m.reqs r).filter fun x => x.holds && decide (k < x.rank) && vi.contains x.proc with
      | nil => rw [hms] at hin; cases hin
      | cons _ _ => rfl
    have hl := s2 _ _ (s1 _ _ hl)
    refine ⟨_, rfl, _, rfl, _, _, _, _, rfl, hl, hC, rfl, fun b nb => ?_⟩
    have s3 := same_upd nb (o := .met A.RankLine_urgency (S.ad (.line r)))
    refine ⟨D, b, S.ad (.line r), _, _, _, ((m.reqs r).filter fun x => x.holds && decide (k < x.rank) && vi.contains x.proc).map fun q => (S.ad (.req r q.num), q.rank, q.num), rfl, rfl, upd_same, s3 _ _ hl, hC, ?_, ?_, fun x hx => ?_, fun p np => ?_⟩
    · rw [List.map_map]; exact SqL.of (s3 _ _ (s2 _ _ eD))
    · rw [List.length_map]; exact Nat.le_trans (List.length_filter_le ..) (Nat.le_of_lt (sz3 (by omega)))
    · obtain ⟨y, hy, rfl⟩ := List.mem_map.mp hx
      obtain ⟨dq, hq⟩ := req_at P hr' (List.mem_filter.mp hy).1 (s1.trans (s2.trans s3))
      exact ⟨dq, _, hq, rfl, rfl⟩
    · rw [sortU]
      rw [hgo] at hsl
      obtain ⟨z, hz2⟩ := List.getLast?_eq_some_iff.mp hsl
      rw [hz2, List.map_append]
      refine ⟨_, rfl, _, _, _, _, rfl, rfl, SqL.of upd_same, atI_last _ _, ?_⟩
      exact qs x hgo _ (s0.trans (s1.trans (s2.trans (s3.trans (same_upd np)))))
end Ev
namespace Ev
open PySem PySem.Spec PyProof.Rows L2
variable {w : World} {K : PySem.W.Frag} {mg : Str → Option Value} {base : Heap} {A : Adr}

structure Pre (c : Cfg) (m : M) : Prop where
  nn : c.n ≤ 4
  ag : m.agenda.length ≤ 3900
  lg : m.log.length ≤ 3900
  np : m.npass ≤ 3900
  rq : ∀ r, r < c.nr → (m.reqs r).length ≤ 3900
  pw : ∀ r, r < c.nr → (m.reqs r).Pairwise fun x y => x.num < y.num
  pc : ∀ r, r < c.nr → ∀ q ∈ m.reqs r, q.proc < c.n
theorem dp_tup2 {H : Hp} {v : V} {d1 d2 : PyData} (h : Dp K H v (.tuple [d1, d2])) : ∃ a v1 v2, v = .ref a ∧ SqT K H a [v1, v2] ∧ Dp K H v1 d1 ∧ Dp K H v2 d2 := by
  obtain ⟨a, xs, rfl, hs, hx⟩ := dp_tupI h
  obtain ⟨v1, r, rfl, h1, hx⟩ := dpa_consI hx
  obtain ⟨v2, r, rfl, h2, hx⟩ := dpa_consI hx
  obtain rfl := dpa_nilI hx
  exact ⟨a, v1, v2, rfl, hs, h1, h2⟩
theorem dp_tup4 {H : Hp} {v : V} {d1 d2 d3 d4 : PyData} (h : Dp K H v (.tuple [d1, d2, d3, d4])) : ∃ a v1 v2 v3 v4, v = .ref a ∧ SqT K H a [v1, v2, v3, v4] ∧ Dp K H v1 d1 ∧ Dp K H v2 d2 ∧ Dp K H v3 d3 ∧ Dp K H v4 d4 := by
  obtain ⟨a, xs, rfl, hs, hx⟩ := dp_tupI h
  obtain ⟨v1, r, rfl, h1, hx⟩ := dpa_consI hx
  obtain ⟨v2, r, rfl, h2, hx⟩ := dpa_consI hx
  obtain ⟨v3, r, rfl, h3, hx⟩ := dpa_consI hx
  obtain ⟨v4, r, rfl, h4, hx⟩ := dpa_consI hx
  obtain rfl := dpa_nilI hx
  exact ⟨a, v1, v2, v3, v4, rfl, hs, h1, h2, h3, h4⟩
theorem res_at {H : Hp} {v : V} {x : Bool × Nat} (h : Dp K H v (resD x)) : ∃ b, v = .ref b ∧ SqT K H b [.str (if x.1 then "preempt" else "rank"), .int x.2] := by
  obtain ⟨b, v1, v2, rfl, hs, h1, h2⟩ := dp_tup2 h
  obtain rfl := dp_strI h1
  obtain rfl := dp_intI h2
  exact ⟨b, rfl, hs⟩
theorem cfg_res {H : Hp} {mv : V} {c : Cfg} (h : Dp K H mv (cfgD c)) {r : Nat} (hr : r < c.nr) : ∃ b v1 v2 v3 b0 ys b1, mv = .ref b ∧ SqT K H b [.ref b0, v1, v2, v3] ∧ SqT K H b0 ys ∧ atI ys (r : Int) = some (.ref b1) ∧ SqT K H b1 [.str (if c.pre r then "preempt" else "rank"), .int (c.units r)] := by
  obtain ⟨b, w1, w2, w3, w4, rfl, hs, h1, _⟩ := dp_tup4 h
  obtain ⟨b0, ys, rfl, hs0, hx⟩ := dp_tupI h1
  have hr2 : (c.res.map resD)[r]? = some (resD (c.pre r, c.units r)) := by
    rw [List.getElem?_map, List.getElem?_eq_getElem hr]
    simp [Cfg.pre, Cfg.units, List.getElem?_eq_getElem hr]
  obtain ⟨v, hv, dv⟩ := dpa_get hx hr2
  obtain ⟨b1, rfl, hs1⟩ := res_at dv
  exact ⟨b, w2, w3, w4, b0, ys, b1, rfl, hs, hs0, atI_nat hv, hs1⟩
theorem dstr (a b : Str) : decide (V.str a = V.str b) = decide (a = b) := by
  by_cases h : a = b
  · subst h; simp
  · rw [decide_eq_false h, decide_eq_false fun z => h (by injection z)]
def sp_Run_take (K : PySem.W.Frag) (A : Adr) : Sp0 := fun vs H Q => ∃ (c : Cfg) (mv : V) (a : Addr) (m : M) (F : Hp) (S : Sto) (p r k : Nat), vs = [.ref a, .int p, .int r, .int k] ∧ PAt K A c mv a m F S H ∧ Pre c m ∧ p < c.n ∧ r < c.nr ∧
  ∀ F' S' H', Same F F' → Fix mvP S S' → PAt K A c mv a (m.take c p r k).1 F' S' H' → Q (.bl (m.take c p r k).2) H'
theorem take_hold {c : Cfg} {m : M} {p r k : Nat} (h : held (m.reqs r) < c.units r) : m.take c p r k = (((m.request p r k true).tell p .hold [r]), true) := by unfold M.take; rw [if_pos h]
theorem take_ask {c : Cfg} {m : M} {p r k : Nat} (h : ¬ held (m.reqs r) < c.units r) (hv : m.victim c r k = none) : m.take c p r k = (((m.request p r k false).tell p .ask [r]).setSt p (.wants r), false) := by unfold M.take; rw [if_neg h, hv]
theorem take_lose {c : Cfg} {m : M} {p r k : Nat} {q : Rq} (h : ¬ held (m.reqs r) < c.units r) (hv : m.victim c r k = some q) : m.take c p r k = ((((((m.setLine r (setHold (m.reqs r) q.num false)).tell q.proc .lose [r]).unplan q.proc).setSt q.proc (.susp r (m.til q.proc - m.clock))).request p r k true).tell p .hold [r], true) := by unfold M.take; rw [if_neg h, hv]
theorem mem_sleepers {m : M} {n q : Nat} : (m.sleepers n).contains q = (decide (q < n) && m.isSleeper q) := by
  rw [Bool.eq_iff_iff, List.contains_iff_mem]
  simp [M.sleepers]
/-- Run.take -/
theorem ok_Run_take (T : Txt K mg w A) : Fn PP w K mg base 5 A.Run_take (sp_Run_take K A) := by
  refine T.d_Run_take.go sc_Run_take fun cdv Ar outer s H vs Q hr h => ?_
  have nd := sc_Run_take.nd
  obtain ⟨c, mv, a, m, F, S, p, r, k, rfl, P, B, hp, hr', q⟩ := h
  refine ⟨_, (pss_cons (ps_set (i := 4) nd rfl (Or.inl rfl) (pe_ix (ixL K) (fldK K (pv 0) rfl) (pv 2) (fun _ _ => rfl)))
      (pss_cons (ps_if (pt_cm op_gt (pe_pr (pv 4) T.pLine_free (ok_Line_free T) (hr.mono (by decide)) rfl) pe_int)
        (pss_cons (ps_expr (pe_m (pv 0) T.mRun_begin_hold (ok_Run_begin_hold T) (hr.mono (by decide)) T.d_Run_begin_hold.kp (pa_cons (pv 2) (pa_cons (pe_m (pv 4) T.mLine_asked (ok_Line_asked T) (hr.mono (by decide)) T.d_Line_asked.kp (pa_cons (pv 1) (pa_cons (pv 3) pa_nil))) pa_nil))))
        (pss_one (ps_ret pe_bl)))
        pss_nil)
      (pss_cons (ps_set (i := 5) nd rfl (Or.inl rfl) (pe_ifExp (pt_cm op_eq (pe_ix (ixT K) (pe_ix (ixT K) (pe_ix (ixT K) (fldK K (pv 0) rfl) pe_int (fun _ _ => rfl)) (pv 2) (fun _ _ => rfl)) pe_int (fun _ _ => rfl)) pe_str) (pe_m (pv 4) T.mPreemptLine_chosen (ok_PreemptLine_chosen T) (hr.mono (by decide)) T.d_PreemptLine_chosen.kp (pa_cons (pv 3) (pa_cons (pe_m0 (pv 0) T.mRun_sleepers (ok_Run_sleepers T) (hr.mono (by decide)) T.d_Run_sleepers.kp) pa_nil))) pe_non))
      (pss_cons (ps_if (pt_cm op_isN (pv 5) pe_non)
        (pss_cons (ps_expr (pe_m (pv 4) T.mLine_asked (ok_Line_asked T) (hr.mono (by decide)) T.d_Line_asked.kp (pa_cons (pv 1) (pa_cons (pv 3) pa_nil))))
        (pss_cons (ps_expr (pe_m (pv 0) T.mRun_tell (ok_Run_tell T) (hr.mono (by decide)) T.d_Run_tell.kp (pa_cons (pv 1) (pa_cons pe_str (pa_cons (pv 2) pa_nil)))))
        (pss_one (ps_ret (pe_m (pv 0) T.mRun_block (ok_Run_block T) (hr.mono (by decide)) T.d_Run_block.kp (pa_cons (pv 1) (pa_cons pe_str (pa_cons (pv 2) pa_nil))))))))
        pss_nil)
      (pss_cons (ps_expr (pe_m (pv 0) T.mRun_tell (ok_Run_tell T) (hr.mono (by decide)) T.d_Run_tell.kp (pa_cons (fldK K (pv 5) rfl) (pa_cons pe_str (pa_cons (pv 2) pa_nil)))))
      (pss_cons (ps_expr (pe_m (pv 0) T.mRun_end_hold (ok_Run_end_hold T) (hr.mono (by decide)) T.d_Run_end_hold.kp (pa_cons (pv 2) (pa_cons (pv 5) pa_nil))))
      (pss_cons (ps_expr (pe_m (pv 0) T.mRun_unschedule (ok_Run_unschedule T) (hr.mono (by decide)) T.d_Run_unschedule.kp (pa_cons (fldK K (pv 5) rfl) pa_nil)))
      (pss_cons (ps_asg (pe_tup (pa_cons (pe_gl (by rfl) T.g_SUSPENDED) (pa_cons (pv 2) (pa_cons (pe_op op_sub (pe_ix (ixL K) (fldK K (pv 0) rfl) (fldK K (pv 5) rfl) (fun _ _ => rfl)) (fldK K (pv 0) rfl)) pa_nil)))) (pg_sub (fldK K (pv 0) rfl) (fldK K (pv 5) rfl) set_list (fun _ => rfl)))
      (pss_cons (ps_expr (pe_m (pv 0) T.mRun_begin_hold (ok_Run_begin_hold T) (hr.mono (by decide)) T.d_Run_begin_hold.kp (pa_cons (pv 2) (pa_cons (pe_m (pv 4) T.mPreemptLine_taken_over (ok_PreemptLine_taken_over T) (hr.mono (by decide)) T.d_PreemptLine_taken_over.kp (pa_cons (pv 1) (pa_cons (pv 3) (pa_cons (pv 5) pa_nil)))) pa_nil))))
      (pss_one (ps_ret pe_bl))))))))))), ?_⟩
  obtain ⟨dx, rem, o1, o2, o3, o4, o5, er, h1⟩ := P.run
  have hzr := B.rq r hr'
  have hpw := B.pw r hr'
  refine ⟨_, rfl, _, _, _, _, _, rfl, h1, T.c_Run, T.n_Run_lines, rfl, _, rfl, _, _, _, _, rfl, rfl, SqL.of (P.ok.liv _ _ P.rp.ln), tab_at hr', ?_⟩
  obtain ⟨dl, el, hl⟩ := P.line hr'
  have hC := lineCl_ok A (c.pre r)
  refine ⟨_, rfl, _, _, _, _, rfl, hl, hC, c, mv, a, m, F, S, r, rfl, P, hr', by omega, fun H1 s1 => ?_⟩
  refine ⟨_, _, rfl, rfl, _, rfl, ?_⟩
  have P := P.same s1
  have hl := s1 _ _ hl
  have h1 := s1 _ _ h1
  by_cases hf : held (m.reqs r) < c.units r
  · refine ifB' (decide_eq_true (by omega)) ?_
    rw [take_hold hf] at q
    refine ⟨_, rfl, _, _, _, _, rfl, h1, rfl, rfl, _, rfl, _, rfl, _, _, _, _, rfl, hl, hC, rfl, _, rfl, _, rfl, c, mv, a, m, F, S, r, p, k, rfl, P, hr', by omega, fun F2 S2 H2 s2 X2 P2 => ?_⟩
    rw [decide_eq_true hf] at P2
    have hmem : (⟨k, m.counts r, m.asked, p, true⟩ : Rq) ∈ (m.request p r k true).reqs r := by
      show _ ∈ upf m.reqs r _ r
      rw [upf_same]; simp
    refine ⟨c, mv, a, _, F2, S2, r, _, rfl, P2, hr', hmem, by show m.log.length ≤ 4000; have := B.lg; omega, fun F3 S3 H3 s3 X3 P3 => ?_⟩
    exact q _ _ _ (s2.trans s3) (X2.trans X3) P3
  refine ifN' (decide_eq_false (by omega)) ?_
  obtain ⟨b, w1, w2, w3, b0, ys, b1, hmv, hs0, hs1, hat, hs2⟩ := cfg_res (dp_same P.ok.sm P.rp.mod) hr'
  subst hmv
  refine ⟨_, rfl, _, _, _, _, _, rfl, h1, T.c_Run, T.n_Run_model, rfl, _, _, _, _, rfl, rfl, hs0, rfl, _, rfl, _, _, _, _, rfl, rfl, hs1, hat, _, _, _, _, rfl, rfl, hs2, rfl, rfl, _, rfl, ?_⟩
  rw [dstr]
  cases hpre : c.pre r with
  | false =>
    have hv : m.victim c r k = none := by unfold M.victim; rw [hpre]; rfl
    rw [take_ask hf hv] at q
    refine ifN' (by decide) ?_
    refine ⟨_, rfl, rfl, _, rfl, ?_⟩
    refine ifB' rfl ?_
    refine ⟨_, rfl, _, _, _, _, rfl, hl, hC, rfl, _, rfl, _, rfl, c, _, a, m, F, S, r, p, k, rfl, P, hr', by omega, fun F2 S2 H2 s2 X2 P2 => ?_⟩
    rw [decide_eq_false hf] at P2
    obtain ⟨dx, rem, o1, o2, o3, o4, o5, er, h1⟩ := P2.run
    refine ⟨_, rfl, _, _, _, _, rfl, h1, rfl, rfl, _, rfl, _, rfl, c, _, a, _, F2, S2, p, .ask, [r], rfl, P2, by show m.log.length ≤ 4000; have := B.lg; omega, (by show 1 ≤ 100; decide), fun F3 S3 H3 s3 X3 _ P3 => ?_⟩
    obtain ⟨dx, rem, o1, o2, o3, o4, o5, er, h1⟩ := P3.run
    refine ⟨_, rfl, _, _, _, _, rfl, h1, rfl, rfl, _, rfl, _, rfl, c, _, a, _, F3, S3, p, r, rfl, P3, hp, fun F4 S4 H4 s4 X4 P4 => ?_⟩
    exact q _ _ _ (s2.trans (s3.trans s4)) (X2.trans (X3.trans X4)) P4
  | true =>
    have hfil : (m.reqs r).filter (fun x => x.holds && decide (k < x.rank) && (m.sleepers c.n).contains x.proc) = (m.reqs r).filter fun x => x.holds && decide (k < x.rank) && m.isSleeper x.proc :=
      List.filter_congr fun x hx => by rw [mem_sleepers, decide_eq_true (B.pc r hr' x hx), Bool.true_and]
    have hvic : m.victim c r k = greatOf ((m.reqs r).filter fun x => x.holds && decide (k < x.rank) && (m.sleepers c.n).contains x.proc) := by unfold M.victim; rw [hpre, if_pos rfl, hfil]
    refine ifB' (by decide) ?_
    have hC2 : lineCl A (c.pre r) = A.PreemptLine := by rw [hpre]; rfl
    refine ⟨_, rfl, _, _, _, _, rfl, hl, hC2, rfl, _, rfl, _, rfl, _, _, _, _, rfl, h1, rfl, rfl, c, _, a, m, F, S, rfl, P, by have := B.nn; omega, fun t H2 s2 ht => ?_⟩
    have P := P.same s2
    have hl := s2 _ _ hl
    have h1 := s2 _ _ h1
    refine ⟨c, _, a, m, F, S, r, k, t, m.sleepers c.n, rfl, P, hr', by omega, hpw, hf, hpre, ht, fun hgo H3 s3 => ?_, fun x hgo H3 s3 => ?_⟩
    · have hv : m.victim c r k = none := hvic.trans hgo
      rw [take_ask hf hv] at q
      have P := P.same s3
      have hl := s3 _ _ hl
      have h1 := s3 _ _ h1
      refine ⟨_, rfl, rfl, _, rfl, ?_⟩
      refine ifB' rfl ?_
      refine ⟨_, rfl, _, _, _, _, rfl, hl, hC, rfl, _, rfl, _, rfl, c, _, a, m, F, S, r, p, k, rfl, P, hr', by omega, fun F2 S2 H2 s2 X2 P2 => ?_⟩
      rw [decide_eq_false hf] at P2
      obtain ⟨dx, rem, o1, o2, o3, o4, o5, er, h1⟩ := P2.run
      refine ⟨_, rfl, _, _, _, _, rfl, h1, rfl, rfl, _, rfl, _, rfl, c, _, a, _, F2, S2, p, .ask, [r], rfl, P2, by show m.log.length ≤ 4000; have := B.lg; omega, (by show 1 ≤ 100; decide), fun F3 S3 H3 s3 X3 _ P3 => ?_⟩
      obtain ⟨dx, rem, o1, o2, o3, o4, o5, er, h1⟩ := P3.run
      refine ⟨_, rfl, _, _, _, _, rfl, h1, rfl, rfl, _, rfl, _, rfl, c, _, a, _, F3, S3, p, r, rfl, P3, hp, fun F4 S4 H4 s4 X4 P4 => ?_⟩
      exact q _ _ _ (s2.trans (s3.trans s4)) (X2.trans (X3.trans X4)) P4
    · have hv : m.victim c r k = some x := hvic.trans hgo
      rw [take_lose hf hv] at q
      have P := P.same s3
      have hl := s3 _ _ hl
      have h1 := s3 _ _ h1
      have hxf := List.mem_filter.mp (greatOf_in hgo)
      have hxm := hxf.1
      have hxs : m.isSleeper x.proc = true := by
        have h2 := hxf.2
        have h3 := (Bool.and_eq_true _ _ ▸ h2 : _ ∧ _).2
        rw [mem_sleepers, Bool.and_eq_true] at h3
        exact h3.2
      have hxt : m.clock < m.til x.proc := by
        unfold M.isSleeper at hxs
        rw [Bool.and_eq_true] at hxs
        exact of_decide_eq_true hxs.2
      have hxp := B.pc r hr' x hxm
      refine ⟨_, rfl, rfl, _, rfl, ?_⟩
      refine ifN' rfl ?_
      obtain ⟨dq, eq, hq⟩ := P.reqO hr' hxm
      refine ⟨_, rfl, _, _, _, _, rfl, h1, rfl, rfl, _, rfl, _, _, _, _, _, rfl, hq, T.c_Request, T.n_Request_process, rfl, _, rfl, c, _, a, _, F, S, x.proc, .lose, [r], rfl, P, by have := B.lg; omega, (by show 1 ≤ 100; decide), fun F4 S4 H4 s4 X4 _ P4 => ?_⟩
      obtain ⟨dx, rem, o1, o2, o3, o4, o5, er, h1⟩ := P4.run
      have ead4 := (X4 _ _ rfl eq).1
      refine ⟨_, rfl, _, _, _, _, rfl, h1, rfl, rfl, _, rfl, _, rfl, c, _, a, _, F4, S4, r, x, by rw [ead4], P4, hr', hxm, fun S5 H5 X5 P5 => ?_⟩
      obtain ⟨dx, rem, o1, o2, o3, o4, o5, er, h1⟩ := P5.run
      obtain ⟨dq5, eq5, hq⟩ := P5.reqO hr' (q := x) hxm
      have ead5 : S5.ad (.req r x.num) = S.ad (.req r x.num) := ((X4.trans X5) _ _ rfl eq).1
      rw [ead5] at hq
      refine ⟨_, rfl, _, _, _, _, rfl, h1, rfl, rfl, _, rfl, _, _, _, _, _, rfl, hq, T.c_Request, T.n_Request_process, rfl, c, _, a, _, F4, S5, x.proc, rfl, P5, by show m.agenda.length ≤ 5000; have := B.ag; omega, fun F6 S6 H6 s6 X6 P6 => ?_⟩
      obtain ⟨dx, rem, o1, o2, o3, o4, o5, er, h1⟩ := P6.run
      obtain ⟨f, es, ds⟩ := P6.rp.st
      obtain ⟨dq6, eq6, hq⟩ := P6.reqO hr' (q := x) hxm
      have ead6 : S6.ad (.req r x.num) = S.ad (.req r x.num) := ((X4.trans (X5.trans X6)) _ _ rfl eq).1
      rw [ead6] at hq
      refine ⟨_, rfl, _, rfl, _, _, _, _, _, rfl, h1, T.c_Run, T.n_Run_until, rfl, _, rfl, _, _, _, _, _, rfl, hq, T.c_Request, T.n_Request_process, rfl, _, _, _, _, rfl, rfl, SqL.of (P6.ok.liv _ _ P6.rp.ti), tab_at hxp, _, rfl, _, _, _, _, _, rfl, h1, T.c_Run, T.n_Run_clock, rfl, _, _, rfl, rfl, (by show 3 ≤ sizeLine; decide), fun e ne => ?_⟩
      have P7 := P6.frz ne (.tup [V.str "suspended", V.int r, V.int ((m.til x.proc : Int) - (m.clock : Int))])
      have hq := same_upd ne (o := .tup [V.str "suspended", V.int r, V.int ((m.til x.proc : Int) - (m.clock : Int))]) _ _ hq
      obtain ⟨dx, rem, o1, o2, o3, o4, o5, er, h1⟩ := P7.run
      refine ⟨_, rfl, _, _, _, _, _, rfl, h1, T.c_Run, T.n_Run_states, rfl, _, rfl, _, _, _, _, _, rfl, hq, T.c_Request, T.n_Request_process, rfl, _, _, _, x.proc, rfl, rfl, P7.ok.liv _ _ es, tab_ix hxp, ?_⟩
      have esub : ((m.til x.proc : Int) - (m.clock : Int)) = ((m.til x.proc - m.clock : Nat) : Int) := by omega
      obtain ⟨S8, P8, X8⟩ := P7.setSt es (fun q hq => dp_same (P6.up ne _) (ds q hq)) (p := x.proc) (v := .ref e) (s := .susp r (m.til x.proc - m.clock)) (.tup (SqT.of upd_same) (.cons (.str _) (.cons (.int _) (.cons (by rw [esub]; exact .int _) .nil))))
      obtain ⟨dx, rem, o1, o2, o3, o4, o5, er, h1⟩ := P8.run
      obtain ⟨dl8, el8, hl⟩ := P8.line hr'
      have X48 := X4.trans (X5.trans (X6.trans X8))
      have eal8 : S8.ad (.line r) = S.ad (.line r) := (X48 _ _ rfl el).1
      have ead8 : S8.ad (.req r x.num) = S.ad (.req r x.num) := (X48 _ _ rfl eq).1
      rw [eal8] at hl
      refine ⟨_, rfl, _, _, _, _, rfl, h1, rfl, rfl, _, rfl, _, rfl, _, _, _, _, rfl, hl, hC2, rfl, _, rfl, _, rfl, _, rfl, c, _, a, _, _, S8, r, p, k, x, by rw [eal8, ead8], P8, hr', by show (m.reqs r).length ≤ 4000; omega, hxm, hpre, fun F9 S9 H9 s9 X9 P9 => ?_⟩
      have hmem : (⟨k, m.counts r, m.asked, p, true⟩ : Rq) ∈ ((((((m.tell x.proc .lose [r]).unplan x.proc).setSt x.proc (.susp r (m.til x.proc - m.clock))).setLine r (setHold (m.reqs r) x.num false)).request p r k true).reqs r) := by
        show _ ∈ upf _ r _ r
        rw [upf_same]; simp [M.setLine, M.setSt, M.unplan, M.tell]
      refine ⟨c, _, a, _, F9, S9, r, _, rfl, P9, hr', hmem, by show (m.log ++ [_]).length ≤ 4000; rw [List.length_append]; have := B.lg; show m.log.length + 1 ≤ 4000; omega, fun F10 S10 H10 s10 X10 P10 => ?_⟩
      exact q _ _ _ (s4.trans (s6.trans ((P6.up ne _).trans (s9.trans s10)))) (X48.trans (X9.trans X10)) P10
end Ev
namespace Ev
open PySem PySem.Spec PyProof.Rows L2
variable {w : World} {K : PySem.W.Frag} {mg : Str → Option Value} {base : Heap} {A : Adr}

theorem stsI {H : Hp} {v : V} {s : Sts} (h : Dp K H v (stsD s)) : ∃ b xs, v = .ref b ∧ SqT K H b xs ∧ ∃ z : Str, atI xs 0 = some (.str z) ∧ (z = "suspended" ↔ ∃ r d, s = .susp r d) ∧ ∀ r d, s = .susp r d → atI xs 2 = some (.int (d : Nat)) := by
  cases s with
  | ready =>
    obtain ⟨b, xs, rfl, hs, hx⟩ := dp_tupI h
    obtain ⟨v1, r, rfl, h1, hx⟩ := dpa_consI hx
    obtain rfl := dpa_nilI hx
    obtain rfl := dp_strI h1
    exact ⟨b, _, rfl, hs, "ready", rfl, ⟨fun z => absurd z (by decide), fun ⟨_, _, z⟩ => by cases z⟩, fun _ _ z => by cases z⟩
  | asleep =>
    obtain ⟨b, xs, rfl, hs, hx⟩ := dp_tupI h
    obtain ⟨v1, r, rfl, h1, hx⟩ := dpa_consI hx
    obtain rfl := dpa_nilI hx
    obtain rfl := dp_strI h1
    exact ⟨b, _, rfl, hs, "asleep", rfl, ⟨fun z => absurd z (by decide), fun ⟨_, _, z⟩ => by cases z⟩, fun _ _ z => by cases z⟩
  | fin =>
    obtain ⟨b, xs, rfl, hs, hx⟩ := dp_tupI h
    obtain ⟨v1, r, rfl, h1, hx⟩ := dpa_consI hx
    obtain rfl := dpa_nilI hx
    obtain rfl := dp_strI h1
    exact ⟨b, _, rfl, hs, "finished", rfl, ⟨fun z => absurd z (by decide), fun ⟨_, _, z⟩ => by cases z⟩, fun _ _ z => by cases z⟩
  | wants q =>
    obtain ⟨b, xs, rfl, hs, hx⟩ := dp_tupI h
    obtain ⟨v1, r, rfl, h1, hx⟩ := dpa_consI hx
    obtain ⟨v2, r, rfl, h2, hx⟩ := dpa_consI hx
    obtain rfl := dpa_nilI hx
    obtain rfl := dp_strI h1
    exact ⟨b, _, rfl, hs, "wants", rfl, ⟨fun z => absurd z (by decide), fun ⟨_, _, z⟩ => by cases z⟩, fun _ _ z => by cases z⟩
  | susp q d =>
    obtain ⟨b, xs, rfl, hs, hx⟩ := dp_tupI h
    obtain ⟨v1, r, rfl, h1, hx⟩ := dpa_consI hx
    obtain ⟨v2, r, rfl, h2, hx⟩ := dpa_consI hx
    obtain ⟨v3, r, rfl, h3, hx⟩ := dpa_consI hx
    obtain rfl := dpa_nilI hx
    obtain rfl := dp_strI h1
    obtain rfl := dp_intI h2
    obtain rfl := dp_intI h3
    exact ⟨b, _, rfl, hs, _, rfl, ⟨fun _ => ⟨q, d, rfl⟩, fun _ => rfl⟩, fun r' d' z => by cases z; rfl⟩
def sp_Run_give (K : PySem.W.Frag) (A : Adr) : Sp0 := fun vs H Q => ∃ (c : Cfg) (mv : V) (a : Addr) (m : M) (F : Hp) (S : Sto) (p r : Nat) (own : Rq), vs = [.ref a, .int p, .int r] ∧ PAt K A c mv a m F S H ∧ Pre c m ∧ p < c.n ∧ r < c.nr ∧ lastOf (m.reqs r) p = some own ∧
  ∀ F' S' H', Same F F' → Fix mvP S S' → PAt K A c mv a (m.give p r) F' S' H' → Q (.bl true) H'
/-- Run.give -/
theorem ok_Run_give (T : Txt K mg w A) : Fn PP w K mg base 5 A.Run_give (sp_Run_give K A) := by
  refine T.d_Run_give.go sc_Run_give fun cdv Ar outer s H vs Q hr h => ?_
  have nd := sc_Run_give.nd
  obtain ⟨c, mv, a, m, F, S, p, r, own, rfl, P, B, hp, hr', ho, q⟩ := h
  refine ⟨_, (pss_cons (ps_set (i := 3) nd rfl (Or.inl rfl) (pe_ix (ixL K) (fldK K (pv 0) rfl) (pv 2) (fun _ _ => rfl)))
      (pss_cons (ps_set (i := 4) nd rfl (Or.inl rfl) (pe_m (pv 3) T.mLine_last_of (ok_Line_last_of T) (hr.mono (by decide)) T.d_Line_last_of.kp (pa_cons (pv 1) pa_nil)))
      (pss_cons (ps_expr (pe_m (pv 0) T.mRun_tell (ok_Run_tell T) (hr.mono (by decide)) T.d_Run_tell.kp (pa_cons (pv 1) (pa_cons pe_str (pa_cons (pv 2) pa_nil)))))
      (pss_cons (ps_expr (pe_m (pv 0) T.mRun_end_hold (ok_Run_end_hold T) (hr.mono (by decide)) T.d_Run_end_hold.kp (pa_cons (pv 2) (pa_cons (pv 4) pa_nil))))
      (pss_cons (ps_set (i := 5) nd rfl (Or.inl rfl) (pe_m (pv 3) T.mLine_ended (ok_Line_ended T) (hr.mono (by decide)) T.d_Line_ended.kp (pa_cons (pv 4) pa_nil)))
      (pss_cons (ps_if (pt_cm op_notN (pv 5) pe_non)
        (pss_cons (ps_expr (pe_m (pv 0) T.mRun_begin_hold (ok_Run_begin_hold T) (hr.mono (by decide)) T.d_Run_begin_hold.kp (pa_cons (pv 2) (pa_cons (pv 5) pa_nil))))
        (pss_cons (ps_set (i := 6) nd rfl (Or.inl rfl) (pe_ix (ixL K) (fldK K (pv 0) rfl) (fldK K (pv 5) rfl) (fun _ _ => rfl)))
        (pss_one (ps_if (pt_cm op_eq (pe_ix (ixT K) (pv 6) pe_int (fun _ _ => rfl)) (pe_gl (by rfl) T.g_SUSPENDED))
          (pss_one (ps_expr (pe_m (pv 0) T.mRun_sleep (ok_Run_sleep T) (hr.mono (by decide)) T.d_Run_sleep.kp (pa_cons (fldK K (pv 5) rfl) (pa_cons (pe_ix (ixT K) (pv 6) pe_int (fun _ _ => rfl)) pa_nil)))))
          (pss_one (ps_expr (pe_m (pv 0) T.mRun_continue_now (ok_Run_continue_now T) (hr.mono (by decide)) T.d_Run_continue_now.kp (pa_cons (fldK K (pv 5) rfl) pa_nil))))))))
        pss_nil)
      (pss_one (ps_ret pe_bl)))))))), ?_⟩
  obtain ⟨dx, rem, o1, o2, o3, o4, o5, er, h1⟩ := P.run
  have hzr := B.rq r hr'
  have hpw := B.pw r hr'
  have hom := (lastOf_mem ho).1
  have hlg := B.lg
  have hag := B.ag
  refine ⟨_, rfl, _, _, _, _, _, rfl, h1, T.c_Run, T.n_Run_lines, rfl, _, rfl, _, _, _, _, rfl, rfl, SqL.of (P.ok.liv _ _ P.rp.ln), tab_at hr', ?_⟩
  obtain ⟨dl, el, hl⟩ := P.line hr'
  have hC := lineCl_ok A (c.pre r)
  refine ⟨_, rfl, _, _, _, _, rfl, hl, hC, rfl, _, rfl, c, mv, a, m, F, S, r, p, own, rfl, P, hr', by omega, ho, fun H1 s1 => ?_⟩
  have P := P.same s1
  have h1 := s1 _ _ h1
  obtain ⟨dq, eq, hq⟩ := P.reqO hr' hom
  refine ⟨_, rfl, _, _, _, _, rfl, h1, rfl, rfl, _, rfl, _, rfl, c, mv, a, m, F, S, p, .give, [r], rfl, P, by omega, (by show 1 ≤ 100; decide), fun F2 S2 H2 s2 X2 _ P2 => ?_⟩
  obtain ⟨dx, rem, o1, o2, o3, o4, o5, er, h1⟩ := P2.run
  have ead2 := (X2 _ _ rfl eq).1
  refine ⟨_, rfl, _, _, _, _, rfl, h1, rfl, rfl, _, rfl, _, rfl, c, mv, a, _, F2, S2, r, own, by rw [ead2], P2, hr', hom, fun S3 H3 X3 P3 => ?_⟩
  have X23 := X2.trans X3
  have ead3 : S3.ad (.req r own.num) = S.ad (.req r own.num) := (X23 _ _ rfl eq).1
  have eal3 : S3.ad (.line r) = S.ad (.line r) := (X23 _ _ rfl el).1
  obtain ⟨dl3, el3, hl⟩ := P3.line hr'
  rw [eal3] at hl
  refine ⟨_, rfl, _, _, _, _, rfl, hl, hC, rfl, _, rfl, c, mv, a, _, F2, S3, r, own, by rw [eal3, ead3], P3, hr', hom, by show (m.reqs r).length ≤ 4000; omega, hpw, fun hlo F4 S4 H4 s4 X4 P4 => ?_, fun x hlo F4 S4 H4 s4 X4 P4 => ?_⟩
  · refine ⟨_, rfl, rfl, _, rfl, ?_⟩
    refine ifN' rfl ?_
    have e : m.give p r = (m.tell p .give [r]).setLine r (without (m.reqs r) own.num) := by
      unfold M.give
      rw [ho]
      dsimp only
      have hlo' : leastOf ((without (m.reqs r) own.num).filter fun x => !x.holds) = none := hlo
      rw [hlo']
    rw [e] at q
    exact q _ _ _ (s2.trans s4) (X23.trans X4) P4
  · have hlo' : leastOf ((without (m.reqs r) own.num).filter fun x => !x.holds) = some x := hlo
    have hxw : x ∈ without (m.reqs r) own.num := (List.mem_filter.mp (leastOf_in hlo')).1
    have hxp : x.proc < c.n := B.pc r hr' x (List.mem_filter.mp hxw).1
    have e : m.give p r = ((((m.tell p .give [r]).setLine r (setHold (without (m.reqs r) own.num) x.num true)).tell x.proc .hold [r]).resume x.proc) := by
      unfold M.give
      rw [ho]
      dsimp only
      rw [hlo']
    rw [e] at q
    have hxm : ({ x with holds := true } : Rq) ∈ ((m.tell p .give [r]).setLine r (setHold (without (m.reqs r) own.num) x.num true)).reqs r := by
      show _ ∈ upf _ r _ r
      rw [upf_same]
      exact List.mem_map.mpr ⟨x, hxw, if_pos rfl⟩
    refine ⟨_, rfl, rfl, _, rfl, ?_⟩
    refine ifB' rfl ?_
    obtain ⟨dx, rem, o1, o2, o3, o4, o5, er, h1⟩ := P4.run
    obtain ⟨dq4, eq4, hq4⟩ := P4.reqO hr' hxm
    refine ⟨_, rfl, _, _, _, _, rfl, h1, rfl, rfl, _, rfl, _, rfl, c, mv, a, _, F4, S4, r, { x with holds := true }, rfl, P4, hr', hxm, by show (m.log ++ [_]).length ≤ 4000; rw [List.length_append]; show m.log.length + 1 ≤ 4000; omega, fun F5 S5 H5 s5 X5 P5 => ?_⟩
    obtain ⟨dx, rem, o1, o2, o3, o4, o5, er, h1⟩ := P5.run
    have ead5 := (X5 _ _ rfl eq4).1
    obtain ⟨dq5, eq5, hq⟩ := P5.reqO hr' (q := { x with holds := true }) hxm
    rw [ead5] at hq
    obtain ⟨f, es, ds⟩ := P5.rp.st
    obtain ⟨b, xs, hfb, hsb, z, hz0, hz1, hz2⟩ := stsI (ds x.proc hxp)
    refine ⟨_, rfl, _, _, _, _, _, rfl, h1, T.c_Run, T.n_Run_states, rfl, _, rfl, _, _, _, _, _, rfl, hq, T.c_Request, T.n_Request_process, rfl, _, _, _, _, rfl, rfl, SqL.of (P5.ok.liv _ _ es), tab_at hxp, ?_⟩
    have hsb := same_T P5.ok.sm hsb
    refine ⟨_, rfl, _, _, _, _, hfb, rfl, hsb, hz0, rfl, _, rfl, ?_⟩
    rw [dstr]
    refine ifB (fun hb => ?_) fun hb => ?_
    · obtain ⟨r0, d0, hsu⟩ := hz1.mp (of_decide_eq_true hb)
      refine ⟨_, rfl, _, _, _, _, rfl, h1, rfl, rfl, _, rfl, _, _, _, _, _, rfl, hq, T.c_Request, T.n_Request_process, rfl, _, rfl, _, _, _, _, hfb, rfl, hsb, hz2 r0 d0 hsu, c, mv, a, _, F5, S5, x.proc, d0, rfl, P5, hxp, by show m.agenda.length ≤ 4000; omega, fun F6 S6 H6 s6 X6 P6 => ?_⟩
      have e2 : ((((m.tell p .give [r]).setLine r (setHold (without (m.reqs r) own.num) x.num true)).tell x.proc .hold [r]).resume x.proc) = ((((m.tell p .give [r]).setLine r (setHold (without (m.reqs r) own.num) x.num true)).tell x.proc .hold [r]).fallAsleep x.proc d0) := by
        have hsu' : ((((m.tell p .give [r]).setLine r (setHold (without (m.reqs r) own.num) x.num true)).tell x.proc .hold [r]).states x.proc) = .susp r0 d0 := hsu
        unfold M.resume
        rw [hsu']
      rw [e2] at q
      exact q _ _ _ (s2.trans (s4.trans (s5.trans s6))) (X23.trans (X4.trans (X5.trans X6))) P6
    · have hns : ∀ r0 d0, ((((m.tell p .give [r]).setLine r (setHold (without (m.reqs r) own.num) x.num true)).tell x.proc .hold [r]).states x.proc) ≠ .susp r0 d0 := fun r0 d0 h => by
        have := hz1.mpr ⟨r0, d0, h⟩
        rw [this] at hb
        exact absurd hb (by decide)
      refine ⟨_, rfl, _, _, _, _, rfl, h1, rfl, rfl, _, rfl, _, _, _, _, _, rfl, hq, T.c_Request, T.n_Request_process, rfl, c, mv, a, _, F5, S5, x.proc, rfl, P5, hxp, by show m.agenda.length ≤ 4000; omega, fun F6 S6 H6 s6 X6 P6 => ?_⟩
      have e2 : ((((m.tell p .give [r]).setLine r (setHold (without (m.reqs r) own.num) x.num true)).tell x.proc .hold [r]).resume x.proc) = ((((m.tell p .give [r]).setLine r (setHold (without (m.reqs r) own.num) x.num true)).tell x.proc .hold [r]).goOn x.proc) := by
        unfold M.resume
        split
        · rename_i h; exact absurd h (hns _ _)
        · rfl
      rw [e2] at q
      exact q _ _ _ (s2.trans (s4.trans (s5.trans s6))) (X23.trans (X4.trans (X5.trans X6))) P6
def sp_Run_rouse (K : PySem.W.Frag) (A : Adr) : Sp0 := fun vs H Q => ∃ (c : Cfg) (mv : V) (a : Addr) (m : M) (F : Hp) (S : Sto) (p x : Nat), vs = [.ref a, .int p, .int x] ∧ PAt K A c mv a m F S H ∧ Pre c m ∧ p < c.n ∧ x < c.n ∧
  ∀ F' S' H', Same F F' → Fix mvP S S' → PAt K A c mv a (m.rouse p x) F' S' H' → Q .non H'
/-- Run.rouse -/
theorem ok_Run_rouse (T : Txt K mg w A) : Fn PP w K mg base 3 A.Run_rouse (sp_Run_rouse K A) := by
  refine T.d_Run_rouse.go sc_Run_rouse fun cdv Ar outer s H vs Q hr h => ?_
  have nd := sc_Run_rouse.nd
  obtain ⟨c, mv, a, m, F, S, p, x, rfl, P, B, hp, hx, q⟩ := h
  refine ⟨_, (pss_one (ps_if (PW.pt (pw_and (pt_cm (opIn K) (pv 2) (pe_m0 (pv 0) T.mRun_sleepers (ok_Run_sleepers T) (hr.mono (by decide)) T.d_Run_sleepers.kp)) (pw_and1 (pt_cm op_lt (pe_ix (ixL K) (fldK K (pv 0) rfl) (pv 2) (fun _ _ => rfl)) (fldK K (pv 0) rfl)))))
        (pss_cons (ps_expr (pe_m (pv 0) T.mRun_tell (ok_Run_tell T) (hr.mono (by decide)) T.d_Run_tell.kp (pa_cons (pv 1) (pa_cons pe_str (pa_cons (pv 2) pa_nil)))))
        (pss_cons (ps_expr (pe_m (pv 0) T.mRun_unschedule (ok_Run_unschedule T) (hr.mono (by decide)) T.d_Run_unschedule.kp (pa_cons (pv 2) pa_nil)))
        (pss_cons (ps_asg (fldK K (pv 0) rfl) (pg_sub (fldK K (pv 0) rfl) (pv 2) set_list (fun _ => rfl)))
        (pss_one (ps_expr (pe_m (pv 0) T.mRun_schedule (ok_Run_schedule T) (hr.mono (by decide)) T.d_Run_schedule.kp (pa_cons (pv 2) (pa_cons (fldK K (pv 0) rfl) pa_nil))))))))
        pss_nil)), ?_⟩
  obtain ⟨dx, rem, o1, o2, o3, o4, o5, er, h1⟩ := P.run
  have hlg := B.lg
  have hag := B.ag
  have hnn := B.nn
  refine ⟨_, rfl, _, rfl, _, _, _, _, rfl, h1, rfl, rfl, c, mv, a, m, F, S, rfl, P, by omega, fun t H1 s1 ht => ?_⟩
  have P := P.same s1
  have h1 := s1 _ _ h1
  refine ⟨_, _, rfl, .inr (SqT.of ht), rfl, flat_ints _, _, rfl, ?_⟩
  show if inV (V.int x) ((m.sleepers c.n).map fun x => V.int (x : Nat)) = true then _ else _
  rw [inV_ints, mem_sleepers, decide_eq_true hx, Bool.true_and]
  have fin : (m.isSleeper x && decide (m.since x < m.clock)) = false → m.rouse p x = m := fun h => by unfold M.rouse; rw [h]; rfl
  refine ifB (fun hb => ?_) fun hb => ?_
  · refine ⟨_, rfl, _, _, _, _, _, rfl, h1, T.c_Run, T.n_Run_since, rfl, _, rfl, _, _, _, _, rfl, rfl, SqL.of (P.ok.liv _ _ P.rp.si), tab_at hx, _, rfl, _, _, _, _, _, rfl, h1, T.c_Run, T.n_Run_clock, rfl, _, _, rfl, rfl, _, rfl, ?_⟩
    have e : decide ((m.since x : Int) < (m.clock : Int)) = decide (m.since x < m.clock) := decide_eq_decide.mpr (by omega)
    rw [e]
    refine ifB (fun hb2 => ?_) fun hb2 => ?_
    · have er : m.rouse p x = (({ ((m.tell p .rouse [x]).unplan x) with til := upf m.til x m.clock } : M).plan x m.clock) := by unfold M.rouse; rw [hb, hb2]; rfl
      rw [er] at q
      refine ⟨_, rfl, _, _, _, _, rfl, h1, rfl, rfl, _, rfl, _, rfl, c, mv, a, m, F, S, p, .rouse, [x], rfl, P, by omega, (by show 1 ≤ 100; decide), fun F2 S2 H2 s2 X2 _ P2 => ?_⟩
      obtain ⟨dx, rem, o1, o2, o3, o4, o5, er, h1⟩ := P2.run
      refine ⟨_, rfl, _, _, _, _, rfl, h1, rfl, rfl, _, rfl, c, mv, a, _, F2, S2, x, rfl, P2, by show m.agenda.length ≤ 5000; omega, fun F3 S3 H3 s3 X3 P3 => ?_⟩
      obtain ⟨dx, rem, o1, o2, o3, o4, o5, er, h1⟩ := P3.run
      refine ⟨_, rfl, _, _, _, _, _, rfl, h1, T.c_Run, T.n_Run_clock, rfl, _, rfl, _, _, _, _, _, rfl, h1, T.c_Run, T.n_Run_until, rfl, _, rfl, _, _, _, x, rfl, rfl, P3.ok.liv _ _ P3.rp.ti, tab_ix hx, ?_⟩
      obtain ⟨S4, P4, X4⟩ := P3.setTi x m.clock
      obtain ⟨dx, rem, o1, o2, o3, o4, o5, er, h1⟩ := P4.run
      have hfl : (m.agenda.filter fun e => e.2.2 != x).length ≤ m.agenda.length := List.length_filter_le ..
      refine ⟨_, rfl, _, _, _, _, rfl, h1, rfl, rfl, _, rfl, _, rfl, _, _, _, _, _, rfl, h1, T.c_Run, T.n_Run_clock, rfl, c, mv, a, _, F3, S4, x, m.clock, rfl, P4, by show (m.agenda.filter fun e => e.2.2 != x).length ≤ 4000; omega, fun F5 S5 H5 s5 X5 P5 => ?_⟩
      exact q _ _ _ (s2.trans (s3.trans s5)) (X2.trans (X3.trans (X4.trans X5))) P5
    · rw [fin (by rw [hb, hb2]; rfl)] at q
      exact q _ _ _ (Same.refl _) (Fix.refl _) P
  · rw [fin (by rw [hb]; rfl)] at q
    exact q _ _ _ (Same.refl _) (Fix.refl _) P
end Ev
namespace Ev
open PySem PySem.Spec PyProof.Rows L2
variable {w : World} {K : PySem.W.Frag} {mg : Str → Option Value} {base : Heap} {A : Adr}

theorem insDs_append (l r : List Ins) : insDs (l ++ r) = insDs l ++ insDs r := by rw [insDs_map, insDs_map, insDs_map, List.map_append]
theorem upf_upf {α : Type} (f : Nat → α) (p : Nat) (v v' : α) : upf (upf f p v) p v' = upf f p v' := by
  funext q; by_cases h : q = p <;> simp [upf, h]
theorem insDs_len (l : List Ins) : (insDs l).length = l.length := by rw [insDs_map, List.length_map]
theorem mN {z c : Str} {p q : Prop} (h : z ≠ c) (hq : q) : if z = c then p else q := by rw [if_neg h]; exact hq
theorem mY {z c : Str} {p q : Prop} (h : z = c) (hp : p) : if z = c then p else q := by rw [if_pos h]; exact hp
theorem big3 : 12000 ≤ sizeLine := by decide
def sp_Run_unfold (K : PySem.W.Frag) (A : Adr) : Sp0 := fun vs H Q => ∃ (c : Cfg) (mv : V) (a : Addr) (m : M) (F : Hp) (S : Sto) (p n : Nat) (b : List Ins) (ab : Addr), vs = [.ref a, .int p, .int n, .ref ab] ∧ PAt K A c mv a m F S H ∧ p < c.n ∧ Dp K F (.ref ab) (.tuple (insDs b)) ∧ b.length ≤ 3900 ∧ (m.rests p).length ≤ 3900 ∧
  (n = 0 → Q .non H) ∧ ∀ k, n = k + 1 → ∀ F' S' H', Same F F' → Fix mvP S S' → PAt K A c mv a (m.setRest p (b ++ (if k = 0 then [] else [.rep k b]) ++ m.rests p)) F' S' H' → Q .non H'
/-- Run.unfold -/
theorem ok_Run_unfold (T : Txt K mg w A) : Fn PP w K mg base 1 A.Run_unfold (sp_Run_unfold K A) := by
  refine T.d_Run_unfold.go sc_Run_unfold fun cdv Ar outer s H vs Q hr h => ?_
  have nd := sc_Run_unfold.nd
  obtain ⟨c, mv, a, m, F, S, p, n, b, ab, rfl, P, hp, hb, hbl, hrl, q0, qs⟩ := h
  refine ⟨_, (pss_one (ps_if (pt_cm op_gt (pv 2) pe_int)
        (pss_cons (ps_set (i := 4) nd rfl (Or.inl rfl) (pe_ifExp (pt_cm op_gt (pv 2) pe_int) (pe_tup (pa_cons (pe_tup (pa_cons pe_str (pa_cons (pe_op op_sub (pv 2) pe_int) (pa_cons (pv 3) pa_nil)))) pa_nil)) (pe_tup pa_nil)))
        (pss_one (ps_asg (pe_tup (StX.pa_star (pv 3) (StX.pa_star (pv 4) (StX.pa_star (pe_ix (ixL K) (fldK K (pv 0) rfl) (pv 1) (fun _ _ => rfl)) pa_nil)))) (pg_sub (fldK K (pv 0) rfl) (pv 1) set_list (fun _ => rfl)))))
        pss_nil)), ?_⟩
  have big3 := big3
  refine ⟨_, rfl, _, _, rfl, rfl, _, rfl, ?_⟩
  refine ifB (fun hn => ?_) fun hn => q0 (by have := of_decide_eq_false hn; omega)
  have hn := of_decide_eq_true hn
  obtain ⟨k, rfl⟩ : ∃ k, n = k + 1 := ⟨n - 1, by omega⟩
  have q := qs k rfl
  obtain ⟨_, bx, e, hbs, hbx⟩ := dp_tupI hb
  cases e
  have hbxl : bx.length = b.length := by rw [dpa_length hbx, insDs_len]
  refine ⟨_, rfl, _, _, rfl, rfl, _, rfl, ?_⟩
  refine ifB (fun hk => ?_) fun hk => ?_
  · have hk0 : k ≠ 0 := by have := of_decide_eq_true hk; omega
    rw [if_neg hk0] at q
    refine ⟨_, rfl, _, _, rfl, rfl, _, rfl, (by show 3 ≤ sizeLine; omega), fun e1 n1 => ⟨(by show 1 ≤ sizeLine; omega), fun e2 n2 => ?_⟩⟩
    have P2 := P.frz n1 (.tup [V.str "repeat", V.int (((k + 1 : Nat) : Int) - 1), V.ref ab])
    have u2 := P.up n1 (.tup [V.str "repeat", V.int (((k + 1 : Nat) : Int) - 1), V.ref ab])
    have P3 := P2.frz n2 (.tup [V.ref e1])
    have u3 := u2.trans (P2.up n2 (.tup [V.ref e1]))
    have ek : ((k + 1 : Nat) : Int) - 1 = (k : Nat) := by omega
    have dm : Dp K (upd F e1 (.tup [V.str "repeat", V.int (((k + 1 : Nat) : Int) - 1), V.ref ab])) (.ref e1) (insD (.rep k b)) := by
      simp only [insD]
      exact .tup (SqT.of upd_same) (.cons (.str _) (.cons (by rw [ek]; exact .int _) (.cons (dp_same u2 hb) .nil)))
    obtain ⟨dx, rem, o1, o2, o3, o4, o5, er, h1⟩ := P3.run
    obtain ⟨f, es, ds⟩ := P3.rp.re
    obtain ⟨rb, rx, efr, hrs, hrx⟩ := dp_tupI (ds p hp)
    have hrxl : rx.length = (m.rests p).length := by rw [dpa_length hrx, insDs_len]
    refine ⟨_, rfl, _, _, rfl, .inl (same_T P3.ok.sm (same_T u3 hbs)), _, rfl, _, _, rfl, .inl (SqT.of upd_same), _, rfl, _, _, _, _, _, rfl, h1, T.c_Run, T.n_Run_rests, rfl, _, rfl, _, _, _, _, rfl, rfl, SqL.of (P3.ok.liv _ _ es), tab_at hp, _, _, efr, .inl (same_T P3.ok.sm hrs), (by simp only [List.length_append, List.length_cons, List.length_nil]; omega), fun e3 n3 => ?_⟩
    have P4 := P3.frz n3 (.tup (bx ++ ([V.ref e1] ++ (rx ++ []))))
    obtain ⟨dx, rem, o1, o2, o3, o4, o5, er, h1⟩ := P4.run
    refine ⟨_, rfl, _, _, _, _, _, rfl, h1, T.c_Run, T.n_Run_rests, rfl, _, rfl, _, _, _, p, rfl, rfl, P4.ok.liv _ _ es, tab_ix hp, ?_⟩
    have u4 := P3.up n3 (.tup (bx ++ ([V.ref e1] ++ (rx ++ []))))
    obtain ⟨S5, P5, X5⟩ := P4.setRe es (fun q hq => dp_same u4 (ds q hq)) (p := p) (v := .ref e3) (l := b ++ [.rep k b] ++ m.rests p) (.tup (SqT.of upd_same) (by
      have ei : insDs (b ++ [.rep k b] ++ m.rests p) = insDs b ++ (insDs [.rep k b] ++ (insDs (m.rests p) ++ [])) := by rw [insDs_append, insDs_append, List.append_nil, List.append_assoc]
      rw [ei]
      exact dpa_append (dpa_same (u3.trans u4) hbx) (dpa_append (.cons (dp_same ((P2.up n2 _).trans u4) dm) .nil) (dpa_append (dpa_same u4 hrx) .nil))))
    exact q _ _ _ (u3.trans u4) X5 P5
  · have hk0 : k = 0 := by have := of_decide_eq_false hk; omega
    rw [if_pos hk0] at q
    refine ⟨Nat.zero_le _, fun e2 n2 => ?_⟩
    have P3 := P.frz n2 (.tup [])
    have u3 := P.up n2 (.tup [])
    obtain ⟨dx, rem, o1, o2, o3, o4, o5, er, h1⟩ := P3.run
    obtain ⟨f, es, ds⟩ := P3.rp.re
    obtain ⟨rb, rx, efr, hrs, hrx⟩ := dp_tupI (ds p hp)
    have hrxl : rx.length = (m.rests p).length := by rw [dpa_length hrx, insDs_len]
    refine ⟨_, rfl, _, _, rfl, .inl (same_T P3.ok.sm (same_T u3 hbs)), _, rfl, _, _, rfl, .inl (SqT.of upd_same), _, rfl, _, _, _, _, _, rfl, h1, T.c_Run, T.n_Run_rests, rfl, _, rfl, _, _, _, _, rfl, rfl, SqL.of (P3.ok.liv _ _ es), tab_at hp, _, _, efr, .inl (same_T P3.ok.sm hrs), (by simp only [List.length_append, List.length_cons, List.length_nil]; omega), fun e3 n3 => ?_⟩
    have P4 := P3.frz n3 (.tup (bx ++ ([] ++ (rx ++ []))))
    obtain ⟨dx, rem, o1, o2, o3, o4, o5, er, h1⟩ := P4.run
    refine ⟨_, rfl, _, _, _, _, _, rfl, h1, T.c_Run, T.n_Run_rests, rfl, _, rfl, _, _, _, p, rfl, rfl, P4.ok.liv _ _ es, tab_ix hp, ?_⟩
    have u4 := P3.up n3 (.tup (bx ++ ([] ++ (rx ++ []))))
    obtain ⟨S5, P5, X5⟩ := P4.setRe es (fun q hq => dp_same u4 (ds q hq)) (p := p) (v := .ref e3) (l := b ++ [] ++ m.rests p) (.tup (SqT.of upd_same) (by
      have ei : insDs (b ++ [] ++ m.rests p) = insDs b ++ (insDs [] ++ (insDs (m.rests p) ++ [])) := by rw [insDs_append, insDs_append, List.append_nil, List.append_assoc]
      rw [ei]
      exact dpa_append (dpa_same (u3.trans u4) hbx) (dpa_append .nil (dpa_append (dpa_same u4 hrx) .nil))))
    exact q _ _ _ (u3.trans u4) X5 P5
end Ev
namespace Ev
open PySem PySem.Spec PyProof.Rows L2
variable {w : World} {K : PySem.W.Frag} {mg : Str → Option Value} {base : Heap} {A : Adr}

theorem Pre.rest {c : Cfg} {m : M} (B : Pre c m) (p : Nat) (l : List Ins) : Pre c (m.setRest p l) := ⟨B.nn, B.ag, B.lg, B.np, B.rq, B.pw, B.pc⟩
def HeadOk (c : Cfg) (m : M) (p : Nat) : Prop := (m.rests p).length ≤ 3900 ∧ SeqAt.shaped (restD (m.rests p)) = true ∧ match m.rests p with
  | .take r _ :: _ => r < c.nr
  | .give r :: _ => r < c.nr ∧ ∃ own, lastOf (m.reqs r) p = some own
  | .rouse x :: _ => x < c.n
  | .rep _ b :: _ => b.length ≤ 3900
  | .fev b :: _ => b.length ≤ 3900
  | _ => True
theorem eqv_nil (ds : List PyData) : PyData.eqv (.tuple ds) (.tuple []) = ds.isEmpty := by cases ds <;> simp [PyData.eqv, PyData.eqvAll]
theorem nil_shaped : SeqAt.shaped (.tuple []) = true := by
  simp only [SeqAt.shaped, PyData.canLay0, PyData.canLayAll0, PyData.depth, PyData.depthAll]; decide
theorem cut1 (v : V) (xs : List V) : cutV (v :: xs) (some 1) none = xs := by
  unfold cutV
  rw [show HT.sIx (v :: xs).length 0 (some 1) = min 1 (v :: xs).length from HT.sIx_nat (v :: xs).length 0 1, HT.sIx_none]
  have e : min 1 (v :: xs).length = 1 := by rw [List.length_cons]; omega
  rw [e]
  show List.take ((v :: xs).length - 1) xs = xs
  rw [List.length_cons, Nat.add_sub_cancel, List.take_length]
theorem cut1_not (v : V) (xs : List V) : ¬ (HT.sIx (v :: xs).length 0 (some 1) = 0 ∧ HT.sIx (v :: xs).length (v :: xs).length none = (v :: xs).length) := fun h => by
  have e : HT.sIx (v :: xs).length 0 (some 1) = min 1 (v :: xs).length := HT.sIx_nat (v :: xs).length 0 1
  rw [e, List.length_cons] at h
  omega
theorem at0 {v : V} {r : List V} : atI (v :: r) 0 = some v := atI_nat (j := 0) rfl
/-- an instruction's word and its numbers -/
theorem insI {H : Hp} {v : V} {i : Ins} (h : Dp K H v (insD i)) : ∃ b w xs ds, v = .ref b ∧ SqT K H b (.str w :: xs) ∧ insD i = .tuple (.str w :: ds) ∧ DpAll K H xs ds := by
  have h2 : ∃ w ds, insD i = .tuple (.str w :: ds) := by cases i <;> simp only [insD] <;> exact ⟨_, _, rfl⟩
  obtain ⟨w, ds, e⟩ := h2
  rw [e] at h
  obtain ⟨b, ys, rfl, hs, hx⟩ := dp_tupI h
  obtain ⟨v1, xs, rfl, h1, hx2⟩ := dpa_consI hx
  obtain rfl := dp_strI h1
  exact ⟨b, w, xs, ds, rfl, hs, e, hx2⟩
def sp_Run_proceed (K : PySem.W.Frag) (A : Adr) : Sp0 := fun vs H Q => ∃ (c : Cfg) (mv : V) (a : Addr) (m : M) (F : Hp) (S : Sto) (p : Nat), vs = [.ref a, .int p] ∧ PAt K A c mv a m F S H ∧ Pre c m ∧ p < c.n ∧ HeadOk c m p ∧
  ∀ F' S' H', Same F F' → Fix mvP S S' → PAt K A c mv a (m.proceed c p).1 F' S' H' → Q (.bl (m.proceed c p).2) H'
/-- Run.proceed -/
theorem ok_Run_proceed (T : Txt K mg w A) : Fn PP w K mg base 6 A.Run_proceed (sp_Run_proceed K A) := by
  refine T.d_Run_proceed.go sc_Run_proceed fun cdv Ar outer s H vs Q hr h => ?_
  have nd := sc_Run_proceed.nd
  obtain ⟨c, mv, a, m, F, S, p, rfl, P, B, hp, ⟨hrl, hsh, hh⟩, q⟩ := h
  refine ⟨_, (pss_cons (ps_set (i := 2) nd rfl (Or.inl rfl) (pe_ix (ixL K) (fldK K (pv 0) rfl) (pv 1) (fun _ _ => rfl)))
      (pss_cons (ps_if (pt_cm (opEqD K hr.hu) (pv 2) (pe_tup pa_nil))
        (pss_cons (ps_expr (pe_m (pv 0) T.mRun_tell (ok_Run_tell T) (hr.mono (by decide)) T.d_Run_tell.kp (pa_cons (pv 1) (pa_cons pe_str pa_nil))))
        (pss_cons (ps_asg (pe_gl (by rfl) T.g_FINISHED) (pg_sub (fldK K (pv 0) rfl) (pv 1) set_list (fun _ => rfl)))
        (pss_one (ps_ret pe_bl))))
        pss_nil)
      (pss_cons (ps_asg (pe_slice (slA K) (pv 2) (po_some pe_int) po_none) (pg_sub (fldK K (pv 0) rfl) (pv 1) set_list (fun _ => rfl)))
      (pss_cons (ps_asg (pe_ix (ixT K) (pv 2) pe_int (fun _ _ => rfl)) (pg_star rfl (pgs_cons (pg_name (i := 3) nd rfl (Or.inl rfl)) (pgs_star (pg_name (i := 4) nd rfl (Or.inl rfl))))))
      (pss_cons (ps_match (pv 3)
        (pms_val (pss_one (ps_ret (pe_ms (pv 0) T.qRun_wait T.e_Run_wait.fi (ok_Run_wait T) (hr.mono (by decide)) (pv 1) (pv 4))))
        (pms_val (pss_one (ps_ret (pe_ms (pv 0) T.qRun_take T.e_Run_take.fi (ok_Run_take T) (hr.mono (by decide)) (pv 1) (pv 4))))
        (pms_val (pss_one (ps_ret (pe_ms (pv 0) T.qRun_give T.e_Run_give.fi (ok_Run_give T) (hr.mono (by decide)) (pv 1) (pv 4))))
        (pms_val pss_never
        (pms_val pss_never
        (pms_val pss_never
        (pms_val pss_never
        (pms_val pss_never
        (pms_val (pss_one (ps_expr (pe_ms (pv 0) T.qRun_rouse T.e_Run_rouse.fi (ok_Run_rouse T) (hr.mono (by decide)) (pv 1) (pv 4))))
        (pms_val pss_never
        (pms_val (pss_one (ps_expr (pe_ms (pv 0) T.qRun_unfold T.e_Run_unfold.fi (ok_Run_unfold T) (hr.mono (by decide)) (pv 1) (pv 4))))
        (pms_any (pss_cons (ps_expr (pe_bm PySem.F.plainAttrs_list PySem.F.slot_list_append PySem.F.type_list_append mt_append (fldK K (pv 0) rfl) (pa_cons (pe_tup (pa_cons (fldK K (pv 0) rfl) (pa_cons (pv 1) pa_nil))) pa_nil)))
          (pss_one (ps_asg (pe_tup (StX.pa_star (pe_ix (ixL K) (pv 4) pe_int (fun _ _ => rfl)) (pa_cons (pe_ix (ixT K) (pv 2) pe_int (fun _ _ => rfl)) pa_nil))) (pg_sub (fldK K (pv 0) rfl) (pv 1) set_list (fun _ => rfl))))))))))))))))))
      (pss_one (ps_ret pe_bl))))))), ?_⟩
  have hlg := B.lg
  have hag := B.ag
  have big3 := big3
  obtain ⟨dx, rem, o1, o2, o3, o4, o5, er, h1⟩ := P.run
  obtain ⟨f, es, ds⟩ := P.rp.re
  have dr := ds p hp
  obtain ⟨rb, rx, efr, hrs, hrx⟩ := dp_tupI dr
  refine ⟨_, rfl, _, _, _, _, _, rfl, h1, T.c_Run, T.n_Run_rests, rfl, _, rfl, _, _, _, _, rfl, rfl, SqL.of (P.ok.liv _ _ es), tab_at hp, ?_⟩
  refine ⟨_, rfl, Nat.zero_le _, fun e0 n0 => ?_⟩
  have s0 := same_upd n0 (o := .tup [])
  refine ⟨restD (m.rests p), .tuple [], dp_same (P.ok.sm.trans s0) dr, .tup (SqT.of upd_same) .nil, hsh, nil_shaped, _, rfl, ?_⟩
  have P := P.same s0
  have h1 := s0 _ _ h1
  unfold restD
  rw [eqv_nil]
  cases hre : m.rests p with
  | nil =>
    have e : m.proceed c p = ((m.tell p .fin []).setSt p .fin, false) := by unfold M.proceed; rw [hre]
    rw [e] at q
    refine ifB' (by simp [insDs]) ?_
    refine ⟨_, rfl, _, _, _, _, rfl, h1, rfl, rfl, _, rfl, c, mv, a, m, F, S, p, .fin, [], rfl, P, by omega, Nat.zero_le _, fun F1 S1 H1 s1 X1 _ P1 => ?_⟩
    obtain ⟨dx, rem, o1, o2, o3, o4, o5, er, h1⟩ := P1.run
    obtain ⟨g, es1, ds1⟩ := P1.rp.st
    refine ⟨_, rfl, _, _, _, _, _, rfl, h1, T.c_Run, T.n_Run_states, rfl, _, rfl, _, _, _, p, rfl, rfl, P1.ok.liv _ _ es1, tab_ix hp, ?_⟩
    obtain ⟨S2, P2, X2⟩ := P1.setSt es1 ds1 (p := p) (v := .ref A.FINISHED) (s := .fin) (T.tFINISHED F1)
    exact q _ _ _ s1 (X1.trans X2) P2
  | cons i rs =>
    refine ifN' (by simp [insDs]) ?_
    rw [hre] at hrx hrl
    simp only [insDs] at hrx
    obtain ⟨vi, vr, rfl, di, dvr⟩ := dpa_consI hrx
    have hvr : vr.length = rs.length := by rw [dpa_length dvr, insDs_len]
    obtain ⟨b, wd, nx, dn, rfl, hbs, eid, hdn⟩ := insI di
    have hrs1 := same_T P.ok.sm hrs
    refine ⟨_, rfl, _, rfl, rb, _, efr, hrs1, fun z => absurd z (cut1_not _ _), fun _ e1 n1 => ?_⟩
    rw [cut1]
    have P1 := P.frz n1 (.tup vr)
    have u1 := P.up n1 (.tup vr)
    obtain ⟨dx, rem, o1, o2, o3, o4, o5, er, h1⟩ := P1.run
    refine ⟨_, rfl, _, _, _, _, _, rfl, h1, T.c_Run, T.n_Run_rests, rfl, _, rfl, _, _, _, p, rfl, rfl, P1.ok.liv _ _ es, tab_ix hp, ?_⟩
    obtain ⟨S2, P2, X2⟩ := P1.setRe es (fun q hq => dp_same u1 (ds q hq)) (p := p) (v := .ref e1) (l := rs) (.tup (SqT.of upd_same) (dpa_same u1 dvr))
    have hrs2 := same_T (u1.trans P2.ok.sm) hrs
    have hbs2 := same_T (u1.trans P2.ok.sm) hbs
    refine ⟨_, rfl, _, _, _, _, efr, rfl, hrs2, at0, b, _, _, rfl, hbs2, fun pn nn => ?_⟩
    have s2 := same_upd nn (o := .lst nx)
    refine ⟨_, _, rfl, _, _, rfl, rfl, ?_⟩
    have P3 := P2.same s2
    have B3 := B.rest p rs
    refine ⟨_, rfl, wd, rfl, ?_⟩
    obtain ⟨dx, rem, o1, o2, o3, o4, o5, er, h1⟩ := P3.run
    cases i with
    | wait d =>
      simp only [insD] at eid
      injection eid with eid; injection eid with ew ed; injection ew with ew
      subst ew; subst ed
      obtain ⟨v1, r1, rfl, d1, hdn2⟩ := dpa_consI hdn
      obtain rfl := dpa_nilI hdn2
      obtain rfl := dp_intI d1
      refine mY rfl ?_
      refine ⟨_, rfl, _, _, _, _, rfl, h1, rfl, rfl, fun q1 nq => ?_⟩
      have s3 := same_upd nq (o := .met A.Run_wait a)
      refine ⟨_, rfl, _, rfl, pn, _, rfl, .inr (SqL.of (s3 _ _ upd_same)), upd_same, c, mv, a, _, _, S2, p, d, rfl, P3.same s3, hp, by show m.agenda.length ≤ 4000; omega, by show m.log.length ≤ 4000; omega, fun hd => ?_, fun hd F5 S5 H5 s5 X5 P5 => ?_⟩
      · subst hd
        have e : m.proceed c p = (m.setRest p rs, true) := by unfold M.proceed; rw [hre]
        rw [e] at q
        exact q _ _ _ u1 X2 (P3.same s3)
      · obtain ⟨k, rfl⟩ : ∃ k, d = k + 1 := ⟨d - 1, by omega⟩
        have e : m.proceed c p = (((m.setRest p rs).tell p .sleep [k + 1]).fallAsleep p (k + 1), false) := by unfold M.proceed; rw [hre]
        rw [e] at q
        exact q _ _ _ (u1.trans s5) (X2.trans X5) P5
    | take r k =>
      simp only [insD] at eid
      injection eid with eid; injection eid with ew ed; injection ew with ew
      subst ew; subst ed
      obtain ⟨v1, r1, rfl, d1, hdn2⟩ := dpa_consI hdn
      obtain ⟨v2, r2, rfl, d2, hdn3⟩ := dpa_consI hdn2
      obtain rfl := dpa_nilI hdn3
      obtain rfl := dp_intI d1
      obtain rfl := dp_intI d2
      rw [hre] at hh
      refine mN (by decide) (mY rfl ?_)
      refine ⟨_, rfl, _, _, _, _, rfl, h1, rfl, rfl, fun q1 nq => ?_⟩
      have s3 := same_upd nq (o := .met A.Run_take a)
      have e : m.proceed c p = (m.setRest p rs).take c p r k := by unfold M.proceed; rw [hre]
      rw [e] at q
      refine ⟨_, rfl, _, rfl, pn, _, rfl, .inr (SqL.of (s3 _ _ upd_same)), upd_same, c, mv, a, _, _, S2, p, r, k, rfl, P3.same s3, B3, hp, hh, fun F5 S5 H5 s5 X5 P5 => ?_⟩
      exact q _ _ _ (u1.trans s5) (X2.trans X5) P5
    | give r =>
      simp only [insD] at eid
      injection eid with eid; injection eid with ew ed; injection ew with ew
      subst ew; subst ed
      obtain ⟨v1, r1, rfl, d1, hdn2⟩ := dpa_consI hdn
      obtain rfl := dpa_nilI hdn2
      obtain rfl := dp_intI d1
      rw [hre] at hh
      obtain ⟨hr1, own, ho⟩ := hh
      refine mN (by decide) (mN (by decide) (mY rfl ?_))
      refine ⟨_, rfl, _, _, _, _, rfl, h1, rfl, rfl, fun q1 nq => ?_⟩
      have s3 := same_upd nq (o := .met A.Run_give a)
      have e : m.proceed c p = ((m.setRest p rs).give p r, true) := by unfold M.proceed; rw [hre]
      rw [e] at q
      refine ⟨_, rfl, _, rfl, pn, _, rfl, .inr (SqL.of (s3 _ _ upd_same)), upd_same, c, mv, a, _, _, S2, p, r, own, rfl, P3.same s3, B3, hp, hr1, ho, fun F5 S5 H5 s5 X5 P5 => ?_⟩
      exact q _ _ _ (u1.trans s5) (X2.trans X5) P5
    | rouse x =>
      simp only [insD] at eid
      injection eid with eid; injection eid with ew ed; injection ew with ew
      subst ew; subst ed
      obtain ⟨v1, r1, rfl, d1, hdn2⟩ := dpa_consI hdn
      obtain rfl := dpa_nilI hdn2
      obtain rfl := dp_intI d1
      rw [hre] at hh
      refine mN (by decide) (mN (by decide) (mN (by decide) (mN (by decide) (mN (by decide) (mN (by decide) (mN (by decide) (mN (by decide) (mY rfl ?_))))))))
      refine ⟨_, rfl, _, _, _, _, rfl, h1, rfl, rfl, fun q1 nq => ?_⟩
      have s3 := same_upd nq (o := .met A.Run_rouse a)
      have e : m.proceed c p = ((m.setRest p rs).rouse p x, true) := by unfold M.proceed; rw [hre]
      rw [e] at q
      refine ⟨_, rfl, _, rfl, pn, _, rfl, .inr (SqL.of (s3 _ _ upd_same)), upd_same, c, mv, a, _, _, S2, p, x, rfl, P3.same s3, B3, hp, hh, fun F5 S5 H5 s5 X5 P5 => ?_⟩
      exact q _ _ _ (u1.trans s5) (X2.trans X5) P5
    | rep n bd =>
      simp only [insD] at eid
      injection eid with eid; injection eid with ew ed; injection ew with ew
      subst ew; subst ed
      obtain ⟨v1, r1, rfl, d1, hdn2⟩ := dpa_consI hdn
      obtain ⟨v2, r2, rfl, d2, hdn3⟩ := dpa_consI hdn2
      obtain rfl := dpa_nilI hdn3
      obtain rfl := dp_intI d1
      rw [hre] at hh
      obtain ⟨ab, bx, rfl, hab, hbx⟩ := dp_tupI d2
      refine mN (by decide) (mN (by decide) (mN (by decide) (mN (by decide) (mN (by decide) (mN (by decide) (mN (by decide) (mN (by decide) (mN (by decide) (mN (by decide) (mY rfl ?_))))))))))
      refine ⟨_, rfl, _, _, _, _, rfl, h1, rfl, rfl, fun q1 nq => ?_⟩
      have s3 := same_upd nq (o := .met A.Run_unfold a)
      have ers : (m.setRest p rs).rests p = rs := upf_same _ _ _
      refine ⟨_, rfl, _, rfl, pn, _, rfl, .inr (SqL.of (s3 _ _ upd_same)), upd_same, c, mv, a, _, _, S2, p, n, bd, ab, rfl, P3.same s3, hp, dp_same u1 d2, hh, by rw [ers]; rw [List.length_cons] at hrl; omega, fun hn => ?_, fun k hn F5 S5 H5 s5 X5 P5 => ?_⟩
      · subst hn
        have e : m.proceed c p = (m.setRest p rs, true) := by unfold M.proceed; rw [hre]
        rw [e] at q
        exact q _ _ _ u1 X2 (P3.same s3)
      · subst hn
        have e : m.proceed c p = (m.setRest p (bd ++ (if k = 0 then [] else [.rep k bd]) ++ rs), true) := by unfold M.proceed; rw [hre]
        rw [e] at q
        rw [ers] at P5
        have e2 : (m.setRest p rs).setRest p (bd ++ (if k = 0 then [] else [.rep k bd]) ++ rs) = m.setRest p (bd ++ (if k = 0 then [] else [.rep k bd]) ++ rs) := by unfold M.setRest; rw [upf_upf]
        rw [e2] at P5
        exact q _ _ _ (u1.trans s5) (X2.trans X5) P5
    | fev bd =>
      simp only [insD] at eid
      injection eid with eid; injection eid with ew ed; injection ew with ew
      subst ew; subst ed
      obtain ⟨v1, r1, rfl, d1, hdn2⟩ := dpa_consI hdn
      obtain rfl := dpa_nilI hdn2
      rw [hre] at hh
      obtain ⟨ab, bx, rfl, hab, hbx⟩ := dp_tupI d1
      have hbl : bx.length = bd.length := by rw [dpa_length hbx, insDs_len]
      have hh : bd.length ≤ 3900 := hh
      refine mN (by decide) (mN (by decide) (mN (by decide) (mN (by decide) (mN (by decide) (mN (by decide) (mN (by decide) (mN (by decide) (mN (by decide) (mN (by decide) (mN (by decide) ?_))))))))))
      have e : m.proceed c p = ({ m.setRest p (bd ++ [.fev bd]) with npass := m.npass + 1 }, true) := by unfold M.proceed; rw [hre]
      rw [e] at q
      have P3 := P2.frz nn (.lst [V.ref ab])
      have u3 := P2.up nn (.lst [V.ref ab])
      obtain ⟨px, epa, hpx⟩ := P3.rp.pa
      have hnp : m.npass ≤ 3900 := B.np
      have hpx : px.length = m.npass := hpx
      refine ⟨_, rfl, _, _, _, _, _, rfl, h1, T.c_Run, T.n_Run_passes, rfl, .inl ⟨rfl, _, SqL.of (P3.ok.liv _ _ epa)⟩, _, rfl, _, _, _, _, _, rfl, h1, T.c_Run, T.n_Run_clock, rfl, _, rfl, (by show 2 ≤ sizeLine; omega), fun e4 n4 => ?_⟩
      have P4 := P3.frz n4 (.tup [V.int m.clock, V.int p])
      have u4 := P3.up n4 (.tup [V.int m.clock, V.int p])
      refine ⟨_, _, _, rfl, rfl, P4.ok.liv _ _ epa, sz3 (by omega), ?_⟩
      obtain ⟨S5, P5, X5⟩ := P4.addPa epa hpx (.ref e4)
      obtain ⟨dx, rem, o1, o2, o3, o4, o5, er, h1⟩ := P5.run
      obtain ⟨g, es5, ds5⟩ := P5.rp.re
      have U := u1.trans (u3.trans u4)
      refine ⟨_, rfl, pn, _, _, _, rfl, rfl, SqL.of (P5.ok.sm _ _ (u4 _ _ upd_same)), at0, ab, bx, rfl, .inl (same_T (U.trans P5.ok.sm) hab), _, rfl, rb, _, _, _, efr, rfl, same_T (U.trans P5.ok.sm) hrs, at0, (by simp only [List.length_append, List.length_cons, List.length_nil]; omega), fun e6 n6 => ?_⟩
      have P6 := P5.frz n6 (.tup (bx ++ [V.ref b]))
      have u6 := P5.up n6 (.tup (bx ++ [V.ref b]))
      obtain ⟨dx, rem, o1, o2, o3, o4, o5, er, h1⟩ := P6.run
      refine ⟨_, rfl, _, _, _, _, _, rfl, h1, T.c_Run, T.n_Run_rests, rfl, _, rfl, _, _, _, p, rfl, rfl, P6.ok.liv _ _ es5, tab_ix hp, ?_⟩
      have di2 : Dp K F (.ref b) (insD (.fev bd)) := di
      obtain ⟨S7, P7, X7⟩ := P6.setRe es5 (fun q hq => dp_same u6 (ds5 q hq)) (p := p) (v := .ref e6) (l := bd ++ [.fev bd]) (.tup (SqT.of upd_same) (by
        have ei : insDs (bd ++ [.fev bd]) = insDs bd ++ [insD (.fev bd)] := by rw [insDs_append]; simp only [insDs]
        rw [ei]
        exact dpa_append (dpa_same (U.trans u6) hbx) (.cons (dp_same (U.trans u6) di2) .nil)))
      have e2 : ({ m.setRest p rs with npass := (m.setRest p rs).npass + 1 } : M).setRest p (bd ++ [.fev bd]) = { m.setRest p (bd ++ [.fev bd]) with npass := m.npass + 1 } := by
        unfold M.setRest
        rw [upf_upf]
      rw [e2] at P7
      exact q _ _ _ (U.trans u6) (X2.trans (X5.trans X7)) P7
end Ev
namespace Ev
open PySem PySem.Spec PyProof.Rows L2
variable {w : World} {K : PySem.W.Frag} {mg : Str → Option Value} {base : Heap} {A : Adr}

theorem Good.agL {c : Cfg} {a : Option Nat} {m : M} (g : Good c a m) : m.agenda.length ≤ 4 := by
  have h : ∀ (n : Nat) (l : List Ent), (∀ e ∈ l, e.2.2 < n) → (∀ p, p < n → ents l p ≤ 1) → l.length ≤ n := by
    intro n
    induction n with
    | zero => intro l h1 _; cases l with
      | nil => exact Nat.le_refl _
      | cons e l => exact absurd (h1 e (List.mem_cons_self ..)) (Nat.not_lt_zero _)
    | succ n ih =>
      intro l h1 h2
      have h3 := ih (l.filter fun e => e.2.2 != n) (fun e he => by
        have := h1 e (List.mem_filter.mp he).1
        have h4 := (List.mem_filter.mp he).2
        have : e.2.2 ≠ n := by simpa using h4
        omega) (fun p hp => Nat.le_trans (ents_filter_le _ _ _) (h2 p (by omega)))
      have h4 := h2 n (Nat.lt_succ_self n)
      have h5 : l.length = (l.filter fun e => e.2.2 != n).length + ents l n := by
        clear h1 h2 h3 h4
        induction l with
        | nil => rfl
        | cons e l ih2 =>
          unfold ents at ih2 ⊢
          rw [List.countP_cons, List.filter_cons, List.length_cons]
          by_cases q : e.2.2 = n <;> simp [q] <;> omega
      omega
  have := h c.n m.agenda (fun e he => (g.ga.agP e he).1) (fun p hp => Nat.le_trans (g.ga.agC p hp) (by unfold allow queued; split <;> (try split) <;> omega))
  have := g.nLe
  omega
theorem Good.pre {c : Cfg} {a : Option Nat} {m : M} (g : Good c a m) : Pre c m := by
  have h1 := g.gc.pot
  have h2 := g.gc.pas
  exact ⟨g.nLe, by have := g.agL; omega, by omega, by omega, fun r hr => by have := g.gc.rqL r hr; omega, fun r hr => (g.gb.lin r hr).num, fun r hr q hq => (g.gb.lin r hr).proc q hq⟩
theorem rest_len {nr np : Nat} : ∀ {l : List Ins}, RestOk nr np l → ∀ t, l.length ≤ cost l t + 1
  | _, .nil, _ => by simp
  | _, .fev _, _ => by simp
  | _, .cons (i := i) (l := l) h1 h2, t => by
    have h := rest_len h2 (t + pwI i)
    rw [cost_cons (ne_fev h1), List.length_cons]
    have : 1 ≤ wI i := by
      cases i with
      | fev b => rw [insOk_nofev] at h1; cases h1
      | _ => simp only [wI]; omega
    omega
theorem ins_lay {nr np : Nat} : ∀ (f : Nat) (i : Ins), insOk nr np f i = true → (insD i).canLay0 = true ∧ (insD i).depth ≤ 2 * f + 1 := by
  intro f
  induction f with
  | zero =>
    intro i h
    cases i with
    | rep n b => cases h
    | fev b => cases h
    | _ => simp only [insD, PyData.canLay0, PyData.canLayAll0, PyData.depth, PyData.depthAll, Bool.and_true, Bool.true_and]; exact ⟨by decide +kernel, by decide⟩
  | succ f ih =>
    intro i h
    cases i with
    | fev b => cases h
    | rep n b =>
      have h2 : b.all (insOk nr np f) = true := ((Bool.and_eq_true _ _).mp h).2
      have h3 : ∀ l : List Ins, l.all (insOk nr np f) = true → PyData.canLayAll0 (insDs l) = true ∧ PyData.depthAll (insDs l) ≤ 2 * f + 1 := by
        intro l
        induction l with
        | nil => intro _; simp only [insDs, PyData.canLayAll0, PyData.depthAll]; exact ⟨trivial, by omega⟩
        | cons x l ihl =>
          intro hl
          rw [List.all_cons, Bool.and_eq_true] at hl
          obtain ⟨a1, a2⟩ := ih x hl.1
          obtain ⟨b1, b2⟩ := ihl hl.2
          simp only [insDs, PyData.canLayAll0, PyData.depthAll, a1, b1, Bool.and_true]
          exact ⟨trivial, by omega⟩
      obtain ⟨a1, a2⟩ := h3 b h2
      simp only [insD, PyData.canLay0, PyData.canLayAll0, PyData.depth, PyData.depthAll, a1, Bool.and_true, Bool.true_and]
      exact ⟨by decide +kernel, by omega⟩
    | _ => simp only [insD, PyData.canLay0, PyData.canLayAll0, PyData.depth, PyData.depthAll, Bool.and_true, Bool.true_and]; exact ⟨by decide +kernel, by omega⟩
theorem all_lay {nr np f : Nat} : ∀ l : List Ins, l.all (insOk nr np f) = true → PyData.canLayAll0 (insDs l) = true ∧ PyData.depthAll (insDs l) ≤ 2 * f + 1
  | [], _ => by simp only [insDs, PyData.canLayAll0, PyData.depthAll]; exact ⟨trivial, by omega⟩
  | x :: l, h => by
    rw [List.all_cons, Bool.and_eq_true] at h
    obtain ⟨a1, a2⟩ := ins_lay f x h.1
    obtain ⟨b1, b2⟩ := all_lay l h.2
    simp only [insDs, PyData.canLayAll0, PyData.depthAll, a1, b1, Bool.and_true]
    exact ⟨trivial, by omega⟩
theorem rest_lay {nr np : Nat} : ∀ {l : List Ins}, RestOk nr np l → PyData.canLayAll0 (insDs l) = true ∧ PyData.depthAll (insDs l) ≤ 7
  | _, .nil => by simp only [insDs, PyData.canLayAll0, PyData.depthAll]; exact ⟨trivial, by omega⟩
  | _, .fev (b := b) h => by
    obtain ⟨a1, a2⟩ := all_lay b h.1
    simp only [insDs, insD, PyData.canLay0, PyData.canLayAll0, PyData.depth, PyData.depthAll, a1, Bool.and_true]
    exact ⟨by decide +kernel, by omega⟩
  | _, .cons (i := i) (l := l) h1 h2 => by
    obtain ⟨a1, a2⟩ := ins_lay 3 i h1
    obtain ⟨b1, b2⟩ := rest_lay h2
    simp only [insDs, PyData.canLayAll0, PyData.depthAll, a1, b1, Bool.and_true]
    exact ⟨trivial, by omega⟩
theorem rest_shaped {nr np : Nat} {l : List Ins} (h : RestOk nr np l) : SeqAt.shaped (restD l) = true := by
  obtain ⟨a1, a2⟩ := rest_lay h
  refine (Bool.and_eq_true _ _).mpr ⟨?_, decide_eq_true ?_⟩
  · unfold restD; simp only [PyData.canLay0]; exact a1
  · unfold restD; simp only [PyData.depth]; omega
theorem wL_ge {nr np f : Nat} : ∀ {b : List Ins}, b.all (insOk nr np f) = true → b.length ≤ wL b
  | [], _ => Nat.le_refl _
  | x :: b, h => by
    rw [List.all_cons, Bool.and_eq_true] at h
    have h2 := wL_ge h.2
    simp only [wL, List.length_cons]
    have : 1 ≤ wI x := by
      cases x with
      | fev b => rw [insOk_nofev] at h; cases h.1
      | _ => simp only [wI]; omega
    omega
theorem Good.head {c : Cfg} {p : Nat} {m : M} (g : Good c (some p) m) : HeadOk c m p := by
  obtain ⟨hp, hst, hta⟩ := g.ga.act p rfl
  have hck := g.ga.clk
  have hrest := g.gb.rst p hp
  have h1 := g.gc.pot
  have h2 : m.pot p ≤ sumTo m.pot c.n := sumTo_mem hp
  have h3 : m.pot p = cost (m.rests p) (m.tau p) := by show potOf (m.states p) _ _ = _; rw [hst]; rfl
  have h4 := rest_len hrest (m.tau p)
  refine ⟨by omega, rest_shaped hrest, ?_⟩
  cases hre : m.rests p with
  | nil => trivial
  | cons i rs =>
    rw [hre] at hrest h3
    cases i with
    | fev b =>
      obtain ⟨_, hf⟩ := hrest.fev_nil
      have h5 := wL_ge hf.1
      have h6 : cost (.fev b :: rs) (m.tau p) = (61 - m.tau p) * (wL b + 1) := rfl
      have h7 : 1 * (wL b + 1) ≤ (61 - m.tau p) * (wL b + 1) := Nat.mul_le_mul_right _ (by omega)
      show b.length ≤ 3900
      omega
    | wait d => trivial
    | take r k =>
      obtain ⟨hi, _⟩ := hrest.tail (by intro b e; cases e)
      have : (decide (r < c.nr) && decide (k ≤ 9)) = true := hi
      exact of_decide_eq_true ((Bool.and_eq_true _ _).mp this).1
    | give r =>
      obtain ⟨hi, _⟩ := hrest.tail (by intro b e; cases e)
      have hr : r < c.nr := of_decide_eq_true (show decide (r < c.nr) = true from hi)
      refine ⟨hr, lastOf_some ?_ ?_⟩
      · have h5 := g.gb.bal p hp r hr
        rw [hre] at h5
        simp only [runC, runI, if_pos rfl] at h5
        cases ho : own (m.reqs r) p with
        | zero => rw [ho] at h5; simp at h5
        | succ n => omega
      · have h5 := g.gb.jw p hp
        rw [hst] at h5
        have h6 : idle (m.reqs r) p ≤ sumTo (fun r => idle (m.reqs r) p) c.nr := sumTo_mem (f := fun r => idle (m.reqs r) p) hr
        have h7 : waits .ready = 0 := rfl
        omega
    | rouse x =>
      obtain ⟨hi, _⟩ := hrest.tail (by intro b e; cases e)
      exact of_decide_eq_true (show decide (x < c.n) = true from hi)
    | rep n b =>
      obtain ⟨hi, _⟩ := hrest.tail (by intro b e; cases e)
      have : (decide (n ≤ 5) && (!b.isEmpty && decide (b.length ≤ 100)) && b.all (insOk c.nr c.n 2)) = true := hi
      simp only [Bool.and_eq_true, decide_eq_true_eq] at this
      show b.length ≤ 3900
      omega
def stN : Sts → Str
  | .ready => "ready" | .asleep => "asleep" | .susp _ _ => "suspended" | .wants _ => "wants" | .fin => "finished"
theorem stsN {H : Hp} {v : V} {s : Sts} (h : Dp K H v (stsD s)) : ∃ b xs, v = .ref b ∧ SqT K H b (.str (stN s) :: xs) := by
  have e : ∃ ds, stsD s = .tuple (.str (stN s) :: ds) := by cases s <;> exact ⟨_, rfl⟩
  obtain ⟨ds, e⟩ := e
  rw [e] at h
  obtain ⟨b, xs, rfl, hs, hx⟩ := dp_tupI h
  obtain ⟨v1, r, rfl, h1, hx2⟩ := dpa_consI hx
  obtain rfl := dp_strI h1
  exact ⟨b, r, rfl, hs⟩
theorem stN_asleep (s : Sts) : decide (stN s = "asleep") = decide (s = .asleep) := by
  cases s with
  | asleep => rfl
  | _ => exact decide_eq_decide.mpr ⟨fun h => absurd h (by show ¬ (Str.ofString _ = Str.ofString _); decide), fun h => by cases h⟩
theorem ent_shaped (e : Ent) : SeqAt.shaped (entD e) = true := by
  refine (Bool.and_eq_true _ _).mpr ⟨?_, decide_eq_true ?_⟩
  · simp only [entD, PyData.canLay0, PyData.canLayAll0, Bool.and_true]
  · simp only [entD, PyData.depth, PyData.depthAll]; omega
theorem ent_eqv (a b : Ent) : PyData.eqv (entD a) (entD b) = decide (a = b) := by
  obtain ⟨x, y, z⟩ := a
  obtain ⟨x', y', z'⟩ := b
  simp only [entD, PyData.eqv, PyData.eqvAll, Bool.and_true]
  rw [Bool.eq_iff_iff]
  simp only [Bool.and_eq_true, beq_iff_eq, decide_eq_true_eq, Prod.mk.injEq]
  omega
def sp_Run_step (K : PySem.W.Frag) (A : Adr) : Sp0 := fun vs H Q => ∃ (c : Cfg) (mv : V) (a : Addr) (m : M) (F : Hp) (S : Sto) (e : Ent) (k : Nat) (m' : M), vs = [.ref a] ∧ PAt K A c mv a m F S H ∧ Good c none m ∧ minEnt m.agenda = some e ∧ e.1 ≤ 60 ∧ Act c e.2.2 k (m.enter e) m' ∧
  ∀ F' S' H', Same F F' → Fix mvP S S' → PAt K A c mv a m' F' S' H' → Q .non H'
/-- Run.step -/
theorem ok_Run_step (T : Txt K mg w A) : Fn PP w K mg base 7 A.Run_step (sp_Run_step K A) := by
  refine T.d_Run_step.go sc_Run_step fun cdv Ar outer s H vs Q hr h => ?_
  have nd := sc_Run_step.nd
  obtain ⟨c, mv, a, m, F, S, e, k, m', rfl, P, g, hm, h60, hact, q⟩ := h
  refine ⟨_, (pss_cons (ps_set (i := 1) nd rfl (Or.inr rfl) (pe_callB (cr_minE rfl hr.hu) (by rfl) T.b_min (by decide +kernel) (pa_cons (fldK K (pv 0) rfl) pa_nil)))
      (pss_cons (sFldK K (pv 0) (pe_lc (own := [("entry", 4)]) (g := gName 4) (tt := _) rfl nd (pi_list (fldK K (pv 0) rfl)) (blkOk_by (own := [("entry", 4)]) (N := N_Run_step) (sc := defScope s_Run_step) (by decide +kernel))
        (fun _ _ _ _ _ => (pg_name (i := 4) nd rfl (Or.inl rfl))) (fun _ _ _ _ _ => (pts_one (pt_cm (opNeD K hr.hu) (pv 4) (pv 1))))
        (fun _ _ _ _ _ => (pv 4))) rfl)
      (pss_cons (ps_asg (pv 1) (pgT K (n := 3) rfl (pgs_cons (pgFld K (pv 0)) (pgs_cons (pg_name (i := 2) nd rfl (Or.inl rfl)) (pgs_cons (pg_name (i := 3) nd rfl (Or.inl rfl)) pgs_nil)))))
      (pss_cons (sFldK K (pv 0) (pe_op op_add (fldK K (pv 0) rfl) pe_int) rfl)
      (pss_cons (ps_if (pt_cm op_eq (pe_ix (ixT K) (pe_ix (ixL K) (fldK K (pv 0) rfl) (pv 3) (fun _ _ => rfl)) pe_int (fun _ _ => rfl)) (pe_gl (by rfl) T.g_ASLEEP))
        (pss_one (ps_expr (pe_m (pv 0) T.mRun_tell (ok_Run_tell T) (hr.mono (by decide)) T.d_Run_tell.kp (pa_cons (pv 3) (pa_cons pe_str pa_nil)))))
        pss_nil)
      (pss_cons (ps_asg (pe_gl (by rfl) T.g_READY) (pg_sub (fldK K (pv 0) rfl) (pv 3) set_list (fun _ => rfl)))
      (pss_one (ps_while PassesOwn.never (pt_cm (opEqD K hr.hu) (pe_ix (ixL K) (fldK K (pv 0) rfl) (pv 3) (fun _ _ => rfl)) (pe_gl (by rfl) T.g_READY))
        (pss_one (ps_if (pt_not (pt_val (pe_m (pv 0) T.mRun_proceed (ok_Run_proceed T) (hr.mono (by decide)) T.d_Run_proceed.kp (pa_cons (pv 3) pa_nil))))
          (pss_one ps_break)
          pss_nil)))))))))), ?_⟩
  have B := g.pre
  have hag := B.ag
  have hlg := B.lg
  have gE := (g.enter hm h60).1
  have hp := gE.ga.act _ rfl
  have hpn := hp.1
  obtain ⟨dx, rem, o1, o2, o3, o4, o5, er, h1⟩ := P.run
  obtain ⟨xs, ea, ga⟩ := P.rp.ag
  have hl := P.ok.liv _ _ ea
  obtain ⟨e0, l0, hag0⟩ : ∃ e0 l0, m.agenda = e0 :: l0 := by
    cases hq : m.agenda with
    | nil => rw [hq] at hm; cases hm
    | cons e0 l0 => exact ⟨e0, l0, rfl⟩
  refine ⟨_, rfl, _, _, _, _, _, rfl, h1, T.c_Run, T.n_Run_agenda, rfl, _, _, e0, l0, rfl, SqL.of hl, dpa_same P.ok.sm (hag0 ▸ ga.dpa), fun i v hi hmi => ?_⟩
  have hie : m.agenda[i]? = some e := by rw [hag0]; rw [hag0] at hm; exact hmi.symm.trans hm
  have dv := ga.get hi hie
  obtain ⟨fb, rfl, hfb⟩ := entI dv
  have gl := ga.len
  obtain ⟨zs, rfl, ez, dz⟩ := ga
  refine ⟨_, rfl, _, _, _, _, _, rfl, h1, T.c_Run, T.n_Run_agenda, rfl, _, rfl, ⟨_, SqL.of hl⟩, fun D nD => lc_L (l := zs) (h := (·.1)) (fun z => z.2 != e) (·.1) nD (SqL.of hl) (Nat.le_of_lt (sz3 (by rw [List.length_map] at gl; omega))) (fun z hz' H1 s1 Y N hY hN => ?_) fun H1 s1 eD => ?_⟩
  · refine ⟨rfl, _, rfl, _, rfl, entD z.2, entD e, dp_same (P.ok.sm.trans s1) (dz z hz'), dp_same (P.ok.sm.trans s1) dv, ent_shaped _, ent_shaped _, _, rfl, ?_⟩
    rw [ent_eqv]
    refine ifB (fun hb => ⟨_, rfl, hY ?_ _ (Same.refl _)⟩) fun hb => hN ?_ _ (Same.refl _)
    · simpa using hb
    · simpa using hb
  obtain ⟨S2, P2, X2⟩ := P.newAg er s1 nD eD (ez ▸ AgR.filter dz fun x => x != e)
  have h1 := s1 _ _ h1
  refine ⟨_, rfl, _, _, _, _, rfl, h1, T.c_Run, T.n_Run_agenda, (by show 18 < 1000; decide), ?_⟩
  obtain ⟨dx, rem, o1, o2, o3, o4, o5, er, h1⟩ := P2.run
  refine ⟨_, rfl, fb, _, rfl, same_T P2.ok.sm hfb, rfl, _, _, rfl, _, rfl, _, _, _, _, rfl, h1, T.c_Run, T.n_Run_clock, (by show 18 < 1000; decide), ?_⟩
  obtain ⟨S3, P3, X3⟩ := P2.setClock er e.1
  refine ⟨_, _, rfl, _, _, rfl, rfl, ?_⟩
  obtain ⟨dx, rem, o1, o2, o3, o4, o5, er, h1⟩ := P3.run
  refine ⟨_, rfl, _, _, _, _, _, rfl, h1, T.c_Run, T.n_Run_removed, rfl, _, _, rfl, rfl, _, rfl, _, _, _, _, rfl, h1, T.c_Run, T.n_Run_removed, (by show 18 < 1000; decide), ?_⟩
  obtain ⟨S4, P4, X4⟩ := P3.setRem er (rem + 1)
  obtain ⟨dx, rem, o1, o2, o3, o4, o5, er, h1⟩ := P4.run
  obtain ⟨f, es, ds⟩ := P4.rp.st
  obtain ⟨sb, sx, hsb, hss⟩ := stsN (ds e.2.2 hpn)
  refine ⟨_, rfl, _, _, _, _, _, rfl, h1, T.c_Run, T.n_Run_states, rfl, _, rfl, _, _, _, _, rfl, rfl, SqL.of (P4.ok.liv _ _ es), tab_at hpn, _, _, _, _, hsb, rfl, same_T P4.ok.sm hss, at0, rfl, _, rfl, ?_⟩
  rw [dstr, stN_asleep]
  have X24 := X2.trans (X3.trans X4)
  refine ifB (fun hb => ?_) fun hb => ?_
  · have hsl : m.states e.2.2 = .asleep := of_decide_eq_true hb
    refine ⟨_, rfl, _, _, _, _, rfl, h1, rfl, rfl, _, rfl, c, mv, a, _, F, S4, e.2.2, .wake, [], rfl, P4, by show m.log.length ≤ 4000; omega, Nat.zero_le _, fun F5 S5 H5 s5 X5 _ P5 => ?_⟩
    have een : m.enter e = (({ m with agenda := m.agenda.filter (· != e), clock := e.1 } : M).tell e.2.2 .wake []).setSt e.2.2 .ready := by
      unfold M.enter
      dsimp only
      rw [if_pos hsl]
    obtain ⟨dx, rem, o1, o2, o3, o4, o5, er, h1⟩ := P5.run
    obtain ⟨f5, es5, ds5⟩ := P5.rp.st
    refine ⟨_, rfl, _, _, _, _, _, rfl, h1, T.c_Run, T.n_Run_states, rfl, _, rfl, _, _, _, e.2.2, rfl, rfl, P5.ok.liv _ _ es5, tab_ix hpn, ?_⟩
    obtain ⟨S6, P6, X6⟩ := P5.setSt es5 ds5 (p := e.2.2) (v := .ref A.READY) (s := .ready) (T.tREADY _)
    rw [← een] at P6
    refine ⟨fun j σ H2 => ∃ mm F2 S2, PAt K A c mv a mm F2 S2 H2 ∧ Same F F2 ∧ Fix mvP S S2 ∧ Good c (some e.2.2) mm ∧ Act c e.2.2 j mm m' ∧ σ = [some (.ref a), some (.ref fb), some (.int e.2.1), some (.int e.2.2), none], ⟨k, _, _, S6, P6, s5, (X24.trans X5).trans X6, gE, hact, rfl⟩, ?_⟩
    rintro j σ H2 ⟨mm, F2, S2, P7, sF, XF, gm, am, rfl⟩
    obtain ⟨dx, rem, o1, o2, o3, o4, o5, er, h1⟩ := P7.run
    obtain ⟨f7, es7, ds7⟩ := P7.rp.st
    have hrd := (gm.ga.act _ rfl).2.1
    have d7 := ds7 e.2.2 hpn
    rw [hrd] at d7
    refine ⟨_, rfl, _, _, _, _, _, rfl, h1, T.c_Run, T.n_Run_states, rfl, _, rfl, _, _, _, _, rfl, rfl, SqL.of (P7.ok.liv _ _ es7), tab_at hpn, stsD .ready, stsD .ready, dp_same P7.ok.sm d7, T.tREADY _, sts_shaped _, sts_shaped _, _, rfl, ?_⟩
    rw [eqv_sts]
    refine ifB' (by decide) ?_
    cases am with
    | stop hst =>
      refine ⟨fun _ _ => False, fun _ _ h => h.elim, ?_⟩
      refine ⟨_, rfl, _, _, _, _, rfl, h1, rfl, rfl, _, rfl, c, mv, a, mm, F2, S2, e.2.2, rfl, P7, gm.pre, hpn, gm.head, fun F8 S8 H8 s8 X8 P8 => ?_⟩
      rw [hst] at P8 ⊢
      refine ⟨_, rfl, ?_⟩
      exact q _ _ _ (sF.trans s8) (XF.trans X8) P8
    | @go j' _ mm1 _ hgo ham =>
      have g1 := (gm.proceed hgo).1
      rw [if_pos rfl] at g1
      refine ⟨fun σ H3 => ∃ mm F2 S2, PAt K A c mv a mm F2 S2 H3 ∧ Same F F2 ∧ Fix mvP S S2 ∧ Good c (some e.2.2) mm ∧ Act c e.2.2 j' mm m' ∧ σ = [some (.ref a), some (.ref fb), some (.int e.2.1), some (.int e.2.2), none], fun σ' H' h => ⟨j', Nat.lt_succ_self _, h⟩, ?_⟩
      refine ⟨_, rfl, _, _, _, _, rfl, h1, rfl, rfl, _, rfl, c, mv, a, mm, F2, S2, e.2.2, rfl, P7, gm.pre, hpn, gm.head, fun F8 S8 H8 s8 X8 P8 => ?_⟩
      rw [hgo] at P8 ⊢
      refine ⟨_, rfl, ?_⟩
      exact ⟨mm1, F8, S8, P8, sF.trans s8, XF.trans X8, g1, ham, rfl⟩
  · have hsl : ¬ m.states e.2.2 = .asleep := of_decide_eq_false hb
    have een : m.enter e = ({ m with agenda := m.agenda.filter (· != e), clock := e.1 } : M).setSt e.2.2 .ready := by
      unfold M.enter
      dsimp only
      rw [if_neg hsl]
    obtain ⟨dx, rem, o1, o2, o3, o4, o5, er, h1⟩ := P4.run
    obtain ⟨f5, es5, ds5⟩ := P4.rp.st
    refine ⟨_, rfl, _, _, _, _, _, rfl, h1, T.c_Run, T.n_Run_states, rfl, _, rfl, _, _, _, e.2.2, rfl, rfl, P4.ok.liv _ _ es5, tab_ix hpn, ?_⟩
    obtain ⟨S6, P6, X6⟩ := P4.setSt es5 ds5 (p := e.2.2) (v := .ref A.READY) (s := .ready) (T.tREADY _)
    rw [← een] at P6
    refine ⟨fun j σ H2 => ∃ mm F2 S2, PAt K A c mv a mm F2 S2 H2 ∧ Same F F2 ∧ Fix mvP S S2 ∧ Good c (some e.2.2) mm ∧ Act c e.2.2 j mm m' ∧ σ = [some (.ref a), some (.ref fb), some (.int e.2.1), some (.int e.2.2), none], ⟨k, _, _, S6, P6, Same.refl _, (X24).trans X6, gE, hact, rfl⟩, ?_⟩
    rintro j σ H2 ⟨mm, F2, S2, P7, sF, XF, gm, am, rfl⟩
    obtain ⟨dx, rem, o1, o2, o3, o4, o5, er, h1⟩ := P7.run
    obtain ⟨f7, es7, ds7⟩ := P7.rp.st
    have hrd := (gm.ga.act _ rfl).2.1
    have d7 := ds7 e.2.2 hpn
    rw [hrd] at d7
    refine ⟨_, rfl, _, _, _, _, _, rfl, h1, T.c_Run, T.n_Run_states, rfl, _, rfl, _, _, _, _, rfl, rfl, SqL.of (P7.ok.liv _ _ es7), tab_at hpn, stsD .ready, stsD .ready, dp_same P7.ok.sm d7, T.tREADY _, sts_shaped _, sts_shaped _, _, rfl, ?_⟩
    rw [eqv_sts]
    refine ifB' (by decide) ?_
    cases am with
    | stop hst =>
      refine ⟨fun _ _ => False, fun _ _ h => h.elim, ?_⟩
      refine ⟨_, rfl, _, _, _, _, rfl, h1, rfl, rfl, _, rfl, c, mv, a, mm, F2, S2, e.2.2, rfl, P7, gm.pre, hpn, gm.head, fun F8 S8 H8 s8 X8 P8 => ?_⟩
      rw [hst] at P8 ⊢
      refine ⟨_, rfl, ?_⟩
      exact q _ _ _ (sF.trans s8) (XF.trans X8) P8
    | @go j' _ mm1 _ hgo ham =>
      have g1 := (gm.proceed hgo).1
      rw [if_pos rfl] at g1
      refine ⟨fun σ H3 => ∃ mm F2 S2, PAt K A c mv a mm F2 S2 H3 ∧ Same F F2 ∧ Fix mvP S S2 ∧ Good c (some e.2.2) mm ∧ Act c e.2.2 j' mm m' ∧ σ = [some (.ref a), some (.ref fb), some (.int e.2.1), some (.int e.2.2), none], fun σ' H' h => ⟨j', Nat.lt_succ_self _, h⟩, ?_⟩
      refine ⟨_, rfl, _, _, _, _, rfl, h1, rfl, rfl, _, rfl, c, mv, a, mm, F2, S2, e.2.2, rfl, P7, gm.pre, hpn, gm.head, fun F8 S8 H8 s8 X8 P8 => ?_⟩
      rw [hgo] at P8 ⊢
      refine ⟨_, rfl, ?_⟩
      exact ⟨mm1, F8, S8, P8, sF.trans s8, XF.trans X8, g1, ham, rfl⟩
end Ev
namespace Ev
open PySem PySem.Spec PyProof.Rows L2
variable {w : World} {K : PySem.W.Frag} {mg : Str → Option Value} {base : Heap} {A : Adr}

def sp_line_of (K : PySem.W.Frag) (A : Adr) : Sp0 := fun vs H Q => ∃ (b : Bool) (u : Nat), vs = [.str (if b then "preempt" else "rank"), .int u] ∧ 1 ≤ u ∧ u ≤ 3 ∧
  ∀ H' x dx p, Same H H' → H x = none → H p = none → x ≠ p → H' x = some (.ins (lineCl A b) dx [("units", .int u), ("requests", .ref p), ("count", .int 0)]) → H' p = some (.lst []) → Q (.ref x) H'
theorem line_new {H : Hp} {x dx p : Addr} {C : Addr} {fs : List (Str × V)} (nx : H x = none) (nd : H dx = none) (ne : dx ≠ x) (np : (upd (upd H dx (.own x)) x (.ins C dx [])) p = none) :
    Same H (upd (upd (upd (upd H dx (.own x)) x (.ins C dx [])) p (.lst [])) x (.ins C dx fs)) ∧ H p = none ∧ x ≠ p ∧ (upd (upd (upd (upd H dx (.own x)) x (.ins C dx [])) p (.lst [])) x (.ins C dx fs)) p = some (.lst []) := by
  have h1 : p ≠ x := fun z => by rw [z, upd_same] at np; cases np
  have h2 : p ≠ dx := fun z => by rw [z, upd_ne ne, upd_same] at np; cases np
  have h3 : H p = none := by rw [upd_ne h1, upd_ne h2] at np; exact np
  refine ⟨fun b o e => ?_, h3, h1.symm, by rw [upd_ne h1, upd_same]⟩
  rw [upd_ne (ne_of_none e nx), upd_ne (ne_of_none e h3), upd_ne (ne_of_none e nx), upd_ne (ne_of_none e nd)]
  exact e
/-- line_of -/
theorem ok_line_of (T : Txt K mg w A) : Fn PP w K mg base 5 A.line_of (sp_line_of K A) := by
  refine T.d_line_of.go sc_line_of fun cdv Ar outer s H vs Q hr h => ?_
  have nd := sc_line_of.nd
  obtain ⟨b, u, rfl, h1, h3, q⟩ := h
  refine ⟨_, (pss_cons (ps_if (pt_cm (opIn K) (pv 0) (pe_tup (pa_cons pe_str (pa_cons pe_str pa_nil))))
        (pss_one (ps_ret pe_never))
        pss_nil)
      (pss_one (ps_ret (pe_ifExp (pt_cm (opIn K) (pv 0) (pe_tup (pa_cons pe_str (pa_cons pe_str pa_nil)))) (pe_mk T.k_RankLine (ok_Line___init__ T) (hr.mono (by decide)) (by rfl) T.g_RankLine (pa_cons (pv 1) pa_nil)) (pe_mk T.k_PreemptLine (ok_Line___init__ T) (hr.mono (by decide)) (by rfl) T.g_PreemptLine (pa_cons (pv 1) pa_nil)))))), ?_⟩
  refine ⟨_, rfl, (by show 2 ≤ sizeLine; decide), fun e1 n1 => ?_⟩
  have s1 := same_upd n1 (o := .tup [V.str "Line", V.str "fifo"])
  refine ⟨_, _, rfl, .inr (SqT.of upd_same), rfl, rfl, _, rfl, ?_⟩
  refine ifN' (by cases b <;> decide) ?_
  refine ⟨_, rfl, (by show 2 ≤ sizeLine; decide), fun e2 n2 => ?_⟩
  have s2 := same_upd n2 (o := .tup [V.str "RankLine", V.str "rank"])
  refine ⟨_, _, rfl, .inr (SqT.of upd_same), rfl, rfl, _, rfl, ?_⟩
  have s12 := s1.trans s2
  cases b with
  | false =>
    refine ifB' (by decide) ?_
    refine ⟨_, rfl, fun x dx nx nd ne => ?_⟩
    refine ⟨x, dx, A.RankLine, u, rfl, .inl rfl, h1, h3, upd_same, fun p np => ⟨rfl, ?_⟩⟩
    obtain ⟨a1, a2, a3, a4⟩ := line_new (fs := [("units", .int u), ("requests", .ref p), ("count", .int 0)]) nx nd ne np
    exact q _ x dx p (s12.trans a1) (s12.free nx) (s12.free a2) a3 upd_same a4
  | true =>
    refine ifN' (by decide) ?_
    refine ⟨_, rfl, fun x dx nx nd ne => ?_⟩
    refine ⟨x, dx, A.PreemptLine, u, rfl, .inr rfl, h1, h3, upd_same, fun p np => ⟨rfl, ?_⟩⟩
    obtain ⟨a1, a2, a3, a4⟩ := line_new (fs := [("units", .int u), ("requests", .ref p), ("count", .int 0)]) nx nd ne np
    exact q _ x dx p (s12.trans a1) (s12.free nx) (s12.free a2) a3 upd_same a4
end Ev
namespace Ev
open PySem PySem.Spec PyProof.Rows L2
variable {w : World} {K : PySem.W.Frag} {mg : Str → Option Value} {base : Heap} {A : Adr}

theorem SOk.add {F H : Hp} {S : Sto} {r : Role} {p : Addr} {o : HO} (k : SOk F S H) (e0 : H p = some o) (f0 : F p = none) (hn : ∀ x u, x ≠ r → S.ct x = some u → S.ad x ≠ p) : SOk F (S.new r p o) H := by
  refine ⟨k.sm, fun x u e => ?_, fun x u e => ?_, fun x y u v e1 e2 e => ?_⟩
  · by_cases h : x = r
    · subst h; rw [Sto.new_eq] at e; rw [Sto.new_ad_eq, ← e]; exact e0
    · rw [Sto.new_ne _ _ _ h] at e; rw [Sto.new_ad _ _ _ h]; exact k.liv x u e
  · by_cases h : x = r
    · subst h; rw [Sto.new_ad_eq]; exact f0
    · rw [Sto.new_ne _ _ _ h] at e; rw [Sto.new_ad _ _ _ h]; exact k.apart x u e
  · by_cases h : x = r
    · by_cases h2 : y = r
      · rw [h, h2]
      · subst h
        rw [Sto.new_ad_eq, Sto.new_ad _ _ _ h2] at e
        rw [Sto.new_ne _ _ _ h2] at e2
        exact absurd e.symm (hn y v h2 e2)
    · by_cases h2 : y = r
      · subst h2
        rw [Sto.new_ad_eq, Sto.new_ad _ _ _ h] at e
        rw [Sto.new_ne _ _ _ h] at e1
        exact absurd e (hn x u h e1)
      · rw [Sto.new_ad _ _ _ h, Sto.new_ad _ _ _ h2] at e
        rw [Sto.new_ne _ _ _ h] at e1
        rw [Sto.new_ne _ _ _ h2] at e2
        exact k.inj x y u v e1 e2 e
def sp_Run___init__ (K : PySem.W.Frag) (A : Adr) : Sp0 := fun vs H Q => ∃ (c : Cfg) (mv : V) (x dx : Addr) (F : Hp), vs = [.ref x, mv] ∧ Same F H ∧ F x = none ∧ H x = some (.ins A.Run dx []) ∧ Dp K F mv (cfgD c) ∧ Fit c ∧
  ∀ F' S' H', Same F F' → PAt K A c mv x (init c) F' S' H' → Q .non H'
def sto0 (x dx : Addr) (A : Adr) : Sto := ⟨fun _ => x, fun r => if r = .run then some (.ins A.Run dx []) else none⟩
/-- the run under way: its object is told by its fields so far -/
structure Bx (A : Adr) (F : Hp) (S : Sto) (H : Hp) (x dx : Addr) (fs : List (Str × V)) : Prop where
  ok : SOk F S H
  ct : S.ct .run = some (.ins A.Run dx fs)
  ad : S.ad .run = x
section
variable {F H : Hp} {S : Sto} {x dx : Addr} {fs : List (Str × V)}
theorem Bx.hx (b : Bx A F S H x dx fs) : H x = some (.ins A.Run dx fs) := b.ad ▸ b.ok.liv _ _ b.ct
theorem Bx.fld (b : Bx A F S H x dx fs) (f : Str) (v : V) : Bx A F (S.put .run (.ins A.Run dx (putF f v fs))) (upd H x (.ins A.Run dx (putF f v fs))) x dx (putF f v fs) := ⟨b.ad ▸ b.ok.put b.ct _, rfl, b.ad⟩
theorem Bx.new (b : Bx A F S H x dx fs) {p : Addr} (n : H p = none) (o : HO) {r : Role} (hr : r ≠ .run) : Bx A F (S.new r p o) (upd H p o) x dx fs :=
  ⟨b.ok.made n o, (Sto.new_ne _ _ _ hr.symm).trans b.ct, (Sto.new_ad _ _ _ hr.symm).trans b.ad⟩
theorem Bx.same (b : Bx A F S H x dx fs) {H' : Hp} (s : Same H H') : Bx A F S H' x dx fs := ⟨b.ok.same s, b.ct, b.ad⟩
end
theorem Bx.pack {F H : Hp} {S : Sto} {x dx : Addr} {fs : List (Str × V)} (b : Bx A F S H x dx fs) : ∃ S', Bx A F S' H x dx fs ∧ S' = S := ⟨S, b, rfl⟩
theorem tab_succ (n : Nat) (f : Nat → V) : tab (n + 1) f = tab n f ++ [f n] := by unfold tab; rw [List.range_succ, List.map_append]; rfl
theorem rep_tab (n : Nat) (v : V) : (List.replicate ((n : Nat) : Int).toNat [v]).flatten = tab n fun _ => v := by
  have : ((n : Nat) : Int).toNat = n := by omega
  rw [this]
  induction n with
  | zero => rfl
  | succ n ih => rw [tab_succ, ← ih (by omega), List.replicate_succ', List.flatten_append]; rfl
theorem tab_of {n : Nat} {l : List V} (h : l.length = n) : l = tab n fun p => l.getD p .non := by
  apply List.ext_getElem
  · rw [tab_len, h]
  · intro i h1 h2
    simp [tab, List.getD_eq_getElem?_getD, h1]
def keepR : Role → Bool
  | .run => true | .ag => true | .lg => true | .pa => true | .pe => true | _ => false
/-- Run.__init__ -/
theorem ok_Run___init__ (T : Txt K mg w A) : Fn PP w K mg base 6 A.Run___init__ (sp_Run___init__ K A) := by
  refine T.d_Run___init__.go sc_Run___init__ fun cdv Ar outer s H vs Q hr h => ?_
  have nd := sc_Run___init__.nd
  obtain ⟨c, mv, x, dx, F, rfl, sm, fx, hx, dmv, fit, q⟩ := h
  refine ⟨_, (pss_cons (ps_asg (pv 1) (pgT K (n := 4) rfl (pgs_cons (pg_name (i := 2) nd rfl (Or.inl rfl)) (pgs_cons (pg_name (i := 3) nd rfl (Or.inl rfl)) (pgs_cons (pg_name (i := 4) nd rfl (Or.inl rfl)) (pgs_cons (pg_name (i := 5) nd rfl (Or.inl rfl)) pgs_nil))))))
      (pss_cons (ps_set (i := 6) nd rfl (Or.inl rfl) (pe_callB (lenK K) (by rfl) T.b_len (by decide +kernel) (pa_cons (pv 5) pa_nil)))
      (pss_cons (sFldK K (pv 0) (pv 1) rfl)
      (pss_cons (sFldK K (pv 0) pe_int rfl)
      (pss_cons (sFldK K (pv 0) pe_int rfl)
      (pss_cons (sFldK K (pv 0) pe_int rfl)
      (pss_cons (sFldK K (pv 0) (pe_lst pa_nil) rfl)
      (pss_cons (sFldK K (pv 0) (pe_lst pa_nil) rfl)
      (pss_cons (sFldK K (pv 0) (pe_lst pa_nil) rfl)
      (pss_cons (sFldK K (pv 0) (pe_lst pa_nil) rfl)
      (pss_cons (sFldK K (pv 0) (pe_lc (own := [("discipline", 8), ("units", 9)]) (g := _) (tt := tYes) rfl nd (pi_tup (pv 2)) (blkOk_by (own := [("discipline", 8), ("units", 9)]) (N := N_Run___init__) (sc := defScope s_Run___init__) (by decide +kernel))
        (fun _ _ _ _ _ => (pgT K (n := 2) rfl (pgs_cons (pg_name (i := 8) nd rfl (Or.inl rfl)) (pgs_cons (pg_name (i := 9) nd rfl (Or.inl rfl)) pgs_nil)))) (fun _ _ _ _ _ => pts_nil)
        (fun _ _ _ _ _ => (pe_f (ok_line_of T) (hr.mono (by decide)) (by rfl) T.g_line_of T.d_line_of.kp (pa_cons (pv 8) (pa_cons (pv 9) pa_nil))))) rfl)
      (pss_cons (sFldK K (pv 0) (pe_lc (own := [("capacity", 10), ("held", 11)]) (g := _) (tt := tYes) rfl nd (pi_tup (pv 3)) (blkOk_by (own := [("capacity", 10), ("held", 11)]) (N := N_Run___init__) (sc := defScope s_Run___init__) (by decide +kernel))
        (fun _ _ _ _ _ => (pgT K (n := 2) rfl (pgs_cons (pg_name (i := 10) nd rfl (Or.inl rfl)) (pgs_cons (pg_name (i := 11) nd rfl (Or.inl rfl)) pgs_nil)))) (fun _ _ _ _ _ => pts_nil)
        (fun _ _ _ _ _ => (pe_callTy (lstOf K) (by rfl) T.b_list (by decide +kernel) (pa_cons (pv 11) pa_nil)))) rfl)
      (pss_cons (sFldK K (pv 0) (pe_lc (own := [("store", 12)]) (g := gName 12) (tt := tYes) rfl nd (pi_tup (pv 3)) (blkOk_by (own := [("store", 12)]) (N := N_Run___init__) (sc := defScope s_Run___init__) (by decide +kernel))
        (fun _ _ _ _ _ => (pg_name (i := 12) nd rfl (Or.inl rfl))) (fun _ _ _ _ _ => pts_nil)
        (fun _ _ _ _ _ => (pe_lst pa_nil))) rfl)
      (pss_cons (sFldK K (pv 0) (pe_lc (own := [("store", 12)]) (g := gName 12) (tt := tYes) rfl nd (pi_tup (pv 3)) (blkOk_by (own := [("store", 12)]) (N := N_Run___init__) (sc := defScope s_Run___init__) (by decide +kernel))
        (fun _ _ _ _ _ => (pg_name (i := 12) nd rfl (Or.inl rfl))) (fun _ _ _ _ _ => pts_nil)
        (fun _ _ _ _ _ => (pe_lst pa_nil))) rfl)
      (pss_cons (sFldK K (pv 0) (pe_lc (own := [("word", 13)]) (g := gName 13) (tt := tYes) rfl nd (pi_tup (pv 4)) (blkOk_by (own := [("word", 13)]) (N := N_Run___init__) (sc := defScope s_Run___init__) (by decide +kernel))
        (fun _ _ _ _ _ => (pg_name (i := 13) nd rfl (Or.inl rfl))) (fun _ _ _ _ _ => pts_nil)
        (fun _ _ _ _ _ => (pe_cm op_eq (pv 13) pe_str))) rfl)
      (pss_cons (sFldK K (pv 0) (pe_lc (own := [("gate", 14)]) (g := gName 14) (tt := tYes) rfl nd (pi_tup (pv 4)) (blkOk_by (own := [("gate", 14)]) (N := N_Run___init__) (sc := defScope s_Run___init__) (by decide +kernel))
        (fun _ _ _ _ _ => (pg_name (i := 14) nd rfl (Or.inl rfl))) (fun _ _ _ _ _ => pts_nil)
        (fun _ _ _ _ _ => (pe_lst pa_nil))) rfl)
      (pss_cons (sFldK K (pv 0) (pe_op op_rep (pe_lst (pa_cons (pe_gl (by rfl) T.g_READY) pa_nil)) (pv 6)) rfl)
      (pss_cons (sFldK K (pv 0) (pe_callTy (lstOf K) (by rfl) T.b_list (by decide +kernel) (pa_cons (pv 5) pa_nil)) rfl)
      (pss_cons (sFldK K (pv 0) (pe_op op_rep (pe_lst (pa_cons pe_int pa_nil)) (pv 6)) rfl)
      (pss_cons (sFldK K (pv 0) (pe_op op_rep (pe_lst (pa_cons pe_int pa_nil)) (pv 6)) rfl)
      (pss_one (ps_for PassesOwn.never rfl (pi_range1 (by rfl) T.b_range (pa_cons (pv 6) pa_nil)) (pg_name (i := 7) nd rfl (Or.inl rfl))
        (pss_one (ps_expr (pe_m (pv 0) T.mRun_schedule (ok_Run_schedule T) (hr.mono (by decide)) T.d_Run_schedule.kp (pa_cons (pv 7) (pa_cons pe_int pa_nil))))))))))))))))))))))))))), ?_⟩
  have hn4 := fit.nLe
  have hr3 := fit.nrLe
  obtain ⟨b, w1, w2, w3, w4, rfl, hs0, d1, d2, d3, d4⟩ := dp_tup4 dmv
  obtain ⟨b1, rx, rfl, hs1, drx⟩ := dp_tupI d1
  obtain ⟨b2, r2, rfl, hs2, dr2⟩ := dp_tupI d2
  obtain rfl := dpa_nilI dr2
  obtain ⟨b3, r3, rfl, hs3, dr3⟩ := dp_tupI d3
  obtain rfl := dpa_nilI dr3
  obtain ⟨b4, r4, rfl, hs4, dr4⟩ := dp_tupI d4
  have hr4 : r4.length = c.n := by rw [dpa_length dr4, List.length_map]; rfl
  have hrx : rx.length = c.nr := by rw [dpa_length drx, List.length_map]; rfl
  have B0 : Bx A F (sto0 x dx A) H x dx [] := ⟨⟨sm, fun r o e => (by
      by_cases h : r = .run
      · subst h; have e : some (HO.ins A.Run dx []) = some o := e; rw [← e]; exact hx
      · have e : (if r = .run then some (HO.ins A.Run dx []) else none) = some o := e
        rw [if_neg h] at e; cases e), fun _ _ _ => fx, fun r r' o o' e e' _ => (by
      have h1 : r = .run := by
        by_cases h : r = .run
        · exact h
        · have e : (if r = .run then some (HO.ins A.Run dx []) else none) = some o := e
          rw [if_neg h] at e; cases e
      have h2 : r' = .run := by
        by_cases h : r' = .run
        · exact h
        · have e' : (if r' = .run then some (HO.ins A.Run dx []) else none) = some o' := e'
          rw [if_neg h] at e'; cases e'
      rw [h1, h2])⟩, rfl, rfl⟩
  refine ⟨_, rfl, b, _, rfl, same_T sm hs0, rfl, _, _, rfl, _, _, rfl, _, _, rfl, _, _, rfl, rfl, ?_⟩
  refine ⟨_, rfl, b4, _, rfl, .inr (same_T sm hs4), ?_⟩
  rw [hr4]
  refine ⟨_, rfl, _, rfl, _, _, _, _, rfl, B0.hx, T.c_Run, T.n_Run_model, (by decide), ?_⟩
  have B1 := B0.fld "model" (.ref b)
  refine ⟨_, rfl, _, _, _, _, rfl, B1.hx, T.c_Run, T.n_Run_clock, (by show 1 < 1000; decide), ?_⟩
  have B2 := B1.fld "clock" (.int 0)
  refine ⟨_, rfl, _, _, _, _, rfl, B2.hx, T.c_Run, T.n_Run_removed, (by show 2 < 1000; decide), ?_⟩
  have B3 := B2.fld "removed" (.int 0)
  refine ⟨_, rfl, _, _, _, _, rfl, B3.hx, T.c_Run, T.n_Run_numbered, (by show 3 < 1000; decide), ?_⟩
  have B4 := B3.fld "numbered" (.int 0)
  refine ⟨Nat.zero_le _, fun p5 n5 => ⟨_, rfl, _, _, _, _, rfl, (B4.new (r := .ag) n5 (.lst []) (by decide)).hx, T.c_Run, T.n_Run_agenda, (by show 4 < 1000; decide), ?_⟩⟩
  have B5 := (B4.new (r := .ag) n5 (.lst []) (by decide)).fld "agenda" (.ref p5)
  refine ⟨Nat.zero_le _, fun p6 n6 => ⟨_, rfl, _, _, _, _, rfl, (B5.new (r := .lg) n6 (.lst []) (by decide)).hx, T.c_Run, T.n_Run_log, (by show 5 < 1000; decide), ?_⟩⟩
  have B6 := (B5.new (r := .lg) n6 (.lst []) (by decide)).fld "log" (.ref p6)
  refine ⟨Nat.zero_le _, fun p7 n7 => ⟨_, rfl, _, _, _, _, rfl, (B6.new (r := .pa) n7 (.lst []) (by decide)).hx, T.c_Run, T.n_Run_passes, (by show 6 < 1000; decide), ?_⟩⟩
  have B7 := (B6.new (r := .pa) n7 (.lst []) (by decide)).fld "passes" (.ref p7)
  refine ⟨Nat.zero_le _, fun p8 n8 => ⟨_, rfl, _, _, _, _, rfl, (B7.new (r := .pe) n8 (.lst []) (by decide)).hx, T.c_Run, T.n_Run_periods, (by show 7 < 1000; decide), ?_⟩⟩
  have B8 := (B7.new (r := .pe) n8 (.lst []) (by decide)).fld "periods" (.ref p8)
  have B8 : Bx A F _ _ x dx [("model", .ref b), ("clock", .int 0), ("removed", .int 0), ("numbered", .int 0), ("agenda", .ref p5), ("log", .ref p6), ("passes", .ref p7), ("periods", .ref p8)] := B8
  obtain ⟨S8, B8, e8⟩ := B8.pack
  have a5 : S8.ct .ag = some (.lst []) ∧ S8.ad .ag = p5 := e8 ▸ ⟨rfl, rfl⟩
  have a6 : S8.ct .lg = some (.lst []) ∧ S8.ad .lg = p6 := e8 ▸ ⟨rfl, rfl⟩
  have a7 : S8.ct .pa = some (.lst []) ∧ S8.ad .pa = p7 := e8 ▸ ⟨rfl, rfl⟩
  have a8 : S8.ct .pe = some (.lst []) ∧ S8.ad .pe = p8 := e8 ▸ ⟨rfl, rfl⟩
  have a9 : ∀ r n, S8.ct (.req r n) = none := fun r n => e8 ▸ rfl
  clear e8
  have big3 := big3
  refine ⟨_, rfl, b1, rfl, ⟨_, same_T B8.ok.sm hs1⟩, fun D nD => lc_it (walk_tup (xs := rx)) (fun i H => ∃ S2, SOk F S2 H ∧ (∀ r, keepR r = true → S2.ct r = S8.ct r ∧ S2.ad r = S8.ad r) ∧ S2.ct .ln = some (.lst (tab i fun r => .ref (S2.ad (.line r)))) ∧ S2.ad .ln = D ∧
    (∀ r, r < i → ∃ dl, S2.ct (.line r) = some (.ins (lineCl A (c.pre r)) dl (lineFs S2 c (init c) r)) ∧ S2.ct (.rq r) = some (.lst [])) ∧ ∀ r n, S2.ct (.req r n) = none) ?_ (fun i H1 _ h => ?_) ?_ ?_⟩
  · refine ⟨S8.new .ln D (.lst []), B8.ok.made nD _, fun r hr => ?_, rfl, Sto.new_ad_eq _ _ _ _, fun r h => absurd h (Nat.not_lt_zero _), fun r n => (Sto.new_ne _ _ _ (by intro z; cases z)).trans (a9 r n)⟩
    have hn : r ≠ .ln := fun z => by rw [z] at hr; cases hr
    exact ⟨Sto.new_ne _ _ _ hn, Sto.new_ad _ _ _ hn⟩
  · obtain ⟨S2, k2, _⟩ := h
    exact same_T k2.sm hs1
  · rintro i v H1 H2 hi ⟨S2, k2, kp, kln, kad, kl, krq⟩ ⟨rfl, hv⟩
    have hi2 : i < c.nr := hrx ▸ hi
    have hr2 : (c.res.map resD)[i]? = some (resD (c.pre i, c.units i)) := by
      rw [List.getElem?_map, List.getElem?_eq_getElem hi2]
      simp [Cfg.pre, Cfg.units, List.getElem?_eq_getElem hi2]
    obtain ⟨v', hv', dv⟩ := dpa_get drx hr2
    rw [hv] at hv'
    obtain rfl := Option.some.inj hv'
    obtain ⟨rb, rfl, hrb⟩ := res_at dv
    have hun : 1 ≤ c.units i ∧ c.units i ≤ 3 := by
      have := fit.units _ (List.getElem_mem hi2)
      simpa [Cfg.units, List.getElem?_eq_getElem hi2] using this
    refine ⟨_, _, rfl, same_T k2.sm hrb, rfl, _, _, rfl, _, _, rfl, rfl, rfl, ?_⟩
    refine ⟨_, rfl, _, rfl, c.pre i, c.units i, rfl, hun.1, hun.2, fun H3 x3 dx3 p3 s3 nx3 np3 nxp hx3 hp3 => ?_⟩
    have k3 := k2.adopt (r := .line i) s3 nx3 hx3
    have k4 : SOk F ((S2.new (.line i) x3 (.ins (lineCl A (c.pre i)) dx3 [("units", .int (c.units i)), ("requests", .ref p3), ("count", .int 0)])).new (.rq i) p3 (.lst [])) H3 := k3.add hp3 (k2.fresh np3) (fun y u hy e => by
      by_cases z : y = .line i
      · subst z; rw [Sto.new_ad_eq]; exact nxp
      · rw [Sto.new_ne _ _ _ z] at e
        rw [Sto.new_ad _ _ _ z]
        exact k2.ne np3 e)
    have hD := k4.liv .ln _ (((Sto.new_ne _ _ _ (by intro z; cases z)).trans (Sto.new_ne _ _ _ (by intro z; cases z))).trans kln)
    have hadD : ((S2.new (.line i) x3 (.ins (lineCl A (c.pre i)) dx3 [("units", .int (c.units i)), ("requests", .ref p3), ("count", .int 0)])).new (.rq i) p3 (.lst [])).ad .ln = D := ((Sto.new_ad _ _ _ (by intro z; cases z)).trans (Sto.new_ad _ _ _ (by intro z; cases z))).trans kad
    have k5 := k4.put (r := .ln) (((Sto.new_ne _ _ _ (by intro z; cases z)).trans (Sto.new_ne _ _ _ (by intro z; cases z))).trans kln) (.lst (tab i (fun r => V.ref (S2.ad (.line r))) ++ [.ref x3]))
    rw [hadD] at hD k5
    have eAD : ∀ (r' : Role) (o o2 o3 : HO), r' ≠ .rq i → r' ≠ .line i → (((S2.new (.line i) x3 o).new (.rq i) p3 o2).put .ln o3).ad r' = S2.ad r' := fun r' o o2 o3 h1 h2 => (Sto.new_ad (r := .rq i) (x := r') (S2.new (.line i) x3 o) p3 o2 h1).trans (Sto.new_ad S2 x3 o h2)
    refine ⟨_, hD, by rw [tab_len]; omega, _, k5, fun r hr => ?_, ?_, hadD, fun r hr => ?_, fun r n => ?_⟩
    · have hn : r ≠ .ln ∧ r ≠ .rq i ∧ r ≠ .line i := ⟨fun z => (by rw [z] at hr; cases hr), fun z => (by rw [z] at hr; cases hr), fun z => (by rw [z] at hr; cases hr)⟩
      exact ⟨((Sto.put_ne _ _ hn.1).trans ((Sto.new_ne _ _ _ hn.2.1).trans (Sto.new_ne _ _ _ hn.2.2))).trans (kp r hr).1, (eAD r _ _ _ hn.2.1 hn.2.2).trans (kp r hr).2⟩
    · refine (Sto.put_eq _ _ _).trans ?_
      rw [tab_succ]
      have e1 : ∀ o o2 o3 : HO, (((S2.new (.line i) x3 o).new (.rq i) p3 o2).put .ln o3).ad (.line i) = x3 := fun o o2 o3 => (Sto.new_ad (r := .rq i) (x := .line i) (S2.new (.line i) x3 o) p3 o2 (by intro z; cases z)).trans (Sto.new_ad_eq S2 (.line i) x3 o)
      rw [e1]
      congr 3
      refine tab_congr fun r hr => ?_
      have hri : Role.line r ≠ Role.line i := fun z => by injection z with z; omega
      have e4 : ∀ o o2 o3 : HO, (((S2.new (.line i) x3 o).new (.rq i) p3 o2).put .ln o3).ad (.line r) = S2.ad (.line r) := fun o o2 o3 => (Sto.new_ad (r := .rq i) (x := .line r) (S2.new (.line i) x3 o) p3 o2 (by intro z; cases z)).trans (Sto.new_ad S2 x3 o hri)
      rw [e4]
    · have e2 : ∀ o o2 o3 : HO, (((S2.new (.line i) x3 o).new (.rq i) p3 o2).put .ln o3).ad (.rq i) = p3 := fun o o2 o3 => Sto.new_ad_eq (S2.new (.line i) x3 o) (.rq i) p3 o2
      by_cases hri : r = i
      · subst hri
        refine ⟨dx3, ?_, (Sto.put_ne _ _ (by intro z; cases z)).trans (Sto.new_eq _ _ _ _)⟩
        unfold lineFs
        rw [e2]
        exact (Sto.put_ne _ _ (by intro z; cases z)).trans ((Sto.new_ne _ _ _ (by intro z; cases z)).trans (Sto.new_eq _ _ _ _))
      · obtain ⟨dl, h1, h2⟩ := kl r (by omega)
        have hl : Role.line r ≠ Role.line i := fun z => by injection z with z; exact hri z
        have hq : Role.rq r ≠ Role.rq i := fun z => by injection z with z; exact hri z
        refine ⟨dl, ?_, ((Sto.put_ne _ _ (by intro z; cases z)).trans ((Sto.new_ne _ _ _ hq).trans (Sto.new_ne _ _ _ (by intro z; cases z)))).trans h2⟩
        have e3 : ∀ o o2 o3 : HO, (((S2.new (.line i) x3 o).new (.rq i) p3 o2).put .ln o3).ad (.rq r) = S2.ad (.rq r) := fun o o2 o3 => (Sto.new_ad (S2.new (.line i) x3 o) p3 o2 hq).trans (Sto.new_ad S2 x3 o (by intro z; cases z))
        unfold lineFs at h1 ⊢
        rw [e3]
        exact ((Sto.put_ne _ _ (by intro z; cases z)).trans ((Sto.new_ne _ _ _ (by intro z; cases z)).trans (Sto.new_ne _ _ _ hl))).trans h1
    · exact ((Sto.put_ne _ _ (by intro z; cases z)).trans ((Sto.new_ne _ _ _ (by intro z; cases z)).trans (Sto.new_ne _ _ _ (by intro z; cases z)))).trans (krq r n)
  · rintro H9 ⟨S9, k9, kp, kln, kad, kl, krq⟩
    rw [hrx] at kln kl
    have B9 : Bx A F S9 H9 x dx _ := ⟨k9, (kp .run rfl).1.trans B8.ct, (kp .run rfl).2.trans B8.ad⟩
    have hb2 := hs2
    have hb3 := hs3
    refine ⟨_, rfl, _, _, _, _, rfl, B9.hx, T.c_Run, T.n_Run_lines, (by show 8 < 1000; decide), ?_⟩
    have B10 := B9.fld "lines" (.ref D)
    refine ⟨_, rfl, b2, rfl, ⟨_, same_T B10.ok.sm hb2⟩, fun D11 nD11 => lc_T (l := ([] : List Unit)) (h := fun _ => .non) (fun _ => true) (fun _ => .non) nD11 (same_T B10.ok.sm hb2) (Nat.zero_le _) (fun z hz => nomatch hz) fun H11 s11 eD11 => ?_⟩
    refine ⟨_, rfl, _, _, _, _, rfl, (B10.same s11).hx, T.c_Run, T.n_Run_contents, (by show 9 < 1000; decide), ?_⟩
    have B11 := (B10.same s11).fld "contents" (.ref D11)
    refine ⟨_, rfl, b2, rfl, ⟨_, same_T B11.ok.sm hb2⟩, fun D12 nD12 => lc_T (l := ([] : List Unit)) (h := fun _ => .non) (fun _ => true) (fun _ => .non) nD12 (same_T B11.ok.sm hb2) (Nat.zero_le _) (fun z hz => nomatch hz) fun H12 s12 eD12 => ?_⟩
    refine ⟨_, rfl, _, _, _, _, rfl, (B11.same s12).hx, T.c_Run, T.n_Run_getters, (by show 10 < 1000; decide), ?_⟩
    have B12 := (B11.same s12).fld "getters" (.ref D12)
    refine ⟨_, rfl, b2, rfl, ⟨_, same_T B12.ok.sm hb2⟩, fun D13 nD13 => lc_T (l := ([] : List Unit)) (h := fun _ => .non) (fun _ => true) (fun _ => .non) nD13 (same_T B12.ok.sm hb2) (Nat.zero_le _) (fun z hz => nomatch hz) fun H13 s13 eD13 => ?_⟩
    refine ⟨_, rfl, _, _, _, _, rfl, (B12.same s13).hx, T.c_Run, T.n_Run_putters, (by show 11 < 1000; decide), ?_⟩
    have B13 := (B12.same s13).fld "putters" (.ref D13)
    refine ⟨_, rfl, b3, rfl, ⟨_, same_T B13.ok.sm hb3⟩, fun D14 nD14 => lc_T (l := ([] : List Unit)) (h := fun _ => .non) (fun _ => true) (fun _ => .non) nD14 (same_T B13.ok.sm hb3) (Nat.zero_le _) (fun z hz => nomatch hz) fun H14 s14 eD14 => ?_⟩
    refine ⟨_, rfl, _, _, _, _, rfl, (B13.same s14).hx, T.c_Run, T.n_Run_gates, (by show 12 < 1000; decide), ?_⟩
    have B14 := (B13.same s14).fld "gates" (.ref D14)
    refine ⟨_, rfl, b3, rfl, ⟨_, same_T B14.ok.sm hb3⟩, fun D15 nD15 => lc_T (l := ([] : List Unit)) (h := fun _ => .non) (fun _ => true) (fun _ => .non) nD15 (same_T B14.ok.sm hb3) (Nat.zero_le _) (fun z hz => nomatch hz) fun H15 s15 eD15 => ?_⟩
    refine ⟨_, rfl, _, _, _, _, rfl, (B14.same s15).hx, T.c_Run, T.n_Run_passers, (by show 13 < 1000; decide), ?_⟩
    have B15 := (B14.same s15).fld "passers" (.ref D15)
    refine ⟨(by show 1 ≤ sizeLine; omega), fun l16 n16 => ?_⟩
    have B16 := B15.same (same_upd n16 (o := .lst [V.ref A.READY]))
    refine ⟨_, rfl, l16, _, _, rfl, rfl, upd_same, by omega, by omega, by show 1 * ((c.n : Nat) : Int).toNat ≤ sizeLine; omega, fun p16 m16 => ?_⟩
    rw [rep_tab]
    refine ⟨_, rfl, _, _, _, _, rfl, (B16.new (r := .st) m16 (.lst (tab c.n fun _ => .ref A.READY)) (by decide)).hx, T.c_Run, T.n_Run_states, (by show 14 < 1000; decide), ?_⟩
    have B17 := (B16.new (r := .st) m16 (.lst (tab c.n fun _ => .ref A.READY)) (by decide)).fld "states" (.ref p16)
    refine ⟨_, rfl, b4, r4, rfl, .inr (same_T B17.ok.sm hs4), fun p17 m17 => ?_⟩
    refine ⟨_, rfl, _, _, _, _, rfl, (B17.new (r := .re) m17 (.lst r4) (by decide)).hx, T.c_Run, T.n_Run_rests, (by show 15 < 1000; decide), ?_⟩
    have B18 := (B17.new (r := .re) m17 (.lst r4) (by decide)).fld "rests" (.ref p17)
    refine ⟨(by show 1 ≤ sizeLine; omega), fun l19 n19 => ?_⟩
    have B19 := B18.same (same_upd n19 (o := .lst [V.int 0]))
    refine ⟨_, rfl, l19, _, _, rfl, rfl, upd_same, by omega, by omega, by show 1 * ((c.n : Nat) : Int).toNat ≤ sizeLine; omega, fun p19 m19 => ?_⟩
    rw [rep_tab]
    refine ⟨_, rfl, _, _, _, _, rfl, (B19.new (r := .si) m19 (.lst (tab c.n fun _ => .int 0)) (by decide)).hx, T.c_Run, T.n_Run_since, (by show 16 < 1000; decide), ?_⟩
    have B20 := (B19.new (r := .si) m19 (.lst (tab c.n fun _ => .int 0)) (by decide)).fld "since" (.ref p19)
    refine ⟨(by show 1 ≤ sizeLine; omega), fun l21 n21 => ?_⟩
    have B21 := B20.same (same_upd n21 (o := .lst [V.int 0]))
    refine ⟨_, rfl, l21, _, _, rfl, rfl, upd_same, by omega, by omega, by show 1 * ((c.n : Nat) : Int).toNat ≤ sizeLine; omega, fun p21 m21 => ?_⟩
    rw [rep_tab]
    refine ⟨_, rfl, _, _, _, _, rfl, (B21.new (r := .ti) m21 (.lst (tab c.n fun _ => .int 0)) (by decide)).hx, T.c_Run, T.n_Run_until, (by show 17 < 1000; decide), ?_⟩
    have B22 := (B21.new (r := .ti) m21 (.lst (tab c.n fun _ => .int 0)) (by decide)).fld "until" (.ref p21)
    obtain ⟨S22, B22, e22⟩ := B22.pack
    have g : ∀ r, keepR r = true → S9.ct r = S8.ct r ∧ S9.ad r = S8.ad r := kp
    have c_ag : S22.ct .ag = some (.lst []) := e22 ▸ ((g .ag rfl).1.trans a5.1)
    have c_lg : S22.ct .lg = some (.lst []) := e22 ▸ ((g .lg rfl).1.trans a6.1)
    have c_pa : S22.ct .pa = some (.lst []) := e22 ▸ ((g .pa rfl).1.trans a7.1)
    have c_pe : S22.ct .pe = some (.lst []) := e22 ▸ ((g .pe rfl).1.trans a8.1)
    have d_ag : S22.ad .ag = p5 := e22 ▸ ((g .ag rfl).2.trans a5.2)
    have d_lg : S22.ad .lg = p6 := e22 ▸ ((g .lg rfl).2.trans a6.2)
    have d_pa : S22.ad .pa = p7 := e22 ▸ ((g .pa rfl).2.trans a7.2)
    have d_pe : S22.ad .pe = p8 := e22 ▸ ((g .pe rfl).2.trans a8.2)
    have c_ln : S22.ct .ln = some (.lst (tab c.nr fun r => .ref (S22.ad (.line r)))) := by rw [e22]; exact kln
    have d_ln : S22.ad .ln = D := by rw [e22]; exact kad
    have c_st : S22.ct .st = some (.lst (tab c.n fun _ => .ref A.READY)) := e22 ▸ rfl
    have c_re : S22.ct .re = some (.lst r4) := e22 ▸ rfl
    have c_si : S22.ct .si = some (.lst (tab c.n fun _ => .int 0)) := e22 ▸ rfl
    have c_ti : S22.ct .ti = some (.lst (tab c.n fun _ => .int 0)) := e22 ▸ rfl
    have d_st : S22.ad .st = p16 := e22 ▸ rfl
    have d_re : S22.ad .re = p17 := e22 ▸ rfl
    have d_si : S22.ad .si = p19 := e22 ▸ rfl
    have d_ti : S22.ad .ti = p21 := e22 ▸ rfl
    have c_l : ∀ r, r < c.nr → ∃ dl, S22.ct (.line r) = some (.ins (lineCl A (c.pre r)) dl (lineFs S22 c (init c) r)) ∧ S22.ct (.rq r) = some (.lst []) := by rw [e22]; exact kl
    have c_q : ∀ r n, S22.ct (.req r n) = none := by rw [e22]; exact krq
    clear e22
    have hrd : ∀ p, p < c.n → Dp K F (r4.getD p .non) (restD (c.scripts.getD p [])) := fun p hp => by
      have hp2 : (c.scripts.map restD)[p]? = some (restD (c.scripts.getD p [])) := by
        rw [List.getElem?_map, List.getElem?_eq_getElem hp, List.getD_eq_getElem?_getD, List.getElem?_eq_getElem hp]; rfl
      obtain ⟨v, hv, dv⟩ := dpa_get dr4 hp2
      rw [List.getD_eq_getElem?_getD, hv]; exact dv
    have P0 : PAt K A c (.ref b) x { init c with agenda := [], next := 0 } F S22 _ := ⟨B22.ok, ⟨⟨dx, 0, .ref D11, .ref D12, .ref D13, .ref D14, .ref D15, B22.ct.trans (by
      unfold runFs
      rw [d_ag, d_lg, d_pa, d_pe, d_ln, d_st, d_re, d_si, d_ti]
      rfl)⟩, ⟨[], c_ag, [], rfl, rfl, fun z hz => nomatch hz⟩, ⟨[], c_lg, .nil⟩, ⟨[], c_pa, rfl⟩, ⟨0, c_pe, Nat.zero_le _, fun i h => absurd h (Nat.not_lt_zero _)⟩, c_ln, ⟨_, c_st, fun p _ => T.tREADY F⟩, ⟨_, c_re.trans (congrArg (fun l => some (HO.lst l)) (tab_of hr4)), hrd⟩, c_si, c_ti,
      fun r hr => let ⟨dl, h, _⟩ := c_l r hr; ⟨dl, h⟩, fun r hr => let ⟨_, _, h⟩ := c_l r hr; h, fun r hr q hq => (nomatch hq), fun r hr q hq => (nomatch hq), fun r hr n hn => c_q r n, dmv⟩, B22.ad⟩
    refine ⟨_, rfl, _, rfl, by omega, by omega, ?_⟩
    have ejn : ((c.n : Nat) : Int).toNat = c.n := by omega
    rw [ejn]
    refine for_range (lo := 0) (n := c.n) (fun i σ H => ∃ F1 S1 z, PAt K A c (.ref b) x { init c with agenda := entries0 i, next := i } F1 S1 H ∧ Same F F1 ∧ σ = [some (.ref x), some (.ref b), some (.ref b1), some (.ref b2), some (.ref b3), some (.ref b4), some (.int c.n), z, none, none, none, none, none, none, none]) ⟨F, S22, none, P0, Same.refl _, rfl⟩ ?_ ?_
    · rintro i σ H1 hi ⟨F1, S1, z, P1, sF, rfl⟩
      obtain ⟨dx, rem, o1, o2, o3, o4, o5, er, h1⟩ := P1.run
      have eag : ∀ n, (entries0 n).length = n := fun n => by induction n with
        | zero => rfl
        | succ n ih => rw [entries0, List.length_append, ih]; rfl
      have e0 : (0 : Int) + ((i : Nat) : Int) = (i : Nat) := by omega
      refine ⟨_, rfl, _, _, _, _, rfl, by assumption, rfl, rfl, _, rfl, c, .ref b, x, _, F1, S1, i, 0, by rw [e0]; rfl, P1, by show (entries0 i).length ≤ 4000; rw [eag]; omega, fun F2 S2 H2 s2 X2 P2 => ?_⟩
      exact ⟨F2, S2, _, P2, sF.trans s2, rfl⟩
    · rintro σ H1 ⟨F1, S1, z, P1, sF, rfl⟩
      exact q _ _ _ sF P1
end Ev
namespace Ev
open PySem PySem.Spec PyProof.Rows L2
variable {w : World} {K : PySem.W.Frag} {mg : Str → Option Value} {base : Heap} {A : Adr}

theorem act_good {c : Cfg} {p k : Nat} {m m' : M} (h : Act c p k m m') : Good c (some p) m → Good c none m' := by
  induction h with
  | stop h => intro g; have := (g.proceed h).1; rwa [if_neg (by decide)] at this
  | go h _ ih => intro g; have := (g.proceed h).1; rw [if_pos rfl] at this; exact ih this
def sp_trace_of (K : PySem.W.Frag) (A : Adr) : Sp0 := fun vs H Q => ∃ (c : Cfg) (mv : V) (h k : Nat) (mE : M), vs = [mv, .int h] ∧ Dp K H mv (cfgD c) ∧ Fit c ∧ h ≤ 60 ∧ Runs c h k (init c) mE ∧ ∀ t H', Same H H' → Dp K H' (.ref t) (.tuple (mE.log.map evD)) → Q (.ref t) H'
/-- trace_of -/
theorem ok_trace_of (T : Txt K mg w A) : Fn PP w K mg base 8 A.trace_of (sp_trace_of K A) := by
  refine T.d_trace_of.go sc_trace_of fun cdv Ar outer s H vs Q hr h => ?_
  have nd := sc_trace_of.nd
  obtain ⟨c, mv, h, k, mE, rfl, dmv, fit, h60, hrun, q⟩ := h
  refine ⟨_, (pss_cons (ps_set (i := 2) nd rfl (Or.inl rfl) (pe_mk T.k_Run (ok_Run___init__ T) (hr.mono (by decide)) (by rfl) T.g_Run (pa_cons (pv 0) pa_nil)))
      (pss_cons (ps_while PassesOwn.never (PW.pt (pw_and (pt_cm (opNeE K hr.hu) (fldK K (pv 2) rfl) (pe_lst pa_nil)) (pw_and1 (pt_cm op_le (pe_m0 (pv 2) T.mRun_first_time (ok_Run_first_time T) (hr.mono (by decide)) T.d_Run_first_time.kp) (pv 1)))))
        (pss_cons (ps_expr (pe_m0 (pv 2) T.mRun_step (ok_Run_step T) (hr.mono (by decide)) T.d_Run_step.kp))
        (pss_one (ps_if (pt_cm op_gt (pe_callB (lenK K) (by rfl) T.b_len (by decide +kernel) (pa_cons (fldK K (pv 2) rfl) pa_nil)) (pe_gl (by rfl) T.g_MOST_EVENTS))
          (pss_one ps_never)
          pss_nil))))
      (pss_one (ps_ret (pe_callTy (tupOf K) (by rfl) T.b_tuple (by decide +kernel) (pa_cons (fldK K (pv 2) rfl) pa_nil)))))), ?_⟩
  refine ⟨_, rfl, fun x dx nx nd ne => ?_⟩
  have n2 : (upd H dx (.own x)) x = none := (upd_ne ne.symm).trans nx
  have s0 : Same H (upd H dx (.own x)) := same_upd nd
  refine ⟨c, mv, x, dx, upd H dx (.own x), rfl, same_upd n2, n2, upd_same, dp_same s0 dmv, fit, fun F1 S1 H1 s1 P1 => ⟨rfl, ?_⟩⟩
  refine ⟨fun j σ H2 => ∃ mm F2 S2, PAt K A c mv x mm F2 S2 H2 ∧ Same H F2 ∧ Good c none mm ∧ Runs c h j mm mE ∧ σ = [some mv, some (.int h), some (.ref x)], ⟨k, _, _, _, P1, s0.trans s1, fit.good, hrun, rfl⟩, ?_⟩
  rintro j σ H2 ⟨mm, F2, S2, P, sF, g, hr2, rfl⟩
  obtain ⟨dx, rem, o1, o2, o3, o4, o5, er, h1⟩ := P.run
  obtain ⟨xs, ea, ga⟩ := P.rp.ag
  have hl := P.ok.liv _ _ ea
  have gl := ga.len
  refine ⟨_, rfl, _, _, _, _, _, rfl, h1, T.c_Run, T.n_Run_agenda, rfl, Nat.zero_le _, fun e0 n0 => ?_⟩
  have s2 := same_upd n0 (o := .lst [])
  have P := P.same s2
  have h1 := s2 _ _ h1
  refine ⟨_, _, _, rfl, rfl, SqL.of (s2 _ _ hl), SqL.of upd_same, _, rfl, ?_⟩
  have fin : ∀ H3, PAt K A c mv x mE F2 S2 H3 → ∃ (y : Unit), True := fun _ _ => ⟨(), trivial⟩
  cases hag : mm.agenda with
  | nil =>
    have hnil : (!xs.isEmpty) = false := by
      rw [hag] at gl
      cases xs with
      | nil => rfl
      | cons _ _ => cases gl
    refine ifN' hnil ?_
    have emE : mm = mE := by
      cases hr2 with
      | done _ => rfl
      | step hm _ _ _ => rw [hag] at hm; cases hm
    subst emE
    refine ifN' rfl ?_
    obtain ⟨ys, elg, dlg⟩ := P.rp.lg
    refine ⟨_, rfl, _, _, _, _, _, rfl, h1, T.c_Run, T.n_Run_log, rfl, _, _, rfl, .inl ⟨SqL.of (P.ok.liv _ _ elg), fun t nt => ?_⟩⟩
    have s4 := same_upd nt (o := .tup ys)
    exact q t _ (sF.trans (P.ok.sm.trans s4)) (.tup (SqT.of upd_same) (dpa_same (P.ok.sm.trans s4) dlg))
  | cons e1 l1 =>
    have hnil : (!xs.isEmpty) = true := by
      rw [hag] at gl
      cases xs with
      | nil => cases gl
      | cons _ _ => rfl
    refine ifB' hnil ?_
    refine ⟨_, rfl, _, _, _, _, rfl, h1, rfl, rfl, c, mv, x, mm, F2, S2, rfl, P, by rw [hag]; exact List.cons_ne_nil _ _, fun e H3 hmin s3 => ?_⟩
    have P := P.same s3
    have h1 := s3 _ _ h1
    refine ⟨_, rfl, _, _, rfl, rfl, _, rfl, ?_⟩
    cases hr2 with
    | done hd =>
      have := hd e hmin
      refine ifN' (decide_eq_false (by omega)) ?_
      obtain ⟨ys, elg, dlg⟩ := P.rp.lg
      refine ⟨_, rfl, _, _, _, _, _, rfl, h1, T.c_Run, T.n_Run_log, rfl, _, _, rfl, .inl ⟨SqL.of (P.ok.liv _ _ elg), fun t nt => ?_⟩⟩
      have s4 := same_upd nt (o := .tup ys)
      exact q t _ (sF.trans (P.ok.sm.trans s4)) (.tup (SqT.of upd_same) (dpa_same (P.ok.sm.trans s4) dlg))
    | @step ja j' _ m1 _ e' hm' hle hact hrest =>
      rw [hmin] at hm'
      obtain rfl := Option.some.inj hm'
      refine ifB' (decide_eq_true (by omega)) ?_
      refine ⟨fun σ H3 => ∃ mm F2 S2, PAt K A c mv x mm F2 S2 H3 ∧ Same H F2 ∧ Good c none mm ∧ Runs c h j' mm mE ∧ σ = [some mv, some (.int h), some (.ref x)], fun σ' H' w => ⟨j', Nat.lt_succ_self _, w⟩, ?_⟩
      have g1 : Good c none m1 := act_good hact (g.enter hmin (by omega)).1
      refine ⟨_, rfl, _, _, _, _, rfl, h1, rfl, rfl, c, mv, x, mm, F2, S2, e, ja, m1, rfl, P, g, hmin, by omega, hact, fun F4 S4 H4 s4 X4 P4 => ?_⟩
      obtain ⟨dx, rem, o1, o2, o3, o4, o5, er, h1⟩ := P4.run
      obtain ⟨ys, elg, dlg⟩ := P4.rp.lg
      have hyl : ys.length = m1.log.length := by rw [dpa_length dlg, List.length_map]
      have hpot := g1.gc.pot
      refine ⟨_, rfl, _, _, _, _, _, rfl, h1, T.c_Run, T.n_Run_log, rfl, _, _, rfl, .inl (SqL.of (P4.ok.liv _ _ elg)), _, _, rfl, rfl, _, rfl, ?_⟩
      refine ifN' (decide_eq_false (by omega)) ?_
      exact ⟨m1, F4, S4, P4, sF.trans s4, g1, hrest, rfl⟩
end Ev
/-! zip of a text and a tuple. -/
namespace Ev
open PySem PySem.Spec PyProof.Rows L2
def ItzST (K : PySem.W.Frag) (x : Str) (b : Addr) : It :=
  ⟨fun i H => i < x.cps.size ∧ ∃ (ys : List V) (y : V), SqT K H b ys ∧ ys[i]? = some y,
    fun i H v H' => ∃ T c y, v = .ref T ∧ H T = none ∧ x.cps[i]? = some c ∧ H' = upd H T (.tup [.str ⟨#[c]⟩, y]) ∧ ∀ ys, SqT K H b ys → ys[i]? = some y,
    fun i H => i = x.cps.size ∧ ∃ ys : List V, SqT K H b ys ∧ ys.length = i⟩
theorem turn_zipST {P : Program} {w : World} {K : PySem.W.Frag} {elts : List Expr} {kk : Nat} {tpos : Pos} {x : Str} {t : Tok} {b z TI TO i1 i2 : Addr} (D : ZipSep2 z TI TO i1 i2 [i1] [i2, b]) :
    Turn P w K (.Tuple elts kk tpos) (ItzST K x b) [z, TI, TO, i1, i2] z (fun i h => IsZip h z TI TO .none ∧ IsTupOf2 h TI (.ref i1) (.ref i2) ∧ (∃ x y, IsTupOf2 h TO x y) ∧ h.IsStrIter i1 (strIterType x) x t i ∧ h.IsTupleIter i2 b i) where
  mem := by simp
  obj := fun i h st c hc => by
    obtain ⟨hz, hTI, ⟨x, y, hTO⟩, ⟨o1, e1, _, d1⟩, ⟨o2, e2, _, d2⟩⟩ := st
    have e' : c = z ∨ c = TI ∨ c = TO ∨ c = i1 ∨ c = i2 := by simpa using hc
    rcases e' with q | q | q | q | q
    · rw [q]; exact ⟨_, hz, fun v q => nomatch q⟩
    · rw [q]; exact ⟨_, hTI, fun v q => nomatch q⟩
    · rw [q]; exact ⟨_, hTO, fun v q => nomatch q⟩
    · rw [q]; exact ⟨o1, e1, fun v q => by rw [d1] at q; cases q⟩
    · rw [q]; exact ⟨o2, e2, fun v q => by rw [d2] at q; cases q⟩
  keep := fun i h h' st k => by
    obtain ⟨hz, hTI, ⟨x, y, hTO⟩, ⟨o1, e1, r1⟩, h2⟩ := st
    exact ⟨k z (by simp) _ hz, k TI (by simp) _ hTI, ⟨x, y, k TO (by simp) _ hTO⟩, ⟨o1, k i1 (by simp) _ e1, r1⟩, h2.at fun o q => k i2 (by simp) o q⟩
  item := by
    intro X hP hw hK hc i pins s σ H E I hf st hg
    subst hP hw hK
    obtain ⟨hz, hTI, ⟨x0, y0, hTO⟩, h1, h2⟩ := st
    obtain ⟨hi, ys, y, hqy, hy⟩ := hg
    obtain ⟨its2, rv2, p2, _⟩ := I.tuple hqy
    obtain ⟨u2, hu2, ru2⟩ := rv2.get hy
    have hzl : z < s.heap.objs.size := Heap.lt_size hz
    have hcalm := I.ok.hd hc
    refine wpAny_pyNext_zipD2_item D (Draws.text (prog := X.prog) (w := X.w) (A := X.A.in1) hcalm i1 x t) (Draws.tuple (prog := X.prog) (w := X.w) (A := X.A.in1) hcalm i2 b (fun e => by have := D.TIi2; have h := h2; obtain ⟨o2, e2, c2, _⟩ := h2; obtain ⟨o3, e3, c3, _⟩ := p2; rw [e] at e3; rw [e2] at e3; cases e3; have h9 := c2.symm.trans c3; injection h9 with h9; exact absurd h9 (by decide)) its2.toArray)
      hz hTI hTO h1 ⟨h2, show s.heap.IsTuple b its2.toArray from p2⟩ hi (by have := (List.getElem?_eq_some_iff.mp hu2).1; simpa using this) fun x1 x2 h' tk hp1 hp2 z' TO' h1' h2' hT hsz hk => ?_
    obtain ⟨c, u, hcx, rfl⟩ := hp1
    have e2 : x2 = u2 := by
      have hp2 : its2.toArray[i]? = some x2 := hp2
      rw [List.getElem?_toArray, hu2] at hp2
      exact (Option.some.inj hp2).symm
    subst e2
    refine ⟨_, rfl, wpAny_letOwnedTupleGo_zip (s := { s with heap := h', toks := tk }) z' fun h'' z'' sb => ?_⟩
    have hT2 : h''.get? s.heap.objs.size = some { cls := .type "tuple", data := .seq #[.str ⟨#[c]⟩ u, x2] } := (sb.2 _ (Nat.ne_of_gt hzl)).trans hT
    have new : ObjOk X.prog X.w (upd H s.heap.objs.size (.tup [.str ⟨#[c]⟩, y])) h'' s.heap.objs.size (.tup [.str ⟨#[c]⟩, y]) :=
      ⟨by show 2 ≤ sizeLine; decide, [.str ⟨#[c]⟩ u, x2], .cons ⟨u, rfl⟩ (.cons ru2 .nil), ⟨_, hT2, rfl, _, rfl⟩⟩
    have I1 : Inv X pins σ (upd H s.heap.objs.size (.tup [.str ⟨#[c]⟩, y])) { s with heap := h'', toks := tk } :=
      I.turnedNew (t' := tk) (ch := [z, TI, TO, i1, i2]) (fun c o hb q => (sb.2 c (fun q' => hb (by simp [q']))).trans (hk c o (fun q' => hb (by simp [q'])) (fun q' => hb (by simp [q'])) (fun q' => hb (by simp [q'])) (fun q' => hb (by simp [q'])) q)) hf (Nat.le_refl _) new
    refine ⟨.ref s.heap.objs.size, _, I1, rfl, ⟨_, c, y, rfl, I.hok.fresh (Nat.le_refl _), hcx, rfl, fun l hl => by rw [I.tuple_inj hl hqy]; exact hy⟩, ⟨z'', ?_, ⟨.str ⟨#[c]⟩ u, x2, ?_⟩, ?_, ?_⟩, fun c hcm => ?_⟩
    · exact (sb.2 _ D.TIz).trans (hk _ _ D.TIz D.TITO D.TIi1 D.TIi2 hTI)
    · exact (sb.2 _ D.TOz).trans TO'
    · obtain ⟨o1, e1, r1⟩ := h1'
      exact ⟨o1, (sb.2 _ D.zi1.symm).trans e1, r1⟩
    · exact h2'.1.at fun o q => (sb.2 _ D.zi2.symm).trans q
    · have hlt : c < s.heap.objs.size := by
        have e' : c = z ∨ c = TI ∨ c = TO ∨ c = i1 ∨ c = i2 := by simpa using hcm
        rcases e' with q | q | q | q | q
        · rw [q]; exact hzl
        · rw [q]; exact Heap.lt_size hTI
        · rw [q]; exact Heap.lt_size hTO
        · rw [q]; obtain ⟨_, e1, _⟩ := h1; exact Heap.lt_size e1
        · rw [q]; obtain ⟨_, e2, _⟩ := h2; exact Heap.lt_size e2
      rw [upd_ne (Nat.ne_of_lt hlt)]
      exact (hf c hcm).1
  done := by
    intro X hP hw hK hc i pins s σ H E I hf st hg
    subst hP hw hK
    obtain ⟨hz, hTI, ⟨x0, y0, hTO⟩, h1, h2⟩ := st
    obtain ⟨hi, ys, hqy, hend⟩ := hg
    obtain ⟨its2, rv2, p2, _⟩ := I.tuple hqy
    have l2 := rv2.length
    have hcalm := I.ok.hd hc
    exact wpAny_pyNext_zipD2_end D (Draws.text (prog := X.prog) (w := X.w) (A := X.A.in1) hcalm i1 x t) (Draws.tuple (prog := X.prog) (w := X.w) (A := X.A.in1) hcalm i2 b (fun e => by have h := h2; obtain ⟨o2, e2, c2, _⟩ := h2; obtain ⟨o3, e3, c3, _⟩ := p2; rw [e] at e3; rw [e2] at e3; cases e3; have h9 := c2.symm.trans c3; injection h9 with h9; exact absurd h9 (by decide)) its2.toArray)
      hz hTI hTO h1 ⟨h2, show s.heap.IsTuple b its2.toArray from p2⟩ (by omega) (by simp; omega) (.inl hi) fun h' tk hk => ⟨rfl, I.turnedL (t' := tk) (ch := [z, TI, TO, i1, i2]) (fun c o hb q =>
      hk c o (fun q' => hb (by simp [q'])) (fun q' => hb (by simp [q'])) (fun q' => hb (by simp [q'])) (fun q' => hb (by simp [q'])) q) hf⟩
  self := fun A i s Q E st h => wpAny_pyIter_zip st.1 h
def iZipST (K : PySem.W.Frag) (ta : TA) : TI := fun σ H R => ta σ H fun vs H1 => ∃ (x : Str) (b : Addr) (ys : List V), vs = [.str x, .ref b] ∧ SqT K H1 b ys ∧ R (ItzST K x b) H1
theorem pi_zipST {X : Cx} {e e2 : Expr} {ta : TA} {p pos tpos : Pos} {elts : List Expr} {kk : Nat} (hg : Gl X "zip") (hm : X.mg "zip" = none) (ha : PA X [e, e2] ta)
    (hs : starEach [e, e2] X.env = (false, eval e X.env) :: starEach [e2] X.env := by rfl) (hpl : (backTo pos (starEach [e2] X.env)).any (·.1) = false := by rfl) :
    PI X (.Tuple elts kk tpos) (.Call (.Name "zip" p) [e, e2] [] pos) (iZipST X.K ta) := by
  refine ⟨fun pins s σ H R I h => ?_⟩
  refine Call_ (ld_blt I hg hm PyProof.Rows.boot_zip (PyProof.Rows.callWith_type1 (thn (ha.run pos pins s σ H _ I h) fun us s1 ⟨vs, H1, I1, r1, q1⟩ => ?_) hs hpl))
  obtain ⟨x, b, ys, ex, hqy, q⟩ := q1
  subst ex
  cases r1 with
  | cons r rr =>
    cases rr with
    | cons r' rr =>
      cases rr
      obtain ⟨t, rfl⟩ := r
      cases r'
      have fresh5 : ∀ c, c ∈ [s1.heap.objs.size + 4, s1.heap.objs.size + 2, s1.heap.objs.size + 3, s1.heap.objs.size, s1.heap.objs.size + 1] → FpOk X pins H1 c := fun c hcm => by
        have e' : c = s1.heap.objs.size + 4 ∨ c = s1.heap.objs.size + 2 ∨ c = s1.heap.objs.size + 3 ∨ c = s1.heap.objs.size ∨ c = s1.heap.objs.size + 1 := by simpa using hcm
        have hle : s1.heap.objs.size ≤ c := by
          rcases e' with z | z | z | z | z
          · rw [z]; exact Nat.le_add_right _ _
          · rw [z]; exact Nat.le_add_right _ _
          · rw [z]; exact Nat.le_add_right _ _
          · rw [z]; exact Nat.le_refl _
          · rw [z]; exact Nat.le_add_right _ _
        exact I1.fpOk hle (I1.hok.fresh hle)
      obtain ⟨its2, rv2, p2, _⟩ := I1.tuple hqy
      obtain ⟨o2, ho2, _⟩ := id p2
      refine zip_begins2 (begins_text x t) (begins_tuple b its2.toArray) trivial (show s1.heap.IsTuple b its2.toArray from p2) fun h' hz hTI hTO h1 h2 hsz hk => wpAny_pyIter_zip hz ?_
      have I2 : Inv X pins σ H1 { s1 with heap := h' } := I1.kept (t' := s1.toks) hk
      exact ⟨s1.heap.objs.size + 4, [s1.heap.objs.size + 4, s1.heap.objs.size + 2, s1.heap.objs.size + 3, s1.heap.objs.size, s1.heap.objs.size + 1], _, _, H1, rfl, I2,
        turn_zipST (zip_sep2 (fp1 := []) (fp2 := [b]) (fun _ h => nomatch h) (fun c hc => by rw [List.mem_singleton.mp hc]; exact Heap.lt_size ho2)), ⟨hz, hTI, ⟨_, _, hTO⟩, ⟨_, h1, rfl, rfl⟩, ⟨_, h2, rfl, rfl⟩⟩, fresh5, q⟩
theorem walk_zipST {K : PySem.W.Frag} {x : Str} {b : Addr} {ys : List V} (hl : ys.length = x.cps.size) : Walk (ItzST K x b) x.cps.size (fun H => SqT K H b ys) (fun i H v H' => ∃ T c y, v = .ref T ∧ H T = none ∧ x.cps[i]? = some c ∧ ys[i]? = some y ∧ H' = upd H T (.tup [.str ⟨#[c]⟩, y])) :=
  ⟨fun i H hi h => ⟨hi, ys, ys[i]'(by omega), h, by simp [show i < ys.length by omega]⟩, fun H h => ⟨rfl, ys, h, hl⟩, fun i H v H' _ h ⟨T, c, y, e1, e2, e3, e4, e5⟩ => ⟨T, c, y, e1, e2, e3, e5 ys h, e4⟩⟩
end Ev
namespace Ev
open PySem PySem.Spec PyProof.Rows L2
variable {w : World} {K : PySem.W.Frag} {mg : Str → Option Value} {base : Heap} {A : Adr}

theorem at1 {v u : V} {r : List V} : atI (v :: u :: r) 1 = some u := atI_nat (j := 1) rfl
theorem at2 {v u z : V} {r : List V} : atI (v :: u :: z :: r) 2 = some z := atI_nat (j := 2) rfl
theorem at3 {v u z y : V} {r : List V} : atI (v :: u :: z :: y :: r) 3 = some y := atI_nat (j := 3) rfl
/-- the numbers an instruction may have, by the sign of their kind -/
def kOk (nr n : Nat) (kc x : Nat) : Prop := (kc = 114 ∧ x < nr) ∨ (kc = 112 ∧ x < n) ∨ (kc = 107 ∧ x ≤ 9) ∨ kc = 100
def cntL (nr n : Nat) : List V := [.int nr, .int 0, .int 0, .int n]
def sp_fits (K : PySem.W.Frag) (A : Adr) : Sp0 := fun vs H Q => ∃ (kc x nr n : Nat) (cs : Addr), vs = [.str ⟨#[kc]⟩, .int x, .ref cs] ∧ SqL K H cs (cntL nr n) ∧ kOk nr n kc x ∧ Q (.bl true) H
/-- fits -/
theorem ok_fits (T : Txt K mg w A) : Fn PP w K mg base 2 A.fits (sp_fits K A) := by
  refine T.d_fits.go sc_fits fun cdv Ar outer s H vs Q hr h => ?_
  have nd := sc_fits.nd
  obtain ⟨kc, x, nr, n, cs, rfl, hs, hk, q⟩ := h
  refine ⟨_, (pss_cons (ps_if (pt_cm op_in_sign (pv 0) (pe_gl (by rfl) T.g_REFERENCES))
        (pss_one (ps_ret (pe_f (ok_is_between T) (hr.mono (by decide)) (by rfl) T.g_is_between T.d_is_between.kp (pa_cons (pv 1) (pa_cons pe_int (pa_cons (pe_op op_sub (pe_ix (ixL K) (pv 2) (pe_bm PySem.F.plainAttrs_str PySem.F.slot_str_index PySem.F.type_str_index mt_sindex (pe_gl (by rfl) T.g_REFERENCES) (pa_cons (pv 0) pa_nil)) (fun _ _ => rfl)) pe_int) pa_nil))))))
        pss_nil)
      (pss_one (ps_ret (pe_f (ok_is_between T) (hr.mono (by decide)) (by rfl) T.g_is_between T.d_is_between.kp (pa_cons (pv 1) (pa_cons pe_int (pa_cons (pe_ix ix_kdict (pe_gl (by rfl) T.g_BOUNDS) (pv 0) (fun _ _ => rfl)) pa_nil))))))), ?_⟩
  refine ⟨_, rfl, kc, _, rfl, rfl, _, rfl, ?_⟩
  rcases hk with ⟨rfl, hx⟩ | ⟨rfl, hx⟩ | ⟨rfl, hx⟩ | rfl
  · refine ifB' (by decide) ?_
    refine ⟨_, rfl, _, rfl, rfl, _, rfl, _, _, 0, [], rfl, rfl, by decide +kernel, _, _, _, _, rfl, rfl, hs, at0, _, _, rfl, rfl, _, _, _, rfl, .inr ⟨_, rfl⟩, ?_⟩
    have e : (decide ((0 : Int) ≤ x) && hiOk (.int ((nr : Int) - 1)) x) = true := by
      unfold hiOk
      rw [Bool.and_eq_true, decide_eq_true_eq, decide_eq_true_eq]; omega
    rw [e]; exact q
  · refine ifB' (by decide) ?_
    refine ⟨_, rfl, _, rfl, rfl, _, rfl, _, _, 3, [], rfl, rfl, by decide +kernel, _, _, _, _, rfl, rfl, hs, at3, _, _, rfl, rfl, _, _, _, rfl, .inr ⟨_, rfl⟩, ?_⟩
    have e : (decide ((0 : Int) ≤ x) && hiOk (.int ((n : Int) - 1)) x) = true := by
      unfold hiOk
      rw [Bool.and_eq_true, decide_eq_true_eq, decide_eq_true_eq]; omega
    rw [e]; exact q
  · refine ifN' (by decide) ?_
    obtain ⟨es, nn, D⟩ := T.t_BOUNDS
    obtain ⟨u, hu, ru⟩ := T.v_BOUNDS_k
    refine ⟨_, rfl, _, rfl, A.BOUNDS, _, _, rfl, rfl, ⟨es, nn, u, D.at_, D.lit, hu, ru⟩, _, _, _, rfl, .inr ⟨_, rfl⟩, ?_⟩
    have e : (decide ((0 : Int) ≤ x) && hiOk (.int 9) x) = true := by
      unfold hiOk
      rw [Bool.and_eq_true, decide_eq_true_eq, decide_eq_true_eq]; omega
    rw [e]; exact q
  · refine ifN' (by decide) ?_
    obtain ⟨es, nn, D⟩ := T.t_BOUNDS
    obtain ⟨u, hu, ru⟩ := T.v_BOUNDS_d
    refine ⟨_, rfl, _, rfl, A.BOUNDS, _, _, rfl, rfl, ⟨es, nn, u, D.at_, D.lit, hu, ru⟩, _, _, _, rfl, .inl rfl, ?_⟩
    have e : (decide ((0 : Int) ≤ x) && hiOk .non x) = true := by
      unfold hiOk
      rw [Bool.and_eq_true, decide_eq_true_eq]; exact ⟨by omega, rfl⟩
    rw [e]; exact q
end Ev
namespace Ev
open PySem PySem.Spec PyProof.Rows L2
variable {w : World} {K : PySem.W.Frag} {mg : Str → Option Value} {base : Heap} {A : Adr}

theorem pairs_of {α : Type} {D : α → PyData} {H : Hp} : ∀ {l : List α} {xs : List V}, DpAll K H xs (l.map D) → ∃ zs : List (V × α), xs = zs.map (·.1) ∧ l = zs.map (·.2) ∧ ∀ z ∈ zs, Dp K H z.1 (D z.2)
  | [], xs, h => ⟨[], by rw [dpa_nilI h]; rfl, rfl, fun _ h => nomatch h⟩
  | y :: l, xs, h => by
    obtain ⟨v, r, rfl, hv, hr⟩ := dpa_consI h
    obtain ⟨zs, rfl, e, hz⟩ := pairs_of hr
    refine ⟨(v, y) :: zs, rfl, by rw [e]; rfl, fun z hm => ?_⟩
    rcases List.mem_cons.mp hm with rfl | hm
    · exact hv
    · exact hz z hm
theorem allT {α : Type} (l : List α) : ((l.filter fun _ => true).map fun _ => V.bl true) = (l.map fun _ => true).map V.bl ∧ (l.map fun _ => true).all id = true := by
  refine ⟨by rw [List.filter_eq_self.mpr (fun _ _ => rfl), List.map_map]; rfl, by simp⟩
theorem insRef {H : Hp} {v : V} {i : Ins} (h : Dp K H v (insD i)) : ∃ a, v = .ref a := by
  cases i <;> (obtain ⟨a, _, e, _⟩ := dp_tupI h; exact ⟨a, e⟩)
def sp_is_instruction (K : PySem.W.Frag) (A : Adr) (f : Nat) : Sp0 := fun vs H Q => ∃ (a cs : Addr) (i : Ins) (nr n : Nat), vs = [.ref a, .ref cs, .int f] ∧ Dp K H (.ref a) (insD i) ∧ SqL K H cs (cntL nr n) ∧
  ((insOk nr n f i = true ∧ ∀ H', Same H H' → Q (.bl true) H') ∨ ((∃ b, i = .fev b) ∧ ∀ H', Same H H' → Q (.bl false) H'))
def sp_is_body (K : PySem.W.Frag) (A : Adr) : Nat → Sp0
  | 0 => fun _ _ _ => False
  | f + 1 => fun vs H Q => ∃ (a cs : Addr) (b : List Ins) (nr n : Nat), vs = [.ref a, .ref cs, .int (f + 1)] ∧ Dp K H (.ref a) (.tuple (insDs b)) ∧ SqL K H cs (cntL nr n) ∧
    b.isEmpty = false ∧ b.length ≤ 100 ∧ b.all (insOk nr n f) = true ∧ ∀ H', Same H H' → Q (.bl true) H'
theorem ok_is_body_s (T : Txt K mg w A) {f : Nat} (hI : Fn PP w K mg base (2 * f + 4) A.is_instruction (sp_is_instruction K A f)) : Fn PP w K mg base (2 * f + 5) A.is_body (sp_is_body K A (f + 1)) := by
  refine T.d_is_body.go sc_is_body fun cdv Ar outer s H vs Q hr h => ?_
  have nd := sc_is_body.nd
  obtain ⟨a, cs, b, nr, n, rfl, hd, hc, hne, hlen, hall, q⟩ := h
  obtain ⟨_, xs, e, hs, hx⟩ := dp_tupI hd
  cases e
  rw [insDs_map] at hx
  obtain ⟨zs, rfl, rfl, hz⟩ := pairs_of hx
  refine ⟨_, (pss_cons (ps_if (PW.pt (pw_or (pt_cm op_eq (pv 2) pe_int) (pw_or1 (pt_not (pt_val (pe_f (ok_is_tuple T) (hr.mono (by omega)) (by rfl) T.g_is_tuple T.d_is_tuple.kp (pa_cons (pv 0) (pa_cons pe_int (pa_cons pe_non pa_nil)))))))))
        (pss_one (ps_ret pe_bl))
        pss_nil)
      (pss_one (ps_ret (pe_callB (allK K rfl) (by rfl) T.b_all (by decide +kernel) (pa_cons (pe_lc (own := [("one", 3)]) (g := gName 3) (tt := tYes) rfl nd (pi_tup (pv 0)) (blkOk_by (own := [("one", 3)]) (N := N_is_body) (sc := defScope s_is_body) (by decide +kernel))
        (fun _ _ _ _ _ => (pg_name (i := 3) nd rfl (Or.inl rfl))) (fun _ _ _ _ _ => pts_nil)
        (fun _ _ _ _ _ => (pe_f hI (hr.mono (by omega)) (by rfl) T.g_is_instruction T.d_is_instruction.kp (pa_cons (pv 3) (pa_cons (pv 1) (pa_cons (pe_op op_sub (pv 2) pe_int) pa_nil)))))) pa_nil))))), ?_⟩
  refine ⟨_, rfl, rfl, _, rfl, ?_⟩
  refine ifN' (decide_eq_false fun z => by injection z with z; omega) ?_
  have hpos : (decide ((1 : Int) ≤ ((zs.map (·.1)).length : Nat)) && hiOk .non ((zs.map (·.1)).length : Nat)) = true := by
    have : 1 ≤ zs.length := by
      cases zs with
      | nil => cases hne
      | cons _ _ => simp
    rw [List.length_map, Bool.and_eq_true, decide_eq_true_eq]; exact ⟨by omega, rfl⟩
  refine ⟨_, rfl, _, _, _, _, rfl, hs, .inl rfl, _, rfl, ?_⟩
  refine ifN' (by rw [hpos]; rfl) ?_
  rw [List.length_map] at hlen
  refine ⟨_, rfl, _, rfl, ⟨_, hs⟩, fun D nD => lc_T (l := zs) (h := (·.1)) (fun _ => true) (fun _ => .bl true) nD hs (Nat.le_of_lt (sz3 (by omega))) (fun z hz' H1 s1 Y N hY hN => ?_) fun H1 s1 eD => ?_⟩
  · refine ⟨rfl, ?_⟩
    obtain ⟨a1, ea⟩ := insRef (hz z hz')
    refine ⟨_, rfl, _, rfl, _, rfl, _, _, rfl, rfl, a1, cs, z.2, nr, n, by rw [ea]; show [V.ref a1, V.ref cs, V.int ((f : Int) + 1 - 1)] = _; rw [show ((f : Int) + 1 - 1) = f by omega], ea ▸ dp_same s1 (hz z hz'), s1.seq hc, .inl ⟨List.all_eq_true.mp hall _ (List.mem_map_of_mem hz'), fun H' s' => hY rfl H' s'⟩⟩
  · obtain ⟨e1, e2⟩ := allT zs
    rw [e1] at eD
    refine ⟨_, _, rfl, SqL.of eD, ?_⟩
    rw [e2]
    exact q _ s1
/-- a thing that is no repeat and no forever -/
structure Leaf (K : PySem.W.Frag) (A : Adr) (H : Hp) (a : Addr) (nr n : Nat) (wd : Str) (ks ns : List Nat) (u : Value) : Prop where
  at_ : SqT K H a (.str wd :: ns.map fun (x : Nat) => V.int x)
  nrep : decide (V.str wd = V.str "repeat") = false
  kinds : PySem.W.nsIn K A.NUMBERS wd = some (some u)
  rel : RelV (.str ⟨ks.toArray⟩) u
  len : ns.length = ks.length
  few : ks.length ≤ 3
  ok : ∀ (j k x : Nat), ks[j]? = some k → ns[j]? = some x → kOk nr n k x
theorem dpa_intsI {H : Hp} : ∀ {ns : List Nat} {xs : List V}, DpAll K H xs (ns.map fun (x : Nat) => PyData.int x) → xs = ns.map fun (x : Nat) => V.int x
  | [], xs, h => dpa_nilI h
  | y :: l, xs, h => by
    obtain ⟨v, r, rfl, hv, hr⟩ := dpa_consI h
    rw [dp_intI hv, dpa_intsI hr]; rfl
theorem relV_str {v : V} {x : Str} {u : Value} (h : RelV (.str x) u) (h2 : RelV v u) : v = .str x := by
  obtain ⟨t, rfl⟩ := h
  cases v with
  | str y => obtain ⟨t2, e⟩ := h2; injection e with e1; rw [e1]
  | _ => first | exact nomatch h2 | (obtain ⟨_, e⟩ := h2; exact nomatch e)
theorem leaf_of (T : Txt K mg w A) {H : Hp} {a : Addr} {nr n f : Nat} : ∀ {i : Ins}, Dp K H (.ref a) (insD i) → insOk nr n f i = true → (∀ m b, i ≠ .rep m b) → ∃ wd ks ns u, Leaf K A H a nr n wd ks ns u
  | .wait d, hd, _, _ => by
    obtain ⟨_, xs, e, hs, hx⟩ := dp_tupI hd
    cases e
    obtain ⟨v, r, rfl, hv, hr⟩ := dpa_consI hx
    obtain rfl := dp_strI hv
    obtain rfl := dpa_intsI (ns := [d]) hr
    obtain ⟨u, e, ru⟩ := T.v_NUMBERS_wait
    refine ⟨_, [100], [d], u, hs, by decide, e, ru, rfl, by decide, fun j k x h1 h2 => ?_⟩
    match j with
    | 0 => cases h1; exact .inr (.inr (.inr rfl))
  | .take q k, hd, ho, _ => by
    obtain ⟨_, xs, e, hs, hx⟩ := dp_tupI hd
    cases e
    obtain ⟨v, r, rfl, hv, hr⟩ := dpa_consI hx
    obtain rfl := dp_strI hv
    obtain rfl := dpa_intsI (ns := [q, k]) hr
    obtain ⟨u, e, ru⟩ := T.v_NUMBERS_take
    have ho : (decide (q < nr) && decide (k ≤ 9)) = true := by cases f <;> exact ho
    rw [Bool.and_eq_true, decide_eq_true_eq, decide_eq_true_eq] at ho
    refine ⟨_, [114, 107], [q, k], u, hs, by decide, e, ru, rfl, by decide, fun j k x h1 h2 => ?_⟩
    match j with
    | 0 => cases h1; cases h2; exact .inl ⟨rfl, ho.1⟩
    | 1 => cases h1; cases h2; exact .inr (.inr (.inl ⟨rfl, ho.2⟩))
  | .give q, hd, ho, _ => by
    obtain ⟨_, xs, e, hs, hx⟩ := dp_tupI hd
    cases e
    obtain ⟨v, r, rfl, hv, hr⟩ := dpa_consI hx
    obtain rfl := dp_strI hv
    obtain rfl := dpa_intsI (ns := [q]) hr
    obtain ⟨u, e, ru⟩ := T.v_NUMBERS_give
    have ho : decide (q < nr) = true := by cases f <;> exact ho
    refine ⟨_, [114], [q], u, hs, by decide, e, ru, rfl, by decide, fun j k x h1 h2 => ?_⟩
    match j with
    | 0 => cases h1; cases h2; exact .inl ⟨rfl, of_decide_eq_true ho⟩
  | .rouse q, hd, ho, _ => by
    obtain ⟨_, xs, e, hs, hx⟩ := dp_tupI hd
    cases e
    obtain ⟨v, r, rfl, hv, hr⟩ := dpa_consI hx
    obtain rfl := dp_strI hv
    obtain rfl := dpa_intsI (ns := [q]) hr
    obtain ⟨u, e, ru⟩ := T.v_NUMBERS_rouse
    have ho : decide (q < n) = true := by cases f <;> exact ho
    refine ⟨_, [112], [q], u, hs, by decide, e, ru, rfl, by decide, fun j k x h1 h2 => ?_⟩
    match j with
    | 0 => cases h1; cases h2; exact .inr (.inl ⟨rfl, of_decide_eq_true ho⟩)
  | .rep m b, _, _, hn => absurd rfl (hn m b)
  | .fev b, _, ho, _ => by rw [insOk_nofev] at ho; cases ho
theorem ok_is_instruction_s (T : Txt K mg w A) {f : Nat} (hB : Fn PP w K mg base (2 * f + 3) A.is_body (sp_is_body K A f)) : Fn PP w K mg base (2 * f + 4) A.is_instruction (sp_is_instruction K A f) := by
  refine T.d_is_instruction.go sc_is_instruction fun cdv Ar outer s H vs Q hr h => ?_
  have nd := sc_is_instruction.nd
  obtain ⟨es, nn, D⟩ := T.t_NUMBERS
  obtain ⟨a, cs, i, nr, n, rfl, hd, hc, h⟩ := h
  refine ⟨_, (pss_cons (ps_if (PW.pt (pw_or (pt_not (pt_val (pe_f (ok_is_tuple T) (hr.mono (by omega)) (by rfl) T.g_is_tuple T.d_is_tuple.kp (pa_cons (pv 0) (pa_cons pe_int (pa_cons pe_non pa_nil)))))) (pw_or1 (pt_not (pt_val (pe_callB (isiK K) (by rfl) T.b_isinstance (by decide +kernel) (pa_cons (pe_ix (ixT K) (pv 0) pe_int (fun _ _ => rfl)) (pa_cons (pe_bltn (v := .ty "str") (by rfl) T.b_str (by decide +kernel) rfl) pa_nil))))))))
        (pss_one (ps_ret pe_bl))
        pss_nil)
      (pss_cons (ps_if (pt_cm op_eq (pe_ix (ixT K) (pv 0) pe_int (fun _ _ => rfl)) pe_str)
        (pss_one (ps_ret (pe_and (pe_cm op_eq (pe_callB (lenK K) (by rfl) T.b_len (by decide +kernel) (pa_cons (pv 0) pa_nil)) pe_int) (pe_and (pe_f (ok_is_between T) (hr.mono (by omega)) (by rfl) T.g_is_between T.d_is_between.kp (pa_cons (pe_ix (ixT K) (pv 0) pe_int (fun _ _ => rfl)) (pa_cons pe_int (pa_cons (pe_gl (by rfl) T.g_MOST_TIMES) pa_nil)))) (pe_one (pe_f hB (hr.mono (by omega)) (by rfl) T.g_is_body T.d_is_body.kp (pa_cons (pe_ix (ixT K) (pv 0) pe_int (fun _ _ => rfl)) (pa_cons (pv 1) (pa_cons (pv 2) pa_nil)))))))))
        pss_nil)
      (pss_cons (ps_set (i := 3) nd rfl (Or.inl rfl) (pe_kget2 D (pe_gl (by rfl) T.g_NUMBERS) (pe_ix (ixT K) (pv 0) pe_int (fun _ _ => rfl)) pe_non ⟨rfl, rfl, rfl, rfl⟩))
      (pss_cons (ps_if (PW.pt (pw_or (pt_cm op_isN (pv 3) pe_non) (pw_or1 (pt_cm op_ne (pe_callB (lenK K) (by rfl) T.b_len (by decide +kernel) (pa_cons (pv 0) pa_nil)) (pe_op op_add (pe_callB call_len_str (by rfl) T.b_len (by decide +kernel) (pa_cons (pv 3) pa_nil)) pe_int)))))
        (pss_one (ps_ret pe_bl))
        pss_nil)
      (pss_one (ps_ret (pe_callB (allK K rfl) (by rfl) T.b_all (by decide +kernel) (pa_cons (pe_lc (own := [("kind", 4), ("number", 5)]) (g := _) (tt := tYes) rfl nd (pi_zipST (by rfl) T.b_zip (pa_cons (pv 3) (pa_cons (pe_slice (slA K) (pv 0) (po_some pe_int) po_none) pa_nil))) (blkOk_by (own := [("kind", 4), ("number", 5)]) (N := N_is_instruction) (sc := defScope s_is_instruction) (by decide +kernel))
        (fun _ _ _ _ _ => (pgT K (n := 2) rfl (pgs_cons (pg_name (i := 4) nd rfl (Or.inl rfl)) (pgs_cons (pg_name (i := 5) nd rfl (Or.inl rfl)) pgs_nil)))) (fun _ _ _ _ _ => pts_nil)
        (fun _ _ _ _ _ => (pe_f (ok_fits T) (hr.mono (by omega)) (by rfl) T.g_fits T.d_fits.kp (pa_cons (pv 4) (pa_cons (pv 5) (pa_cons (pv 1) pa_nil)))))) pa_nil)))))))), ?_⟩
  have hpos : ∀ (x : V) (r : List V), (decide ((1 : Int) ≤ ((x :: r).length : Nat)) && hiOk .non ((x :: r).length : Nat)) = true := fun x r => by
    rw [List.length_cons, Bool.and_eq_true, decide_eq_true_eq]; exact ⟨by omega, rfl⟩
  have key : (∃ wd ks ns u, Leaf K A H a nr n wd ks ns u ∧ ∀ H', Same H H' → Q (.bl true) H') ∨ (∃ m b, i = .rep m b ∧ insOk nr n f (.rep m b) = true ∧ ∀ H', Same H H' → Q (.bl true) H') ∨ (∃ b, i = .fev b ∧ ∀ H', Same H H' → Q (.bl false) H') := by
    rcases h with ⟨ho, q⟩ | ⟨⟨b, e⟩, q⟩
    · by_cases hi : ∃ m b, i = .rep m b
      · obtain ⟨m, b, e⟩ := hi
        exact .inr (.inl ⟨m, b, e, e ▸ ho, q⟩)
      · obtain ⟨wd, ks, ns, u, L⟩ := leaf_of T hd ho fun m b e => hi ⟨m, b, e⟩
        exact .inl ⟨wd, ks, ns, u, L, q⟩
    · exact .inr (.inr ⟨b, e, q⟩)
  rcases key with ⟨wd, ks, ns, u, L, q⟩ | ⟨m, b, rfl, ho, q⟩ | ⟨b, rfl, q⟩
  · have hs := L.at_
    refine ⟨_, rfl, _, _, _, _, rfl, hs, .inl rfl, _, rfl, ?_⟩
    refine ifN' (by rw [hpos]; rfl) ?_
    refine ⟨_, rfl, _, _, _, _, rfl, rfl, hs, at0, _, _, _, _, true, rfl, .ty _, .base (.str _), kit_ty (by decide +kernel), _, rfl, ?_⟩
    refine ifN' rfl ?_
    refine ⟨_, rfl, _, _, _, _, rfl, rfl, hs, at0, rfl, _, rfl, ?_⟩
    refine ifN' L.nrep ?_
    refine ⟨rfl, _, rfl, _, _, _, _, rfl, rfl, hs, at0, _, _, rfl, L.kinds, fun v u' e rv => ?_, (fun e => by cases e), fun u' e => ⟨_, by cases e; exact L.rel⟩⟩
    obtain rfl := relV_str L.rel (by cases e; exact rv)
    refine ⟨_, rfl, rfl, _, rfl, ?_⟩
    refine ifN' (decide_eq_false (fun z => by cases z)) ?_
    have hkl : (⟨ks.toArray⟩ : Str).length = ks.length := rfl
    have hks := L.few
    have hln := L.len
    refine ⟨_, rfl, _, _, rfl, .inr hs, _, rfl, _, rfl, Nat.le_of_lt (sz3 (by rw [hkl]; omega)), _, _, rfl, rfl, rfl, _, rfl, ?_⟩
    refine ifN' (by rw [hkl, List.length_cons, List.length_map, hln]; simp) ?_
    refine ⟨_, rfl, _, rfl, _, rfl, _, _, rfl, hs, fun z => absurd z (cut1_not _ _), fun _ t nt => ?_⟩
    have s1 := same_upd nt (o := .tup (cutV (.str wd :: ns.map fun (x : Nat) => V.int x) (some 1) none))
    have ht : SqT K (upd H t (.tup (cutV (.str wd :: ns.map fun (x : Nat) => V.int x) (some 1) none))) t (ns.map fun (x : Nat) => V.int x) := by
      have e : cutV (.str wd :: ns.map fun (x : Nat) => V.int x) (some 1) none = ns.map fun (x : Nat) => V.int x := cut1 _ _
      rw [e]; exact SqT.of upd_same
    refine ⟨_, t, _, rfl, ht, fun D nD => lc_same (walk_zipST (x := ⟨ks.toArray⟩) (b := t) (ys := ns.map fun (x : Nat) => V.int x) (by rw [List.length_map]; exact hln)) nD (fun i => List.replicate i (.bl true)) rfl
      (fun i hi => by rw [List.length_replicate]; exact sz3 (by have : i < ks.length := hi; omega)) (fun H1 s2 => same_T s2 ht) (fun i H1 x H2 _ hy => by obtain ⟨T1, c, y, _, n1, _, _, e⟩ := hy; rw [e]; exact same_upd n1) (fun i x H1 H2 hi s2 hy Y N hY hN => ?_) fun H1 s2 eD => ?_⟩
    · obtain ⟨T1, c, y, rfl, n1, hc1, hy1, rfl⟩ := hy
      refine ⟨_, _, rfl, SqT.of upd_same, rfl, _, _, rfl, _, _, rfl, rfl, rfl, ?_⟩
      have hy1 : (ns.map fun (x : Nat) => V.int x)[i]? = some y := hy1
      rw [List.getElem?_map] at hy1
      cases hx : ns[i]? with
      | none => rw [hx] at hy1; cases hy1
      | some x =>
        rw [hx] at hy1
        cases hy1
        have hc1 : ks.toArray[i]? = some c := hc1
        rw [List.getElem?_toArray] at hc1
        have s3 : Same H (upd H1 T1 (.tup [.str ⟨#[c]⟩, .int x])) := s1.trans (s2.trans (same_upd n1))
        exact ⟨_, rfl, _, rfl, _, rfl, c, x, nr, n, cs, rfl, s3.seq hc, L.ok i c x hc1 hx, hY _ _ List.replicate_succ' (Same.refl _)⟩
    · refine ⟨_, List.replicate ks.length true, rfl, SqL.of (by rw [List.map_replicate]; exact eD), ?_⟩
      rw [show (List.replicate ks.length true).all id = true by simp]
      exact q _ (s1.trans s2)
  · obtain ⟨_, xs, e, hs, hx⟩ := dp_tupI hd
    cases e
    obtain ⟨v, r, rfl, hv, hr2⟩ := dpa_consI hx
    obtain ⟨v2, r, rfl, hv2, hr2⟩ := dpa_consI hr2
    obtain ⟨v3, r, rfl, hv3, hr2⟩ := dpa_consI hr2
    obtain rfl := dpa_nilI hr2
    obtain rfl := dp_strI hv
    obtain rfl := dp_intI hv2
    obtain ⟨a3, xs3, rfl, hs3, hx3⟩ := dp_tupI hv3
    cases f with
    | zero => cases ho
    | succ f =>
      have ho : (decide (m ≤ 5) && (!b.isEmpty && decide (b.length ≤ 100)) && b.all (insOk nr n f)) = true := ho
      rw [Bool.and_eq_true, Bool.and_eq_true, Bool.and_eq_true, decide_eq_true_eq, decide_eq_true_eq, Bool.not_eq_true'] at ho
      obtain ⟨⟨h5, hne, h100⟩, hall⟩ := ho
      refine ⟨_, rfl, _, _, _, _, rfl, hs, .inl rfl, _, rfl, ?_⟩
      refine ifN' (by rw [hpos]; rfl) ?_
      refine ⟨_, rfl, _, _, _, _, rfl, rfl, hs, at0, _, _, _, _, true, rfl, .ty _, .base (.str _), kit_ty (by decide +kernel), _, rfl, ?_⟩
      refine ifN' rfl ?_
      refine ⟨_, rfl, _, _, _, _, rfl, rfl, hs, at0, rfl, _, rfl, ?_⟩
      refine ifB' (decide_eq_true rfl) ?_
      refine ⟨_, rfl, _, _, rfl, .inr hs, rfl, _, rfl, ?_⟩
      refine ifB' (decide_eq_true rfl) ?_
      refine ⟨_, rfl, _, _, _, _, rfl, rfl, hs, at1, _, _, _, rfl, .inr ⟨_, rfl⟩, _, rfl, ?_⟩
      refine ifB' (by unfold hiOk; rw [Bool.and_eq_true, decide_eq_true_eq, decide_eq_true_eq]; omega) ?_
      exact ⟨_, rfl, _, _, _, _, rfl, rfl, hs, at2, _, rfl, _, rfl, a3, cs, b, nr, n, rfl, hv3, hc, hne, h100, hall, q⟩
  · obtain ⟨_, xs, e, hs, hx⟩ := dp_tupI hd
    cases e
    obtain ⟨v, r, rfl, hv, hr2⟩ := dpa_consI hx
    obtain rfl := dp_strI hv
    refine ⟨_, rfl, _, _, _, _, rfl, hs, .inl rfl, _, rfl, ?_⟩
    refine ifN' (by rw [hpos]; rfl) ?_
    refine ⟨_, rfl, _, _, _, _, rfl, rfl, hs, at0, _, _, _, _, true, rfl, .ty _, .base (.str _), kit_ty (by decide +kernel), _, rfl, ?_⟩
    refine ifN' rfl ?_
    refine ⟨_, rfl, _, _, _, _, rfl, rfl, hs, at0, rfl, _, rfl, ?_⟩
    refine ifN' (by decide) ?_
    refine ⟨rfl, _, rfl, _, _, _, _, rfl, rfl, hs, at0, _, _, rfl, T.v_NUMBERS_forever, (fun v u' e rv => by cases e), fun _ => ?_, fun u' e => by cases e⟩
    refine ⟨_, rfl, rfl, _, rfl, ?_⟩
    exact q _ (Same.refl _)
/-- both, at every depth -/
theorem ok_is_body_n (T : Txt K mg w A) : ∀ f : Nat, Fn PP w K mg base (2 * f + 3) A.is_body (sp_is_body K A f)
  | 0 => fun _ _ _ _ _ _ _ _ _ _ h => h.elim
  | f + 1 => ok_is_body_s T (ok_is_instruction_s T (ok_is_body_n T f))
theorem ok_is_instruction_n (T : Txt K mg w A) (f : Nat) : Fn PP w K mg base (2 * f + 4) A.is_instruction (sp_is_instruction K A f) := ok_is_instruction_s T (ok_is_body_n T f)
end Ev
namespace Ev
open PySem PySem.Spec PyProof.Rows L2
variable {w : World} {K : PySem.W.Frag} {mg : Str → Option Value} {base : Heap} {A : Adr}

/-- a slice of a tuple, wherever it lies -/
def rSlS (K : PySem.W.Frag) : V → Option Int → Option Int → Hp → VK → Prop := fun x lo hi H Q => ∃ a xs, x = .ref a ∧ SqT K H a xs ∧ ∀ p H', Same H H' → SqT K H' p (cutV xs lo hi) → Q (.ref p) H'
theorem cutV_whole {xs : List V} {lo hi : Option Int} (h : HT.sIx xs.length 0 lo = 0 ∧ HT.sIx xs.length xs.length hi = xs.length) : cutV xs lo hi = xs := by
  unfold cutV; rw [h.1, h.2]; simp
theorem slS {X : Cx} (K : PySem.W.Frag) (h : X.K = K := by rfl) : SlR X (rSlS K) := by
  intro pins s σ H x v vl vu lo hi sl Q I rx hs pl pu hq
  obtain ⟨a, xs, rfl, hx, q⟩ := hq
  exact slA K h pins s σ H _ v vl vu lo hi sl Q I rx hs pl pu ⟨a, xs, rfl, hx, fun z => q a H (Same.refl _) (by rw [cutV_whole z]; exact hx), fun _ p np => q p _ (same_upd np) (SqT.of upd_same)⟩
theorem sIx_m1 (n d : Nat) : HT.sIx n d (some (-1)) = n - 1 := by
  show (if (-1 : Int) < 0 then ((-1 : Int) + (n : Int)).toNat else min (-1 : Int).toNat n) = n - 1
  rw [if_pos (by decide)]; omega
theorem cut_init (xs : List V) : cutV xs none (some (-1)) = xs.dropLast := by
  unfold cutV
  rw [HT.sIx_none, sIx_m1, List.drop_zero, Nat.sub_zero, List.dropLast_eq_take]
theorem cut_last (xs : List V) : cutV xs (some (-1)) none = xs.drop (xs.length - 1) := by
  unfold cutV
  rw [HT.sIx_none, sIx_m1, List.take_of_length_le (by rw [List.length_drop]; omega)]
theorem rest_all {nr n : Nat} : ∀ {l : List Ins}, RestOk nr n l → ∀ i ∈ l, insOk nr n 3 i = true ∨ ∃ b, i = .fev b ∧ fevOk nr n b
  | _, .fev h, i, hi => by rw [List.mem_singleton.mp hi]; exact .inr ⟨_, rfl, h⟩
  | _, .cons h r, i, hi => by
    rcases List.mem_cons.mp hi with rfl | hi
    · exact .inl h
    · exact rest_all r i hi
theorem rest_init {nr n : Nat} : ∀ {l : List Ins}, RestOk nr n l → ∀ i ∈ l.dropLast, insOk nr n 3 i = true
  | _, .fev h, i, hi => nomatch hi
  | i0 :: [], .cons h r, i, hi => nomatch hi
  | i0 :: j :: l, .cons h r, i, hi => by
    rw [List.dropLast_cons₂] at hi
    rcases List.mem_cons.mp hi with rfl | hi
    · exact h
    · exact rest_init r i hi
theorem fev_ne {nr n : Nat} {b : List Ins} (h : fevOk nr n b) : b.isEmpty = false := by
  cases b with
  | nil => exact absurd h.2 (by decide)
  | cons _ _ => rfl
def sp_is_forever (K : PySem.W.Frag) (A : Adr) : Sp0 := fun vs H Q => ∃ (a cs : Addr) (b : List Ins) (nr n : Nat), vs = [.ref a, .ref cs] ∧ Dp K H (.ref a) (insD (.fev b)) ∧ SqL K H cs (cntL nr n) ∧ fevOk nr n b ∧ b.length ≤ 100 ∧ ∀ H', Same H H' → Q (.bl true) H'
theorem ok_is_forever (T : Txt K mg w A) : Fn PP w K mg base 10 A.is_forever (sp_is_forever K A) := by
  refine T.d_is_forever.go sc_is_forever fun cdv Ar outer s H vs Q hr h => ?_
  have nd := sc_is_forever.nd
  obtain ⟨a, cs, b, nr, n, rfl, hd, hc, hf, hlen, q⟩ := h
  obtain ⟨_, xs, e, hs, hx⟩ := dp_tupI hd
  cases e
  obtain ⟨v, r, rfl, hv, hr2⟩ := dpa_consI hx
  obtain ⟨v3, r, rfl, hv3, hr2⟩ := dpa_consI hr2
  obtain rfl := dpa_nilI hr2
  obtain rfl := dp_strI hv
  obtain ⟨a3, xs3, rfl, hs3, hx3⟩ := dp_tupI hv3
  refine ⟨_, (pss_cons (ps_if (PW.pt (pw_or (pt_not (pt_val (pe_f (ok_is_pair T) (hr.mono (by decide)) (by rfl) T.g_is_pair T.d_is_pair.kp (pa_cons (pv 0) pa_nil)))) (pw_or1 (pt_not (pt_val (pe_callB (isiK K) (by rfl) T.b_isinstance (by decide +kernel) (pa_cons (pe_ix (ixT K) (pv 0) pe_int (fun _ _ => rfl)) (pa_cons (pe_bltn (v := .ty "str") (by rfl) T.b_str (by decide +kernel) rfl) pa_nil))))))))
        (pss_one (ps_ret pe_bl))
        pss_nil)
      (pss_one (ps_ret (pe_and (pe_cm op_eq (pe_ix (ixT K) (pv 0) pe_int (fun _ _ => rfl)) pe_str) (pe_one (pe_f (ok_is_body_n T 3) (hr.mono (by decide)) (by rfl) T.g_is_body T.d_is_body.kp (pa_cons (pe_ix (ixT K) (pv 0) pe_int (fun _ _ => rfl)) (pa_cons (pv 1) (pa_cons (pe_gl (by rfl) T.g_MOST_DEPTH) pa_nil))))))))), ?_⟩
  refine ⟨_, rfl, _, _, rfl, hs, _, rfl, ?_⟩
  refine ifN' rfl ?_
  refine ⟨_, rfl, _, _, _, _, rfl, rfl, hs, at0, _, _, _, _, true, rfl, .ty _, .base (.str _), kit_ty (by decide +kernel), _, rfl, ?_⟩
  refine ifN' rfl ?_
  refine ⟨_, rfl, _, _, _, _, rfl, rfl, hs, at0, rfl, _, rfl, ?_⟩
  refine ifB' (decide_eq_true rfl) ?_
  exact ⟨_, rfl, _, _, _, _, rfl, rfl, hs, at1, _, rfl, a3, cs, b, nr, n, rfl, hv3, hc, fev_ne hf, hlen, hf.1, q⟩
def sp_is_script (K : PySem.W.Frag) (A : Adr) : Sp0 := fun vs H Q => ∃ (a cs : Addr) (l : List Ins) (nr n : Nat), vs = [.ref a, .ref cs] ∧ Dp K H (.ref a) (restD l) ∧ SqL K H cs (cntL nr n) ∧ RestOk nr n l ∧ l.length ≤ 1000 ∧ (∀ b, .fev b ∈ l → b.length ≤ 100) ∧ ∀ H', Same H H' → Q (.bl true) H'
theorem ok_is_script (T : Txt K mg w A) : Fn PP w K mg base 11 A.is_script (sp_is_script K A) := by
  refine T.d_is_script.go sc_is_script fun cdv Ar outer s H vs Q hr h => ?_
  have nd := sc_is_script.nd
  obtain ⟨a, cs, l, nr, n, rfl, hd, hc, hR, hlen, hfl, q⟩ := h
  obtain ⟨_, xs, e, hs, hx⟩ := dp_tupI hd
  cases e
  rw [insDs_map] at hx
  obtain ⟨zs, rfl, rfl, hz⟩ := pairs_of hx
  rw [List.length_map] at hlen
  refine ⟨_, (pss_cons (ps_if (pt_not (pt_val (pe_callB (isiK K) (by rfl) T.b_isinstance (by decide +kernel) (pa_cons (pv 0) (pa_cons (pe_bltn (v := .ty "tuple") (by rfl) T.b_tuple (by decide +kernel) rfl) pa_nil)))))
        (pss_one (ps_ret pe_bl))
        pss_nil)
      (pss_cons (ps_if (pt_not (pt_val (pe_callB (allK K rfl) (by rfl) T.b_all (by decide +kernel) (pa_cons (pe_lc (own := [("one", 2)]) (g := gName 2) (tt := tYes) rfl nd (pi_tup (pe_slice (slS K) (pv 0) po_none (po_some (pe_un un_neg pe_int)))) (blkOk_by (own := [("one", 2)]) (N := N_is_script) (sc := defScope s_is_script) (by decide +kernel))
        (fun _ _ _ _ _ => (pg_name (i := 2) nd rfl (Or.inl rfl))) (fun _ _ _ _ _ => pts_nil)
        (fun _ _ _ _ _ => (pe_f (ok_is_instruction_n T 3) (hr.mono (by decide)) (by rfl) T.g_is_instruction T.d_is_instruction.kp (pa_cons (pv 2) (pa_cons (pv 1) (pa_cons (pe_gl (by rfl) T.g_MOST_DEPTH) pa_nil)))))) pa_nil))))
        (pss_one (ps_ret pe_bl))
        pss_nil)
      (pss_one (ps_ret (pe_callB (allK K rfl) (by rfl) T.b_all (by decide +kernel) (pa_cons (pe_lc (own := [("one", 2)]) (g := gName 2) (tt := tYes) rfl nd (pi_tup (pe_slice (slS K) (pv 0) (po_some (pe_un un_neg pe_int)) po_none)) (blkOk_by (own := [("one", 2)]) (N := N_is_script) (sc := defScope s_is_script) (by decide +kernel))
        (fun _ _ _ _ _ => (pg_name (i := 2) nd rfl (Or.inl rfl))) (fun _ _ _ _ _ => pts_nil)
        (fun _ _ _ _ _ => (pe_or (pe_f (ok_is_instruction_n T 3) (hr.mono (by decide)) (by rfl) T.g_is_instruction T.d_is_instruction.kp (pa_cons (pv 2) (pa_cons (pv 1) (pa_cons (pe_gl (by rfl) T.g_MOST_DEPTH) pa_nil)))) (pe_one (pe_f (ok_is_forever T) (hr.mono (by decide)) (by rfl) T.g_is_forever T.d_is_forever.kp (pa_cons (pv 2) (pa_cons (pv 1) pa_nil))))))) pa_nil)))))), ?_⟩
  refine ⟨_, rfl, _, _, _, _, true, rfl, .ty _, tupX hs, kit_ty (by decide +kernel), _, rfl, ?_⟩
  refine ifN' rfl ?_
  have ei : cutV (zs.map (·.1)) none (some (-1)) = zs.dropLast.map (·.1) := by rw [cut_init, List.map_dropLast]
  have el : cutV (zs.map (·.1)) (some (-1)) none = (zs.drop (zs.length - 1)).map (·.1) := by rw [cut_last, List.map_drop, List.length_map]
  have hl1 : zs.dropLast.length ≤ sizeLine := Nat.le_of_lt (sz3 (by rw [List.length_dropLast]; omega))
  have hl2 : (zs.drop (zs.length - 1)).length ≤ sizeLine := Nat.le_of_lt (sz3 (by rw [List.length_drop]; omega))
  refine ⟨_, rfl, _, rfl, _, rfl, _, _, rfl, hs, fun t H2 s2 ht => ?_⟩
  have ht : SqT K H2 t (zs.dropLast.map (·.1)) := by rw [← ei]; exact ht
  refine ⟨_, rfl, ⟨_, ht⟩, fun D nD => lc_T (l := zs.dropLast) (h := (·.1)) (fun _ => true) (fun _ => .bl true) nD ht hl1 (fun z hz' H3 s3 Y N hY hN => ?_) fun H3 s3 eD => ?_⟩
  · have hzm := List.dropLast_subset _ hz'
    obtain ⟨a1, ea⟩ := insRef (hz z hzm)
    have s23 := s2.trans s3
    have hi := rest_init hR z.2 (by rw [← List.map_dropLast]; exact List.mem_map_of_mem hz')
    exact ⟨rfl, _, rfl, _, rfl, a1, cs, z.2, nr, n, by rw [ea]; rfl, ea ▸ dp_same s23 (hz z hzm), s23.seq hc, .inl ⟨hi, fun H' s' => hY rfl H' s'⟩⟩
  · obtain ⟨e1, e2⟩ := allT zs.dropLast
    rw [e1] at eD
    refine ⟨_, _, rfl, SqL.of eD, _, rfl, ?_⟩
    rw [e2]
    refine ifN' rfl ?_
    have s23 := s2.trans s3
    refine ⟨_, rfl, _, rfl, _, rfl, _, _, rfl, same_T s23 hs, fun t2 H4 s4 ht2 => ?_⟩
    have ht2 : SqT K H4 t2 ((zs.drop (zs.length - 1)).map (·.1)) := by rw [← el]; exact ht2
    refine ⟨_, rfl, ⟨_, ht2⟩, fun D2 nD2 => lc_T (l := zs.drop (zs.length - 1)) (h := (·.1)) (fun _ => true) (fun _ => .bl true) nD2 ht2 hl2 (fun z hz' H5 s5 Y N hY hN => ?_) fun H5 s5 eD2 => ?_⟩
    · have hzm := List.drop_subset _ _ hz'
      obtain ⟨a1, ea⟩ := insRef (hz z hzm)
      have s25 := (s23.trans s4).trans s5
      have hd1 : Dp K H5 (.ref a1) (insD z.2) := ea ▸ dp_same s25 (hz z hzm)
      refine ⟨rfl, ?_⟩
      rcases rest_all hR z.2 (List.mem_map_of_mem hzm) with hi | ⟨b, eb, hf⟩
      · refine ⟨_, rfl, _, rfl, a1, cs, z.2, nr, n, by rw [ea]; rfl, hd1, s25.seq hc, .inl ⟨hi, fun H' s' => ?_⟩⟩
        exact ⟨_, rfl, ifB' rfl (hY rfl H' s')⟩
      · refine ⟨_, rfl, _, rfl, a1, cs, z.2, nr, n, by rw [ea]; rfl, hd1, s25.seq hc, .inr ⟨⟨b, eb⟩, fun H' s' => ?_⟩⟩
        refine ⟨_, rfl, ifN' rfl ?_⟩
        rw [eb] at hd1
        exact ⟨_, rfl, _, rfl, a1, cs, b, nr, n, by rw [ea], dp_same s' hd1, (s25.trans s').seq hc, hf, hfl b (eb ▸ List.mem_map_of_mem hzm), fun H' s'' => hY rfl H' (s'.trans s'')⟩
    · obtain ⟨e1, e2⟩ := allT (zs.drop (zs.length - 1))
      rw [e1] at eD2
      refine ⟨_, _, rfl, SqL.of eD2, ?_⟩
      rw [e2]
      exact q _ ((s23.trans s4).trans s5)
end Ev
namespace Ev
open PySem PySem.Spec PyProof.Rows L2
variable {w : World} {K : PySem.W.Frag} {mg : Str → Option Value} {base : Heap} {A : Adr}

mutual
def depI : Ins → Nat
  | .rep _ b => depL b + 1
  | .fev b => depL b + 1
  | _ => 0
def depL : List Ins → Nat
  | [] => 0
  | i :: l => max (depI i) (depL l)
end
theorem dep_mem : ∀ {l : List Ins} {i : Ins}, i ∈ l → depI i ≤ depL l
  | j :: l, i, h => by
    simp only [depL]
    rcases List.mem_cons.mp h with rfl | h
    · exact Nat.le_max_left _ _
    · exact Nat.le_trans (dep_mem h) (Nat.le_max_right _ _)
theorem dep_le : ∀ {l : List Ins} {k : Nat}, (∀ i ∈ l, depI i ≤ k) → depL l ≤ k
  | [], _, _ => Nat.zero_le _
  | j :: l, k, h => by
    simp only [depL]
    exact Nat.max_le.mpr ⟨h j (List.mem_cons_self ..), dep_le fun i hi => h i (List.mem_cons_of_mem _ hi)⟩
theorem dep_ins {nr n : Nat} : ∀ {f : Nat} {i : Ins}, insOk nr n f i = true → depI i ≤ f := by
  intro f
  induction f with
  | zero => intro i h; cases i <;> simp_all [insOk, depI]
  | succ f ih =>
    intro i h
    cases i with
    | rep m b =>
      simp only [insOk, Bool.and_eq_true, List.all_eq_true] at h
      have := dep_le (l := b) (k := f) fun i hi => ih (h.2 i hi)
      simp only [depI]; omega
    | fev b => rw [insOk_nofev] at h; cases h
    | _ => exact Nat.zero_le _
theorem dep_rest {nr n : Nat} {l : List Ins} (h : RestOk nr n l) : depL l ≤ 3 := dep_le fun i hi => by
  rcases rest_all h i hi with h | ⟨b, rfl, h⟩
  · exact dep_ins h
  · have h1 := h.1
    rw [List.all_eq_true] at h1
    have := dep_le (l := b) (k := 2) fun i hi => dep_ins (h1 i hi)
    simp only [depI]; omega
/-- an instruction of data, opened -/
inductive InsV (K : PySem.W.Frag) (H : Hp) (a : Addr) : Ins → Prop where
  | wait {d : Nat} : SqT K H a [.str "wait", .int d] → InsV K H a (.wait d)
  | take {r k : Nat} : SqT K H a [.str "take", .int r, .int k] → InsV K H a (.take r k)
  | give {r : Nat} : SqT K H a [.str "give", .int r] → InsV K H a (.give r)
  | rouse {p : Nat} : SqT K H a [.str "rouse", .int p] → InsV K H a (.rouse p)
  | rep {m : Nat} {b : List Ins} {t : Addr} : SqT K H a [.str "repeat", .int m, .ref t] → Dp K H (.ref t) (.tuple (insDs b)) → InsV K H a (.rep m b)
  | fev {b : List Ins} {t : Addr} : SqT K H a [.str "forever", .ref t] → Dp K H (.ref t) (.tuple (insDs b)) → InsV K H a (.fev b)
theorem insV {H : Hp} {a : Addr} {i : Ins} (h : Dp K H (.ref a) (insD i)) : InsV K H a i := by
  cases i <;> (obtain ⟨_, xs, e, hs, hx⟩ := dp_tupI h; cases e)
  case wait d =>
    obtain ⟨v, r, rfl, hv, hr⟩ := dpa_consI hx
    obtain ⟨v2, r, rfl, hv2, hr⟩ := dpa_consI hr
    obtain rfl := dpa_nilI hr
    obtain rfl := dp_strI hv
    obtain rfl := dp_intI hv2
    exact .wait hs
  case take q k =>
    obtain ⟨v, r, rfl, hv, hr⟩ := dpa_consI hx
    obtain ⟨v2, r, rfl, hv2, hr⟩ := dpa_consI hr
    obtain ⟨v3, r, rfl, hv3, hr⟩ := dpa_consI hr
    obtain rfl := dpa_nilI hr
    obtain rfl := dp_strI hv
    obtain rfl := dp_intI hv2
    obtain rfl := dp_intI hv3
    exact .take hs
  case give q =>
    obtain ⟨v, r, rfl, hv, hr⟩ := dpa_consI hx
    obtain ⟨v2, r, rfl, hv2, hr⟩ := dpa_consI hr
    obtain rfl := dpa_nilI hr
    obtain rfl := dp_strI hv
    obtain rfl := dp_intI hv2
    exact .give hs
  case rouse q =>
    obtain ⟨v, r, rfl, hv, hr⟩ := dpa_consI hx
    obtain ⟨v2, r, rfl, hv2, hr⟩ := dpa_consI hr
    obtain rfl := dpa_nilI hr
    obtain rfl := dp_strI hv
    obtain rfl := dp_intI hv2
    exact .rouse hs
  case rep m b =>
    obtain ⟨v, r, rfl, hv, hr⟩ := dpa_consI hx
    obtain ⟨v2, r, rfl, hv2, hr⟩ := dpa_consI hr
    obtain ⟨v3, r, rfl, hv3, hr⟩ := dpa_consI hr
    obtain rfl := dpa_nilI hr
    obtain rfl := dp_strI hv
    obtain rfl := dp_intI hv2
    obtain ⟨t, _, rfl, _⟩ := dp_tupI hv3
    exact .rep hs hv3
  case fev b =>
    obtain ⟨v, r, rfl, hv, hr⟩ := dpa_consI hx
    obtain ⟨v3, r, rfl, hv3, hr⟩ := dpa_consI hr
    obtain rfl := dpa_nilI hr
    obtain rfl := dp_strI hv
    obtain ⟨t, _, rfl, _⟩ := dp_tupI hv3
    exact .fev hs hv3
def sp_held_after (K : PySem.W.Frag) (A : Adr) (f : Nat) : Sp0 := fun vs H Q => ∃ (a : Addr) (l : List Ins) (r c d : Nat), vs = [.ref a, .int r, .int c] ∧ Dp K H (.ref a) (.tuple (insDs l)) ∧ depL l ≤ f ∧ runC r l c = some d ∧ Q (.int d) H
theorem ok_held_after_s (T : Txt K mg w A) {f : Nat} (hI : ∀ g, g < f → Fn PP w K mg base (g + 1) A.held_after (sp_held_after K A g)) : Fn PP w K mg base (f + 1) A.held_after (sp_held_after K A f) := by
  refine T.d_held_after.go sc_held_after fun cdv Ar outer s H vs Q hr h => ?_
  have nd := sc_held_after.nd
  obtain ⟨a, l, r, c, d, rfl, hd, hdep, hrun, q⟩ := h
  have hh : Fn PP w K mg base f A.held_after (fun vs H Q => ∃ g, g < f ∧ sp_held_after K A g vs H Q) := fun A' ou s' H' us vs' Q' hr' e0 rv ⟨g, hg, h'⟩ => hI g hg A' ou s' H' us vs' Q' (hr'.mono hg) e0 rv h'
  obtain ⟨_, xs, e, hs, hx⟩ := dp_tupI hd
  cases e
  rw [insDs_map] at hx
  obtain ⟨zs, rfl, rfl, hz⟩ := pairs_of hx
  refine ⟨_, (pss_cons (ps_for PassesOwn.never rfl (pi_tup (pv 0)) (pg_name (i := 3) nd rfl (Or.inl rfl))
        (pss_cons (ps_if (PW.pt (pw_and (pt_cm op_eq (pe_ix (ixT K) (pv 3) pe_int (fun _ _ => rfl)) pe_str) (pw_and1 (pt_cm op_eq (pe_ix (ixT K) (pv 3) pe_int (fun _ _ => rfl)) (pv 1)))))
          (pss_one (ps_set (i := 2) nd rfl (Or.inl rfl) (pe_op op_add (pv 2) pe_int)))
          (pss_one (ps_if (PW.pt (pw_and (pt_cm op_eq (pe_ix (ixT K) (pv 3) pe_int (fun _ _ => rfl)) pe_str) (pw_and1 (pt_cm op_eq (pe_ix (ixT K) (pv 3) pe_int (fun _ _ => rfl)) (pv 1)))))
            (pss_one (ps_set (i := 2) nd rfl (Or.inl rfl) (pe_op op_sub (pv 2) pe_int)))
            (pss_one (ps_if (PW.pt (pw_and (pt_cm op_eq (pe_ix (ixT K) (pv 3) pe_int (fun _ _ => rfl)) pe_str) (pw_and1 (pt_cm op_ne (pe_f hh hr (by rfl) T.g_held_after T.d_held_after.kp (pa_cons (pe_ix (ixT K) (pv 3) pe_int (fun _ _ => rfl)) (pa_cons (pv 1) (pa_cons (pv 2) pa_nil)))) (pv 2)))))
              (pss_one (ps_ret pe_non))
              (pss_one (ps_if (PW.pt (pw_and (pt_cm op_eq (pe_ix (ixT K) (pv 3) pe_int (fun _ _ => rfl)) pe_str) (pw_and1 (PW.pt (pw_or (pt_cm op_ne (pv 2) pe_int) (pw_or1 (pt_cm op_ne (pe_f hh hr (by rfl) T.g_held_after T.d_held_after.kp (pa_cons (pe_ix (ixT K) (pv 3) pe_int (fun _ _ => rfl)) (pa_cons (pv 1) (pa_cons pe_int pa_nil)))) pe_int)))))))
                (pss_one (ps_ret pe_non))
                pss_nil)))))))
        (pss_one (ps_if (pt_cm op_lt (pv 2) pe_int)
          (pss_one (ps_ret pe_non))
          pss_nil))))
      (pss_one (ps_ret (pv 2)))), ?_⟩
  refine ⟨_, rfl, _, rfl, ⟨_, hs⟩, for_it (walk_tup (xs := zs.map (·.1))) (fun i σ H' => H' = H ∧ ∃ (c' : Nat) (z : Option V), σ = [some (.ref a), some (.int r), some (.int c'), z] ∧ runC r ((zs.map (·.2)).drop i) c' = some d)
    ⟨rfl, c, none, rfl, hrun⟩ (fun i σ H' _ h => by rw [h.1]; exact hs) (fun i x σ H1 H2 hi ⟨e1, c', z, eσ, hrc⟩ ⟨e2, hx2⟩ => ?_) fun σ H1 ⟨e1, c', z, eσ, hrc⟩ => ?_⟩
  · subst e1 e2 eσ
    rw [List.length_map] at hi
    have ex : x = zs[i].1 := by
      rw [List.getElem?_map, List.getElem?_eq_getElem hi] at hx2
      exact (Option.some.inj hx2).symm
    have hdr : (zs.map (·.2)).drop i = zs[i].2 :: (zs.map (·.2)).drop (i + 1) := by
      rw [List.drop_eq_getElem_cons (by rw [List.length_map]; exact hi), List.getElem_map]
    have hmem : zs[i].2 ∈ zs.map (·.2) := List.mem_map_of_mem (List.getElem_mem hi)
    have hdi := hz zs[i] (List.getElem_mem hi)
    rw [hdr] at hrc
    generalize zs[i].2 = ins at hdi hmem hrc
    obtain ⟨a1, ea⟩ := insRef hdi
    rw [ea] at hdi ex
    subst ex
    have hv := insV hdi
    have hdm := Nat.le_trans (dep_mem hmem) hdep
    have hrc : ((runI r ins c').bind fun e => runC r ((zs.map (·.2)).drop (i + 1)) e) = some d := hrc
    cases hv with
    | wait hv =>
      refine ⟨_, rfl, _, _, _, _, rfl, rfl, hv, at0, rfl, _, rfl, ifN' (by decide) (ifN' rfl ?_)⟩
      refine ⟨_, rfl, _, _, _, _, rfl, rfl, hv, at0, rfl, _, rfl, ifN' (by decide) (ifN' rfl ?_)⟩
      refine ⟨_, rfl, _, _, _, _, rfl, rfl, hv, at0, rfl, _, rfl, ifN' (by decide) (ifN' rfl ?_)⟩
      refine ⟨_, rfl, _, _, _, _, rfl, rfl, hv, at0, rfl, _, rfl, ifN' (by decide) (ifN' rfl ?_)⟩
      exact ⟨_, rfl, _, _, rfl, rfl, _, rfl, ifN' (decide_eq_false (by omega)) ⟨rfl, c', _, rfl, hrc⟩⟩
    | rouse hv =>
      refine ⟨_, rfl, _, _, _, _, rfl, rfl, hv, at0, rfl, _, rfl, ifN' (by decide) (ifN' rfl ?_)⟩
      refine ⟨_, rfl, _, _, _, _, rfl, rfl, hv, at0, rfl, _, rfl, ifN' (by decide) (ifN' rfl ?_)⟩
      refine ⟨_, rfl, _, _, _, _, rfl, rfl, hv, at0, rfl, _, rfl, ifN' (by decide) (ifN' rfl ?_)⟩
      refine ⟨_, rfl, _, _, _, _, rfl, rfl, hv, at0, rfl, _, rfl, ifN' (by decide) (ifN' rfl ?_)⟩
      exact ⟨_, rfl, _, _, rfl, rfl, _, rfl, ifN' (decide_eq_false (by omega)) ⟨rfl, c', _, rfl, hrc⟩⟩
    | @take r' k hv =>
      refine ⟨_, rfl, _, _, _, _, rfl, rfl, hv, at0, rfl, _, rfl, ifB' (decide_eq_true rfl) ?_⟩
      refine ⟨_, rfl, _, _, _, _, rfl, rfl, hv, at1, _, rfl, rfl, _, rfl, ?_⟩
      have hrc : runC r ((zs.map (·.2)).drop (i + 1)) (if r' = r then c' + 1 else c') = some d := hrc
      by_cases h : r' = r
      · rw [if_pos h] at hrc
        refine ifB' (by rw [dint, decide_eq_true h]) ?_
        exact ⟨_, rfl, _, _, rfl, rfl, _, rfl, _, _, rfl, rfl, _, rfl, ifN' (decide_eq_false (by omega)) ⟨rfl, c' + 1, _, rfl, hrc⟩⟩
      · rw [if_neg h] at hrc
        refine ifN' (by rw [dint, decide_eq_false h]) ?_
        refine ⟨_, rfl, _, _, _, _, rfl, rfl, hv, at0, rfl, _, rfl, ifN' (by decide) (ifN' rfl ?_)⟩
        refine ⟨_, rfl, _, _, _, _, rfl, rfl, hv, at0, rfl, _, rfl, ifN' (by decide) (ifN' rfl ?_)⟩
        refine ⟨_, rfl, _, _, _, _, rfl, rfl, hv, at0, rfl, _, rfl, ifN' (by decide) (ifN' rfl ?_)⟩
        exact ⟨_, rfl, _, _, rfl, rfl, _, rfl, ifN' (decide_eq_false (by omega)) ⟨rfl, c', _, rfl, hrc⟩⟩
    | @give r' hv =>
      refine ⟨_, rfl, _, _, _, _, rfl, rfl, hv, at0, rfl, _, rfl, ifN' (by decide) (ifN' rfl ?_)⟩
      refine ⟨_, rfl, _, _, _, _, rfl, rfl, hv, at0, rfl, _, rfl, ifB' (decide_eq_true rfl) ?_⟩
      refine ⟨_, rfl, _, _, _, _, rfl, rfl, hv, at1, _, rfl, rfl, _, rfl, ?_⟩
      have hrc : ((if r' = r then (if c' = 0 then none else some (c' - 1)) else some c').bind fun e => runC r ((zs.map (·.2)).drop (i + 1)) e) = some d := hrc
      by_cases h : r' = r
      · rw [if_pos h] at hrc
        by_cases h0 : c' = 0
        · rw [if_pos h0] at hrc; cases hrc
        · rw [if_neg h0] at hrc
          refine ifB' (by rw [dint, decide_eq_true h]) ?_
          have e1 : ((c' : Int) - 1) = ((c' - 1 : Nat) : Int) := by omega
          exact ⟨_, rfl, _, _, rfl, rfl, _, rfl, _, _, rfl, rfl, _, rfl, ifN' (decide_eq_false (by omega)) ⟨rfl, c' - 1, _, by rw [← e1]; rfl, hrc⟩⟩
      · rw [if_neg h] at hrc
        refine ifN' (by rw [dint, decide_eq_false h]) ?_
        refine ⟨_, rfl, _, _, _, _, rfl, rfl, hv, at0, rfl, _, rfl, ifN' (by decide) (ifN' rfl ?_)⟩
        refine ⟨_, rfl, _, _, _, _, rfl, rfl, hv, at0, rfl, _, rfl, ifN' (by decide) (ifN' rfl ?_)⟩
        exact ⟨_, rfl, _, _, rfl, rfl, _, rfl, ifN' (decide_eq_false (by omega)) ⟨rfl, c', _, rfl, hrc⟩⟩
    | @rep m' b t hv hb =>
      have hrc : ((if runC r b c' = some c' then some c' else none).bind fun e => runC r ((zs.map (·.2)).drop (i + 1)) e) = some d := hrc
      by_cases h : runC r b c' = some c'
      · rw [if_pos h] at hrc
        simp only [depI] at hdm
        refine ⟨_, rfl, _, _, _, _, rfl, rfl, hv, at0, rfl, _, rfl, ifN' (by decide) (ifN' rfl ?_)⟩
        refine ⟨_, rfl, _, _, _, _, rfl, rfl, hv, at0, rfl, _, rfl, ifN' (by decide) (ifN' rfl ?_)⟩
        refine ⟨_, rfl, _, _, _, _, rfl, rfl, hv, at0, rfl, _, rfl, ifB' (decide_eq_true rfl) ?_⟩
        refine ⟨_, rfl, _, _, _, _, rfl, rfl, hv, at2, _, rfl, _, rfl, depL b, by omega, t, b, r, c', c', rfl, hb, Nat.le_refl _, h, _, rfl, rfl, _, rfl, ifN' (by simp) ?_⟩
        refine ⟨_, rfl, _, _, _, _, rfl, rfl, hv, at0, rfl, _, rfl, ifN' (by decide) (ifN' rfl ?_)⟩
        exact ⟨_, rfl, _, _, rfl, rfl, _, rfl, ifN' (decide_eq_false (by omega)) ⟨rfl, c', _, rfl, hrc⟩⟩
      · rw [if_neg h] at hrc; cases hrc
    | @fev b t hv hb =>
      have hrc : ((if c' = 0 ∧ runC r b 0 = some 0 then some c' else none).bind fun e => runC r ((zs.map (·.2)).drop (i + 1)) e) = some d := hrc
      by_cases h : c' = 0 ∧ runC r b 0 = some 0
      · rw [if_pos h] at hrc
        obtain ⟨rfl, h⟩ := h
        simp only [depI] at hdm
        refine ⟨_, rfl, _, _, _, _, rfl, rfl, hv, at0, rfl, _, rfl, ifN' (by decide) (ifN' rfl ?_)⟩
        refine ⟨_, rfl, _, _, _, _, rfl, rfl, hv, at0, rfl, _, rfl, ifN' (by decide) (ifN' rfl ?_)⟩
        refine ⟨_, rfl, _, _, _, _, rfl, rfl, hv, at0, rfl, _, rfl, ifN' (by decide) (ifN' rfl ?_)⟩
        refine ⟨_, rfl, _, _, _, _, rfl, rfl, hv, at0, rfl, _, rfl, ifB' (decide_eq_true rfl) ?_⟩
        refine ⟨_, rfl, rfl, _, rfl, ifN' (by simp) ?_⟩
        refine ⟨_, rfl, _, _, _, _, rfl, rfl, hv, at1, _, rfl, depL b, by omega, t, b, r, 0, 0, rfl, hb, Nat.le_refl _, h, rfl, _, rfl, ifN' (by simp) ?_⟩
        exact ⟨_, rfl, _, _, rfl, rfl, _, rfl, ifN' (decide_eq_false (by omega)) ⟨rfl, 0, _, rfl, hrc⟩⟩
      · rw [if_neg h] at hrc; cases hrc
  · subst e1 eσ
    rw [List.length_map, List.drop_of_length_le (by rw [List.length_map]; exact Nat.le_refl _)] at hrc
    have hrc : some c' = some d := hrc
    cases hrc
    exact ⟨_, rfl, q⟩
theorem ok_held_after_n (T : Txt K mg w A) (f : Nat) : Fn PP w K mg base (f + 1) A.held_after (sp_held_after K A f) := by
  induction f using Nat.strongRecOn with
  | ind f ih => exact ok_held_after_s T ih
end Ev
namespace Ev
open PySem PySem.Spec PyProof.Rows L2
variable {w : World} {K : PySem.W.Frag} {mg : Str → Option Value} {base : Heap} {A : Adr}

mutual
def tmI : Ins → Nat
  | .wait d => d
  | .rep m b => m * tmL b
  | _ => 0
def tmL : List Ins → Nat
  | [] => 0
  | i :: l => tmI i + tmL l
end
mutual
/-- a bound for every number that comes up -/
def bigI : Ins → Nat
  | .wait d => d
  | .rep m b => m + (m + 1) * bigL b
  | _ => 0
def bigL : List Ins → Nat
  | [] => 0
  | i :: l => bigI i + bigL l
end
mutual
theorem tm_bigI : ∀ i : Ins, tmI i ≤ bigI i
  | .wait d => Nat.le_refl _
  | .rep m b => by
    simp only [tmI, bigI]
    have : m * tmL b ≤ (m + 1) * bigL b := Nat.mul_le_mul (Nat.le_succ m) (tm_bigL b)
    omega
  | .take _ _ => Nat.le_refl _
  | .give _ => Nat.le_refl _
  | .rouse _ => Nat.le_refl _
  | .fev _ => Nat.le_refl _
theorem tm_bigL : ∀ l : List Ins, tmL l ≤ bigL l
  | [] => Nat.le_refl _
  | i :: l => Nat.add_le_add (tm_bigI i) (tm_bigL l)
end
theorem big_mem : ∀ {l : List Ins} {i : Ins}, i ∈ l → bigI i ≤ bigL l
  | j :: l, i, h => by
    simp only [bigL]
    rcases List.mem_cons.mp h with rfl | h
    · omega
    · have := big_mem h; omega
theorem pw_tm : ∀ l : List Ins, pwL l ≤ tmL l
  | [] => Nat.le_refl _
  | i :: l => by
    refine Nat.add_le_add ?_ (pw_tm l)
    cases i with
    | wait d => cases d <;> simp [pwI, tmI]
    | _ => exact Nat.zero_le _
theorem big_all : ∀ {l : List Ins} {k : Nat}, (∀ i ∈ l, bigI i ≤ k) → bigL l ≤ l.length * k
  | [], _, _ => Nat.zero_le _
  | j :: l, k, h => by
    have h1 := h j (List.mem_cons_self ..)
    have h2 := big_all fun i hi => h i (List.mem_cons_of_mem _ hi)
    simp only [bigL, List.length_cons, Nat.succ_mul]; omega
theorem big_ins {nr n : Nat} : ∀ {f : Nat} {i : Ins}, insOk nr n f i = true → bigI i ≤ 100 * 700 ^ f := by
  intro f
  induction f with
  | zero =>
    intro i h
    cases i with
    | wait d => have := of_decide_eq_true (show decide (d ≤ 100) = true from h); simp only [bigI]; omega
    | rep m b => cases h
    | _ => exact Nat.zero_le _
  | succ f ih =>
    intro i h
    have hp : 1 ≤ 700 ^ f := Nat.pos_of_ne_zero (by simp)
    cases i with
    | wait d => have := of_decide_eq_true (show decide (d ≤ 100) = true from h); simp only [bigI]; rw [Nat.pow_succ]; omega
    | rep m b =>
      have h : (decide (m ≤ 5) && (!b.isEmpty && decide (b.length ≤ 100)) && b.all (insOk nr n f)) = true := h
      rw [Bool.and_eq_true, Bool.and_eq_true, Bool.and_eq_true, decide_eq_true_eq, decide_eq_true_eq, List.all_eq_true] at h
      have h1 := big_all (l := b) fun i hi => ih (h.2 i hi)
      have h2 : b.length * (100 * 700 ^ f) ≤ 100 * (100 * 700 ^ f) := Nat.mul_le_mul_right _ h.1.2.2
      have h3 : (m + 1) * bigL b ≤ 6 * (100 * (100 * 700 ^ f)) := Nat.mul_le_mul (by omega) (Nat.le_trans h1 h2)
      simp only [bigI]; rw [Nat.pow_succ]; omega
    | _ => exact Nat.zero_le _
def sp_time_of (K : PySem.W.Frag) (A : Adr) (f : Nat) : Sp0 := fun vs H Q => ∃ (a : Addr) (l : List Ins), vs = [.ref a] ∧ Dp K H (.ref a) (.tuple (insDs l)) ∧ depL l ≤ f ∧ bigL l < 2 ^ 40 ∧ Q (.int (tmL l)) H
theorem ok_time_of_s (T : Txt K mg w A) {f : Nat} (hI : ∀ g, g < f → Fn PP w K mg base (g + 1) A.time_of (sp_time_of K A g)) : Fn PP w K mg base (f + 1) A.time_of (sp_time_of K A f) := by
  refine T.d_time_of.go sc_time_of fun cdv Ar outer s H vs Q hr h => ?_
  have nd := sc_time_of.nd
  obtain ⟨a, l, rfl, hd, hdep, hbig, q⟩ := h
  have hh : Fn PP w K mg base f A.time_of (fun vs H Q => ∃ g, g < f ∧ sp_time_of K A g vs H Q) := fun A' ou s' H' us vs' Q' hr' e0 rv ⟨g, hg, h'⟩ => hI g hg A' ou s' H' us vs' Q' (hr'.mono hg) e0 rv h'
  obtain ⟨_, xs, e, hs, hx⟩ := dp_tupI hd
  cases e
  rw [insDs_map] at hx
  obtain ⟨zs, rfl, rfl, hz⟩ := pairs_of hx
  refine ⟨_, (pss_cons (ps_set (i := 1) nd rfl (Or.inl rfl) pe_int)
      (pss_cons (ps_for PassesOwn.never rfl (pi_tup (pv 0)) (pg_name (i := 2) nd rfl (Or.inl rfl))
        (pss_one (ps_if (pt_cm op_eq (pe_ix (ixT K) (pv 2) pe_int (fun _ _ => rfl)) pe_str)
          (pss_one (ps_set (i := 1) nd rfl (Or.inl rfl) (pe_op op_add (pv 1) (pe_ix (ixT K) (pv 2) pe_int (fun _ _ => rfl)))))
          (pss_one (ps_if (pt_cm op_eq (pe_ix (ixT K) (pv 2) pe_int (fun _ _ => rfl)) pe_str)
            (pss_one (ps_set (i := 1) nd rfl (Or.inl rfl) (pe_op op_add (pv 1) (pe_op op_mulW (pe_ix (ixT K) (pv 2) pe_int (fun _ _ => rfl)) (pe_f hh hr (by rfl) T.g_time_of T.d_time_of.kp (pa_cons (pe_ix (ixT K) (pv 2) pe_int (fun _ _ => rfl)) pa_nil))))))
            pss_nil)))))
      (pss_one (ps_ret (pv 1))))), ?_⟩
  refine ⟨_, rfl, _, rfl, ⟨_, hs⟩, for_it (walk_tup (xs := zs.map (·.1))) (fun i σ H' => H' = H ∧ ∃ (c : Nat) (z : Option V), σ = [some (.ref a), some (.int c), z] ∧ tmL (zs.map (·.2)) = c + tmL ((zs.map (·.2)).drop i))
    ⟨rfl, 0, none, rfl, by rw [List.drop_zero]; omega⟩ (fun i σ H' _ h => by rw [h.1]; exact hs) (fun i x σ H1 H2 hi ⟨e1, c, z, eσ, hc⟩ ⟨e2, hx2⟩ => ?_) fun σ H1 ⟨e1, c, z, eσ, hc⟩ => ?_⟩
  · subst e1 e2 eσ
    rw [List.length_map] at hi
    have ex : x = zs[i].1 := by
      rw [List.getElem?_map, List.getElem?_eq_getElem hi] at hx2
      exact (Option.some.inj hx2).symm
    have hdr : (zs.map (·.2)).drop i = zs[i].2 :: (zs.map (·.2)).drop (i + 1) := by
      rw [List.drop_eq_getElem_cons (by rw [List.length_map]; exact hi), List.getElem_map]
    have hmem : zs[i].2 ∈ zs.map (·.2) := List.mem_map_of_mem (List.getElem_mem hi)
    have hdi := hz zs[i] (List.getElem_mem hi)
    rw [hdr] at hc
    generalize zs[i].2 = ins at hdi hmem hc
    obtain ⟨a1, ea⟩ := insRef hdi
    rw [ea] at hdi ex
    subst ex
    have hv := insV hdi
    have hdm := Nat.le_trans (dep_mem hmem) hdep
    have hbm := Nat.lt_of_le_of_lt (big_mem hmem) hbig
    simp only [tmL] at hc
    cases hv with
    | @wait d hv =>
      refine ⟨_, rfl, _, _, _, _, rfl, rfl, hv, at0, rfl, _, rfl, ifB' (decide_eq_true rfl) ?_⟩
      refine ⟨_, rfl, _, rfl, _, _, _, _, rfl, rfl, hv, at1, _, _, rfl, rfl, rfl, c + d, _, rfl, by simp only [tmI] at hc; omega⟩
    | rouse hv =>
      refine ⟨_, rfl, _, _, _, _, rfl, rfl, hv, at0, rfl, _, rfl, ifN' (by decide) ?_⟩
      refine ⟨_, rfl, _, _, _, _, rfl, rfl, hv, at0, rfl, _, rfl, ifN' (by decide) ?_⟩
      exact ⟨rfl, c, _, rfl, by simp only [tmI] at hc; omega⟩
    | take hv =>
      refine ⟨_, rfl, _, _, _, _, rfl, rfl, hv, at0, rfl, _, rfl, ifN' (by decide) ?_⟩
      refine ⟨_, rfl, _, _, _, _, rfl, rfl, hv, at0, rfl, _, rfl, ifN' (by decide) ?_⟩
      exact ⟨rfl, c, _, rfl, by simp only [tmI] at hc; omega⟩
    | give hv =>
      refine ⟨_, rfl, _, _, _, _, rfl, rfl, hv, at0, rfl, _, rfl, ifN' (by decide) ?_⟩
      refine ⟨_, rfl, _, _, _, _, rfl, rfl, hv, at0, rfl, _, rfl, ifN' (by decide) ?_⟩
      exact ⟨rfl, c, _, rfl, by simp only [tmI] at hc; omega⟩
    | fev hv hb =>
      refine ⟨_, rfl, _, _, _, _, rfl, rfl, hv, at0, rfl, _, rfl, ifN' (by decide) ?_⟩
      refine ⟨_, rfl, _, _, _, _, rfl, rfl, hv, at0, rfl, _, rfl, ifN' (by decide) ?_⟩
      exact ⟨rfl, c, _, rfl, by simp only [tmI] at hc; omega⟩
    | @rep m b t hv hb =>
      simp only [depI] at hdm
      simp only [bigI] at hbm
      have hbb : bigL b < 2 ^ 40 := by
        have : 1 * bigL b ≤ (m + 1) * bigL b := Nat.mul_le_mul_right _ (by omega)
        omega
      refine ⟨_, rfl, _, _, _, _, rfl, rfl, hv, at0, rfl, _, rfl, ifN' (by decide) ?_⟩
      refine ⟨_, rfl, _, _, _, _, rfl, rfl, hv, at0, rfl, _, rfl, ifB' (decide_eq_true rfl) ?_⟩
      refine ⟨_, rfl, _, rfl, _, _, _, _, rfl, rfl, hv, at1, _, rfl, _, _, _, _, rfl, rfl, hv, at2, depL b, by omega, t, b, rfl, hb, Nat.le_refl _, hbb, ?_⟩
      refine ⟨_, _, rfl, rfl, wide_mul (a := 40) (b := 40) (by rw [Int.natAbs_natCast]; omega) (by rw [Int.natAbs_natCast]; exact Nat.lt_of_le_of_lt (tm_bigL b) hbb) (by decide) (by decide) (by decide), ?_⟩
      exact ⟨_, _, rfl, rfl, rfl, c + m * tmL b, _, by rw [Int.natCast_add, Int.natCast_mul]; rfl, by simp only [tmI] at hc; omega⟩
  · subst e1 eσ
    rw [List.length_map, List.drop_of_length_le (by rw [List.length_map]; exact Nat.le_refl _)] at hc
    have hc : tmL (zs.map (·.2)) = c + 0 := hc
    rw [hc, Nat.add_zero] at q
    exact ⟨_, rfl, q⟩
theorem ok_time_of_n (T : Txt K mg w A) (f : Nat) : Fn PP w K mg base (f + 1) A.time_of (sp_time_of K A f) := by
  induction f using Nat.strongRecOn with
  | ind f ih => exact ok_time_of_s T ih
end Ev
namespace Ev
open PySem PySem.Spec PyProof.Rows L2
variable {w : World} {K : PySem.W.Frag} {mg : Str → Option Value} {base : Heap} {A : Adr}

def isFev : Ins → Bool
  | .fev _ => true
  | _ => false
theorem allF {α : Type} (l : List α) : (l.map fun _ => V.bl true) = (l.map fun _ => true).map V.bl ∧ (l.map fun _ => true).all id = true := by
  refine ⟨by rw [List.map_map]; rfl, by simp⟩
/-- what the program's check of a script needs -/
structure ScOk (nr n : Nat) (l : List Ins) : Prop where
  rest : RestOk nr n l
  len : l.length ≤ 1000
  fev : ∀ b, .fev b ∈ l → b.length ≤ 100
  bal : ∀ r, r < nr → runC r l 0 = some 0
def sp_is_sound (K : PySem.W.Frag) (A : Adr) : Sp0 := fun vs H Q => ∃ (a : Addr) (l : List Ins) (nr n : Nat), vs = [.ref a, .int nr] ∧ Dp K H (.ref a) (restD l) ∧ ScOk nr n l ∧ nr ≤ 100 ∧ ∀ H', Same H H' → Q (.bl true) H'
theorem ok_is_sound (T : Txt K mg w A) : Fn PP w K mg base 5 A.is_sound (sp_is_sound K A) := by
  refine T.d_is_sound.go sc_is_sound fun cdv Ar outer s H vs Q hr h => ?_
  have nd := sc_is_sound.nd
  obtain ⟨a, l, nr, n, rfl, hd, hS, hnr, q⟩ := h
  have hdp := dep_rest hS.rest
  have hd' : Dp K H (.ref a) (.tuple (insDs l)) := hd
  obtain ⟨_, xs, e, hs, hx⟩ := dp_tupI hd
  cases e
  rw [insDs_map] at hx
  obtain ⟨zs, rfl, rfl, hz⟩ := pairs_of hx
  have hlen := hS.len
  rw [List.length_map] at hlen
  refine ⟨_, (pss_cons (ps_if (pt_not (pt_val (pe_callB (allK K rfl) (by rfl) T.b_all (by decide +kernel) (pa_cons (pe_lc (own := [("resource", 2)]) (g := gName 2) (tt := tYes) rfl nd (pi_range1 (by rfl) T.b_range (pa_cons (pv 1) pa_nil)) (blkOk_by (own := [("resource", 2)]) (N := N_is_sound) (sc := defScope s_is_sound) (by decide +kernel))
        (fun _ _ _ _ _ => (pg_name (i := 2) nd rfl (Or.inl rfl))) (fun _ _ _ _ _ => pts_nil)
        (fun _ _ _ _ _ => (pe_cm op_eq (pe_f (ok_held_after_n T 3) (hr.mono (by decide)) (by rfl) T.g_held_after T.d_held_after.kp (pa_cons (pv 0) (pa_cons (pv 2) (pa_cons pe_int pa_nil)))) pe_int))) pa_nil))))
        (pss_one (ps_ret pe_bl))
        pss_nil)
      (pss_one (ps_ret (pe_callB (allK K rfl) (by rfl) T.b_all (by decide +kernel) (pa_cons (pe_lc (own := [("one", 3)]) (g := gName 3) (tt := _) rfl nd (pi_tup (pv 0)) (blkOk_by (own := [("one", 3)]) (N := N_is_sound) (sc := defScope s_is_sound) (by decide +kernel))
        (fun _ _ _ _ _ => (pg_name (i := 3) nd rfl (Or.inl rfl))) (fun _ _ _ _ _ => (pts_one (pt_cm op_eq (pe_ix (ixT K) (pv 3) pe_int (fun _ _ => rfl)) pe_str)))
        (fun _ _ _ _ _ => (pe_cm op_gt (pe_f (ok_time_of_n T 3) (hr.mono (by decide)) (by rfl) T.g_time_of T.d_time_of.kp (pa_cons (pe_ix (ixT K) (pv 3) pe_int (fun _ _ => rfl)) pa_nil)) pe_int))) pa_nil))))), ?_⟩
  refine ⟨_, rfl, nr, rfl, by omega, by omega, fun D nD => lc_R (n := nr) (fun _ => true) (fun _ => .bl true) nD (Nat.le_of_lt (sz3 (by omega))) (fun i hi H1 s1 Y N hY hN => ?_) fun H1 s1 eD => ?_⟩
  · refine ⟨rfl, ?_⟩
    refine ⟨_, rfl, _, rfl, a, zs.map (·.2), i, 0, 0, by rw [Int.zero_add]; rfl, dp_same s1 hd', hdp, hS.bal i hi, rfl, ?_⟩
    exact hY rfl _ (Same.refl _)
  · obtain ⟨e1, e2⟩ := allT (List.range nr)
    rw [e1] at eD
    refine ⟨_, _, rfl, SqL.of eD, _, rfl, ?_⟩
    rw [e2]
    refine ifN' rfl ?_
    refine ⟨_, rfl, _, rfl, ⟨_, same_T s1 hs⟩, fun D2 nD2 => lc_T (l := zs) (h := (·.1)) (fun z => isFev z.2) (fun _ => .bl true) nD2 (same_T s1 hs) (Nat.le_of_lt (sz3 (by omega))) (fun z hz' H2 s2 Y N hY hN => ?_) fun H2 s2 eD2 => ?_⟩
    · refine ⟨rfl, ?_⟩
      have s12 := s1.trans s2
      have hd1 := dp_same s12 (hz z hz')
      obtain ⟨a1, ea⟩ := insRef hd1
      rw [ea] at hd1
      have hv := insV hd1
      have hdm := dep_mem (List.mem_map_of_mem (f := (·.2)) hz')
      have hro := rest_all hS.rest z.2 (List.mem_map_of_mem hz')
      have hfl : ∀ b, z.2 = .fev b → b.length ≤ 100 := fun b e => hS.fev b (e ▸ List.mem_map_of_mem hz')
      revert hY hN
      generalize z.2 = ins at hv hdm hro hfl
      intro hY hN
      cases hv with
      | @fev b t hv hb =>
        refine ⟨_, by rw [ea]; rfl, _, _, _, _, rfl, rfl, hv, at0, rfl, _, rfl, ifB' (decide_eq_true rfl) ?_⟩
        simp only [depI] at hdm
        rcases hro with h | ⟨b', e, h⟩
        · rw [insOk_nofev] at h; cases h
        · cases e
          have h1 := h.1
          rw [List.all_eq_true] at h1
          have hb1 : bigL b ≤ b.length * (100 * 700 ^ 2) := big_all fun i hi => big_ins (h1 i hi)
          have hb2 := Nat.mul_le_mul_right (100 * 700 ^ 2) (hfl b rfl)
          refine ⟨_, by rw [ea]; rfl, _, _, _, _, rfl, rfl, hv, at1, t, b, rfl, hb, by omega, by omega, ?_⟩
          have := Nat.le_trans h.2 (pw_tm b)
          refine ⟨_, _, rfl, rfl, ?_⟩
          show Y (V.bl (decide ((tmL b : Int) > 0))) _
          rw [show decide ((tmL b : Int) > 0) = true from decide_eq_true (by omega)]
          exact hY rfl _ (Same.refl _)
      | wait hv => exact ⟨_, by rw [ea]; rfl, _, _, _, _, rfl, rfl, hv, at0, rfl, _, rfl, ifN' (by decide) (hN rfl _ (Same.refl _))⟩
      | take hv => exact ⟨_, by rw [ea]; rfl, _, _, _, _, rfl, rfl, hv, at0, rfl, _, rfl, ifN' (by decide) (hN rfl _ (Same.refl _))⟩
      | give hv => exact ⟨_, by rw [ea]; rfl, _, _, _, _, rfl, rfl, hv, at0, rfl, _, rfl, ifN' (by decide) (hN rfl _ (Same.refl _))⟩
      | rouse hv => exact ⟨_, by rw [ea]; rfl, _, _, _, _, rfl, rfl, hv, at0, rfl, _, rfl, ifN' (by decide) (hN rfl _ (Same.refl _))⟩
      | rep hv hb => exact ⟨_, by rw [ea]; rfl, _, _, _, _, rfl, rfl, hv, at0, rfl, _, rfl, ifN' (by decide) (hN rfl _ (Same.refl _))⟩
    · obtain ⟨e1, e2⟩ := allF (zs.filter fun z => isFev z.2)
      rw [e1] at eD2
      refine ⟨_, _, rfl, SqL.of eD2, ?_⟩
      rw [e2]
      exact q _ (s1.trans s2)
end Ev
namespace Ev
open PySem PySem.Spec PyProof.Rows L2
variable {w : World} {K : PySem.W.Frag} {mg : Str → Option Value} {base : Heap} {A : Adr}

/-- what the program's check of a model needs -/
structure ModOk (c : Cfg) : Prop where
  n1 : 1 ≤ c.n
  nLe : c.n ≤ 4
  nrLe : c.nr ≤ 3
  units : ∀ x ∈ c.res, 1 ≤ x.2 ∧ x.2 ≤ 3
  sc : ∀ s ∈ c.scripts, ScOk c.nr c.n s
theorem piTupK {X : Cx} {tg l : Expr} {tl : TE} (K : PySem.W.Frag) (hl : PE X l tl) (h : X.K = K := by rfl) : PI X tg l (iTup K tl) := by subst h; exact pi_tup hl
/-- the scope of the outer comprehension -/
abbrev scHP : Scope := { kind := .function, names := [(".0", .local), ("script", .local), ("is_script", .globalImplicit), ("thing", .cell)], isGenerator := false, isCoroutine := false }
def sp_has_parts (K : PySem.W.Frag) (A : Adr) : Sp0 := fun vs H Q => ∃ (a : Addr) (c : Cfg), vs = [.ref a] ∧ Dp K H (.ref a) (cfgD c) ∧ ModOk c ∧ ∀ H', Same H H' → Q (.bl true) H'
theorem ok_has_parts (T : Txt K mg w A) : Fn PP w K mg base 12 A.has_parts (sp_has_parts K A) := by
  refine T.d_has_parts.go sc_has_parts fun cdv Ar outer s H vs Q hr h => ?_
  have nd := sc_has_parts.nd
  obtain ⟨a, c, rfl, hd, hM, q⟩ := h
  obtain ⟨_, xs, e, hs, hx⟩ := dp_tupI hd
  cases e
  obtain ⟨v1, r, rfl, hv1, hr2⟩ := dpa_consI hx
  obtain ⟨v2, r, rfl, hv2, hr2⟩ := dpa_consI hr2
  obtain ⟨v3, r, rfl, hv3, hr2⟩ := dpa_consI hr2
  obtain ⟨v4, r, rfl, hv4, hr2⟩ := dpa_consI hr2
  obtain rfl := dpa_nilI hr2
  obtain ⟨a1, x1, rfl, hs1, hx1⟩ := dp_tupI hv1
  obtain ⟨a2, x2, rfl, hs2, hx2⟩ := dp_tupI hv2
  obtain ⟨a3, x3, rfl, hs3, hx3⟩ := dp_tupI hv3
  obtain ⟨a4, x4, rfl, hs4, hx4⟩ := dp_tupI hv4
  obtain rfl := dpa_nilI hx2
  obtain rfl := dpa_nilI hx3
  obtain ⟨zr, rfl, er, hzr⟩ := pairs_of hx1
  obtain ⟨zc, rfl, ec, hzc⟩ := pairs_of hx4
  refine ⟨_, (pss_cons (ps_if (pt_not (pt_val (pe_f (ok_is_tuple T) (hr.mono (by decide)) (by rfl) T.g_is_tuple T.d_is_tuple.kp (pa_cons (pv 0) (pa_cons pe_int (pa_cons pe_int pa_nil))))))
        (pss_one (ps_ret pe_bl))
        pss_nil)
      (pss_cons (ps_asg (pv 0) (pgT K (n := 4) rfl (pgs_cons (pg_name (i := 1) nd rfl (Or.inl rfl)) (pgs_cons (pg_name (i := 2) nd rfl (Or.inl rfl)) (pgs_cons (pg_name (i := 3) nd rfl (Or.inl rfl)) (pgs_cons (pg_name (i := 4) nd rfl (Or.inl rfl)) pgs_nil))))))
      (pss_cons (ps_if (PW.pt (pw_or (pt_not (pt_val (pe_f (ok_is_tuple T) (hr.mono (by decide)) (by rfl) T.g_is_tuple T.d_is_tuple.kp (pa_cons (pv 1) (pa_cons pe_int (pa_cons (pe_gl (by rfl) T.g_MOST_RESOURCES) pa_nil)))))) (pw_or1 (pt_not (pt_val (pe_callB (allK K rfl) (by rfl) T.b_all (by decide +kernel) (pa_cons (pe_lc (own := [("one", 5)]) (g := gName 5) (tt := tYes) rfl nd (pi_tup (pv 1)) (blkOk_by (own := [("one", 5)]) (N := N_has_parts) (sc := defScope s_has_parts) (by decide +kernel))
        (fun _ _ _ _ _ => (pg_name (i := 5) nd rfl (Or.inl rfl))) (fun _ _ _ _ _ => pts_nil)
        (fun _ _ _ _ _ => (pe_f (ok_is_resource T) (hr.mono (by decide)) (by rfl) T.g_is_resource T.d_is_resource.kp (pa_cons (pv 5) pa_nil)))) pa_nil)))))))
        (pss_one (ps_ret pe_bl))
        pss_nil)
      (pss_cons (ps_if (PW.pt (pw_or (pt_not (pt_val (pe_f (ok_is_tuple T) (hr.mono (by decide)) (by rfl) T.g_is_tuple T.d_is_tuple.kp (pa_cons (pv 2) (pa_cons pe_int (pa_cons (pe_gl (by rfl) T.g_MOST_STORES) pa_nil)))))) (pw_or1 (pt_not (pt_val (pe_callB (allK K rfl) (by rfl) T.b_all (by decide +kernel) (pa_cons (pe_lc (own := [("one", 5)]) (g := gName 5) (tt := tYes) rfl nd (pi_tup (pv 2)) (blkOk_by (own := [("one", 5)]) (N := N_has_parts) (sc := defScope s_has_parts) (by decide +kernel))
        (fun _ _ _ _ _ => (pg_name (i := 5) nd rfl (Or.inl rfl))) (fun _ _ _ _ _ => pts_nil)
        (fun _ _ _ _ _ => pe_never)) pa_nil)))))))
        (pss_one (ps_ret pe_bl))
        pss_nil)
      (pss_cons (ps_if (PW.pt (pw_or (pt_not (pt_val (pe_f (ok_is_tuple T) (hr.mono (by decide)) (by rfl) T.g_is_tuple T.d_is_tuple.kp (pa_cons (pv 3) (pa_cons pe_int (pa_cons (pe_gl (by rfl) T.g_MOST_GATES) pa_nil)))))) (pw_or1 (pt_not (pt_val (pe_callB (allK K rfl) (by rfl) T.b_all (by decide +kernel) (pa_cons (pe_lc (own := [("one", 5)]) (g := gName 5) (tt := tYes) rfl nd (pi_tup (pv 3)) (blkOk_by (own := [("one", 5)]) (N := N_has_parts) (sc := defScope s_has_parts) (by decide +kernel))
        (fun _ _ _ _ _ => (pg_name (i := 5) nd rfl (Or.inl rfl))) (fun _ _ _ _ _ => pts_nil)
        (fun _ _ _ _ _ => pe_never)) pa_nil)))))))
        (pss_one (ps_ret pe_bl))
        pss_nil)
      (pss_cons (ps_if (pt_not (pt_val (pe_f (ok_is_tuple T) (hr.mono (by decide)) (by rfl) T.g_is_tuple T.d_is_tuple.kp (pa_cons (pv 4) (pa_cons pe_int (pa_cons (pe_gl (by rfl) T.g_MOST_SCRIPTS) pa_nil))))))
        (pss_one (ps_ret pe_bl))
        pss_nil)
      (pss_one (ps_ret (pe_callB (allK K rfl) (by rfl) T.b_all (by decide +kernel) (pa_cons (pe_lc (own := [("script", 7)]) (g := gName 7) (tt := tYes) rfl nd (pi_tup (pv 4)) (blkOk_by (own := [("script", 7)]) (N := N_has_parts) (sc := defScope s_has_parts) (by decide +kernel))
        (fun _ _ _ _ _ => (pg_name (i := 7) nd rfl (Or.inl rfl))) (fun _ _ _ _ _ => pts_nil)
        (fun _ _ _ _ _ => (pe_f (ok_is_script T) (hr.mono (by decide)) (by rfl) T.g_is_script T.d_is_script.kp (pa_cons (pv 7) (pa_cons (pe_lc (own := [("part", 6)]) (g := gName 6) (tt := tYes) rfl nd (piTupK K (pv 0)) (blkOk_by (own := [("part", 6)]) (N := N_has_parts) (sc := scHP) (by decide +kernel))
        (fun _ _ _ _ _ => (pg_name (i := 6) nd rfl (Or.inl rfl))) (fun _ _ _ _ _ => pts_nil)
        (fun _ _ _ _ _ => (pe_callB (lenK K) (by rfl) T.b_len (by decide +kernel) (pa_cons (pv 6) pa_nil)))) pa_nil))))) pa_nil)))))))))), ?_⟩
  have lr : zr.length = c.nr := by rw [← List.length_map (f := (·.2)), ← er]; rfl
  have lc : zc.length = c.n := by rw [← List.length_map (f := (·.2)), ← ec]; rfl
  have h1 := hM.n1
  have h2 := hM.nLe
  have h3 := hM.nrLe
  have szr : zr.length ≤ sizeLine := Nat.le_of_lt (sz3 (by omega))
  have szc : zc.length ≤ sizeLine := Nat.le_of_lt (sz3 (by omega))
  refine ⟨_, rfl, _, _, _, _, rfl, hs, .inr ⟨_, rfl⟩, _, rfl, ifN' rfl ?_⟩
  refine ⟨_, rfl, _, _, rfl, hs, rfl, _, _, rfl, _, _, rfl, _, _, rfl, _, _, rfl, rfl, ?_⟩
  refine ⟨_, rfl, _, _, _, _, rfl, hs1, .inr ⟨_, rfl⟩, _, rfl, ?_⟩
  refine ifN' (by unfold hiOk; rw [Bool.not_eq_false', Bool.and_eq_true, decide_eq_true_eq, decide_eq_true_eq, List.length_map]; omega) ?_
  refine ⟨_, rfl, _, rfl, ⟨_, hs1⟩, fun D nD => lc_T (l := zr) (h := (·.1)) (fun _ => true) (fun _ => .bl true) nD hs1 szr (fun z hz' H1 s1 Y N hY hN => ?_) fun H1 s1 eD => ?_⟩
  · refine ⟨rfl, ?_⟩
    have hd1 := dp_same s1 (hzr z hz')
    have hu := hM.units z.2 (er ▸ List.mem_map_of_mem hz')
    have hr1 : ∃ b, z.1 = .ref b := by obtain ⟨b, _, e, _⟩ := dp_tupI hd1; exact ⟨b, e⟩
    obtain ⟨b, eb⟩ := hr1
    exact ⟨_, rfl, b, z.2, by rw [eb], eb ▸ hd1, hu.1, hu.2, hY rfl _ (Same.refl _)⟩
  · obtain ⟨e1, e2⟩ := allT zr
    rw [e1] at eD
    refine ⟨_, _, rfl, SqL.of eD, _, rfl, ?_⟩
    rw [e2]
    refine ifN' rfl ?_
    refine ⟨_, rfl, _, _, _, _, rfl, same_T s1 hs2, .inr ⟨_, rfl⟩, _, rfl, ifN' rfl ?_⟩
    refine ⟨_, rfl, _, rfl, ⟨_, same_T s1 hs2⟩, fun D2 nD2 => lc_T (te := fun _ _ _ => False) (l := ([] : List V)) (h := id) (fun _ => true) (fun _ => .bl true) nD2 (same_T s1 hs2) (Nat.zero_le _) (fun z hz' => nomatch hz') fun H2 s2 eD2 => ?_⟩
    refine ⟨_, [], rfl, SqL.of eD2, _, rfl, ifN' rfl ?_⟩
    have s12 := s1.trans s2
    refine ⟨_, rfl, _, _, _, _, rfl, same_T s12 hs3, .inr ⟨_, rfl⟩, _, rfl, ifN' rfl ?_⟩
    refine ⟨_, rfl, _, rfl, ⟨_, same_T s12 hs3⟩, fun D3 nD3 => lc_T (te := fun _ _ _ => False) (l := ([] : List V)) (h := id) (fun _ => true) (fun _ => .bl true) nD3 (same_T s12 hs3) (Nat.zero_le _) (fun z hz' => nomatch hz') fun H3 s3 eD3 => ?_⟩
    refine ⟨_, [], rfl, SqL.of eD3, _, rfl, ifN' rfl ?_⟩
    have s13 := s12.trans s3
    refine ⟨_, rfl, _, _, _, _, rfl, same_T s13 hs4, .inr ⟨_, rfl⟩, _, rfl, ?_⟩
    refine ifN' (by unfold hiOk; rw [Bool.not_eq_false', Bool.and_eq_true, decide_eq_true_eq, decide_eq_true_eq, List.length_map]; omega) ?_
    refine ⟨_, rfl, _, rfl, ⟨_, same_T s13 hs4⟩, fun D4 nD4 => lc_T (l := zc) (h := (·.1)) (fun _ => true) (fun _ => .bl true) nD4 (same_T s13 hs4) szc (fun z hz' H4 s4 Y N hY hN => ?_) fun H4 s4 eD4 => ?_⟩
    · refine ⟨rfl, ?_⟩
      have s14 := s13.trans s4
      have hd1 := dp_same s14 (hzc z hz')
      have hsc := hM.sc z.2 (ec ▸ List.mem_map_of_mem hz')
      have hr1 : ∃ b, z.1 = .ref b := by obtain ⟨b, _, e, _⟩ := dp_tupI hd1; exact ⟨b, e⟩
      obtain ⟨b, eb⟩ := hr1
      rw [eb] at hd1
      let ln : List (V × Nat) := [(.ref a1, c.nr), (.ref a2, 0), (.ref a3, 0), (.ref a4, c.n)]
      refine ⟨_, by rw [eb]; rfl, _, rfl, _, rfl, ⟨_, same_T s14 hs⟩, fun D5 nD5 => lc_T (l := ln) (h := (·.1)) (fun _ => true) (fun z => .int z.2) nD5 (same_T s14 hs) (Nat.le_of_lt (sz3 (by show 4 ≤ 5000; omega))) (fun y hy H5 s5 Y2 N2 hY2 hN2 => ?_) fun H5 s5 eD5 => ?_⟩
      · have s15 := s14.trans s5
        refine ⟨rfl, ?_⟩
        have hy4 : y = (.ref a1, c.nr) ∨ y = (.ref a2, 0) ∨ y = (.ref a3, 0) ∨ y = (.ref a4, c.n) := by simpa [ln] using hy
        rcases hy4 with rfl | rfl | rfl | rfl
        · refine ⟨_, rfl, _, _, rfl, .inr (same_T s15 hs1), ?_⟩
          rw [List.length_map, lr]; exact hY2 rfl _ (Same.refl _)
        · exact ⟨_, rfl, _, _, rfl, .inr (same_T s15 hs2), hY2 rfl _ (Same.refl _)⟩
        · exact ⟨_, rfl, _, _, rfl, .inr (same_T s15 hs3), hY2 rfl _ (Same.refl _)⟩
        · refine ⟨_, rfl, _, _, rfl, .inr (same_T s15 hs4), ?_⟩
          rw [List.length_map, lc]; exact hY2 rfl _ (Same.refl _)
      · exact ⟨b, D5, z.2, c.nr, c.n, rfl, dp_same s5 hd1, SqL.of eD5, hsc.rest, hsc.len, hsc.fev, fun H' s' => hY rfl _ (s5.trans s')⟩
    · obtain ⟨e1, e2⟩ := allT zc
      rw [e1] at eD4
      refine ⟨_, _, rfl, SqL.of eD4, ?_⟩
      rw [e2]
      exact q _ (s13.trans s4)
end Ev
namespace Ev
open PySem PySem.Spec PyProof.Rows L2
variable {w : World} {K : PySem.W.Frag} {mg : Str → Option Value} {base : Heap} {A : Adr}

def sp_is_model (K : PySem.W.Frag) (A : Adr) : Sp0 := sp_has_parts K A
theorem ok_is_model (T : Txt K mg w A) : Fn PP w K mg base 13 A.is_model (sp_is_model K A) := by
  refine T.d_is_model.go sc_is_model fun cdv Ar outer s H vs Q hr h => ?_
  have nd := sc_is_model.nd
  obtain ⟨a, c, rfl, hd, hM, q⟩ := h
  obtain ⟨_, xs, e, hs, hx⟩ := dp_tupI hd
  cases e
  obtain ⟨v1, r, rfl, hv1, hr2⟩ := dpa_consI hx
  obtain ⟨v2, r, rfl, hv2, hr2⟩ := dpa_consI hr2
  obtain ⟨v3, r, rfl, hv3, hr2⟩ := dpa_consI hr2
  obtain ⟨v4, r, rfl, hv4, hr2⟩ := dpa_consI hr2
  obtain rfl := dpa_nilI hr2
  obtain ⟨a1, x1, rfl, hs1, hx1⟩ := dp_tupI hv1
  obtain ⟨a4, x4, rfl, hs4, hx4⟩ := dp_tupI hv4
  obtain ⟨zc, rfl, ec, hzc⟩ := pairs_of hx4
  have l1 : x1.length = c.nr := by rw [dpa_length hx1, List.length_map]; rfl
  have lc : zc.length = c.n := by rw [← List.length_map (f := (·.2)), ← ec]; rfl
  have h2 := hM.nLe
  have h3 := hM.nrLe
  have szc : zc.length ≤ sizeLine := Nat.le_of_lt (sz3 (by omega))
  refine ⟨_, (pss_one (ps_ret (pe_and (pe_f (ok_has_parts T) (hr.mono (by decide)) (by rfl) T.g_has_parts T.d_has_parts.kp (pa_cons (pv 0) pa_nil)) (pe_one (pe_callB (allK K rfl) (by rfl) T.b_all (by decide +kernel) (pa_cons (pe_lc (own := [("script", 1)]) (g := gName 1) (tt := tYes) rfl nd (pi_tup (pe_ix (ixT K) (pv 0) pe_int (fun _ _ => rfl))) (blkOk_by (own := [("script", 1)]) (N := N_is_model) (sc := defScope s_is_model) (by decide +kernel))
        (fun _ _ _ _ _ => (pg_name (i := 1) nd rfl (Or.inl rfl))) (fun _ _ _ _ _ => pts_nil)
        (fun _ _ _ _ _ => (pe_f (ok_is_sound T) (hr.mono (by decide)) (by rfl) T.g_is_sound T.d_is_sound.kp (pa_cons (pv 1) (pa_cons (pe_callB (lenK K) (by rfl) T.b_len (by decide +kernel) (pa_cons (pe_ix (ixT K) (pv 0) pe_int (fun _ _ => rfl)) pa_nil)) pa_nil))))) pa_nil)))))), ?_⟩
  refine ⟨_, rfl, a, c, rfl, hd, hM, fun H1 s1 => ?_⟩
  refine ⟨_, rfl, ifB' rfl ?_⟩
  refine ⟨_, rfl, _, _, _, _, rfl, rfl, same_T s1 hs, at3, _, rfl, ⟨_, same_T s1 hs4⟩, fun D nD => lc_T (l := zc) (h := (·.1)) (fun _ => true) (fun _ => .bl true) nD (same_T s1 hs4) szc (fun z hz' H2 s2 Y N hY hN => ?_) fun H2 s2 eD => ?_⟩
  · refine ⟨rfl, ?_⟩
    have s12 := s1.trans s2
    have hd1 := dp_same s12 (hzc z hz')
    have hsc := hM.sc z.2 (ec ▸ List.mem_map_of_mem hz')
    have hr1 : ∃ b, z.1 = .ref b := by obtain ⟨b, _, e, _⟩ := dp_tupI hd1; exact ⟨b, e⟩
    obtain ⟨b, eb⟩ := hr1
    rw [eb] at hd1
    exact ⟨_, by rw [eb]; rfl, _, rfl, _, _, _, _, rfl, rfl, same_T s12 hs, at0, _, _, rfl, .inr (same_T s12 hs1), b, z.2, c.nr, c.n, by rw [l1], hd1, hsc, by omega, fun H' s' => hY rfl _ s'⟩
  · obtain ⟨e1, e2⟩ := allT zc
    rw [e1] at eD
    refine ⟨_, _, rfl, SqL.of eD, ?_⟩
    rw [e2]
    exact q _ (s1.trans s2)
def sp_need_model (K : PySem.W.Frag) (A : Adr) : Sp0 := fun vs H Q => ∃ (a : Addr) (c : Cfg), vs = [.ref a] ∧ Dp K H (.ref a) (cfgD c) ∧ ModOk c ∧ ∀ H', Same H H' → Q .non H'
/-- need_model -/
theorem ok_need_model (T : Txt K mg w A) : Fn PP w K mg base 14 A.need_model (sp_need_model K A) := by
  refine T.d_need_model.go sc_need_model fun cdv Ar outer s H vs Q hr h => ?_
  have nd := sc_need_model.nd
  obtain ⟨a, c, rfl, hd, hM, q⟩ := h
  refine ⟨_, (pss_one (ps_if (pt_not (pt_val (pe_f (ok_is_model T) (hr.mono (by decide)) (by rfl) T.g_is_model T.d_is_model.kp (pa_cons (pv 0) pa_nil))))
        (pss_one ps_never)
        pss_nil)), ?_⟩
  exact ⟨_, rfl, a, c, rfl, hd, hM, fun H1 s1 => ⟨_, rfl, ifN' rfl (q _ s1)⟩⟩
def sp_need_index (K : PySem.W.Frag) (A : Adr) : Sp0 := fun vs H Q => ∃ (a : Addr) (c : Cfg) (p : Nat), vs = [.ref a, .int 3, .int p] ∧ Dp K H (.ref a) (cfgD c) ∧ p < c.n ∧ Q .non H
/-- need_index -/
theorem ok_need_index (T : Txt K mg w A) : Fn PP w K mg base 3 A.need_index (sp_need_index K A) := by
  refine T.d_need_index.go sc_need_index fun cdv Ar outer s H vs Q hr h => ?_
  have nd := sc_need_index.nd
  obtain ⟨a, c, p, rfl, hd, hp, q⟩ := h
  refine ⟨_, (pss_one (ps_expr (pe_f (ok_need_between T) (hr.mono (by decide)) (by rfl) T.g_need_between T.d_need_between.kp (pa_cons (pv 2) (pa_cons pe_int (pa_cons (pe_op op_sub (pe_callB (lenK K) (by rfl) T.b_len (by decide +kernel) (pa_cons (pe_ix (ixT K) (pv 0) (pv 1) (fun _ _ => rfl)) pa_nil)) pe_int) pa_nil)))))), ?_⟩
  obtain ⟨_, xs, e, hs, hx⟩ := dp_tupI hd
  cases e
  obtain ⟨v1, r, rfl, hv1, hr2⟩ := dpa_consI hx
  obtain ⟨v2, r, rfl, hv2, hr2⟩ := dpa_consI hr2
  obtain ⟨v3, r, rfl, hv3, hr2⟩ := dpa_consI hr2
  obtain ⟨v4, r, rfl, hv4, hr2⟩ := dpa_consI hr2
  obtain rfl := dpa_nilI hr2
  obtain ⟨a4, x4, rfl, hs4, hx4⟩ := dp_tupI hv4
  have l4 : x4.length = c.n := by rw [dpa_length hx4, List.length_map]; rfl
  refine ⟨_, rfl, _, rfl, _, rfl, _, _, _, _, rfl, rfl, hs, at3, _, _, rfl, .inr hs4, _, _, rfl, rfl, _, _, _, rfl, .inr ⟨_, rfl⟩, ?_, q⟩
  rw [l4]
  show (decide ((0 : Int) ≤ p) && decide ((p : Int) ≤ (c.n : Int) - 1)) = true
  rw [Bool.and_eq_true, decide_eq_true_eq, decide_eq_true_eq]; omega
def sp_trace (K : PySem.W.Frag) (A : Adr) : Sp0 := fun vs H Q => ∃ (a : Addr) (c : Cfg) (h k : Nat) (mE : M), vs = [.ref a, .int h] ∧ Dp K H (.ref a) (cfgD c) ∧ ModOk c ∧ Fit c ∧ h ≤ 60 ∧ Runs c h k (init c) mE ∧ ∀ t H', Same H H' → Dp K H' (.ref t) (.tuple (mE.log.map evD)) → Q (.ref t) H'
/-- trace -/
theorem ok_trace (T : Txt K mg w A) : Fn PP w K mg base 15 A.trace (sp_trace K A) := by
  refine T.d_trace.go sc_trace fun cdv Ar outer s H vs Q hr h => ?_
  have nd := sc_trace.nd
  obtain ⟨a, c, h, k, mE, rfl, hd, hM, hF, h60, hR, q⟩ := h
  refine ⟨_, (pss_cons (ps_expr (pe_f (ok_need_model T) (hr.mono (by decide)) (by rfl) T.g_need_model T.d_need_model.kp (pa_cons (pv 0) pa_nil)))
      (pss_cons (ps_expr (pe_f (ok_need_between T) (hr.mono (by decide)) (by rfl) T.g_need_between T.d_need_between.kp (pa_cons (pv 1) (pa_cons pe_int (pa_cons (pe_gl (by rfl) T.g_MOST_TIME) pa_nil)))))
      (pss_one (ps_ret (pe_f (ok_trace_of T) (hr.mono (by decide)) (by rfl) T.g_trace_of T.d_trace_of.kp (pa_cons (pv 0) (pa_cons (pv 1) pa_nil))))))), ?_⟩
  refine ⟨_, rfl, a, c, rfl, hd, hM, fun H1 s1 => ?_⟩
  refine ⟨_, rfl, _, _, _, rfl, .inr ⟨_, rfl⟩, ?_, ?_⟩
  · show (decide ((0 : Int) ≤ h) && decide ((h : Int) ≤ 200)) = true
    rw [Bool.and_eq_true, decide_eq_true_eq, decide_eq_true_eq]; omega
  · exact ⟨_, rfl, _, rfl, c, .ref a, h, k, mE, rfl, dp_same s1 hd, hF, h60, hR, fun t H' s' d => q t H' (s1.trans s') d⟩
end Ev
namespace Ev
open PySem PySem.Spec PyProof.Rows L2
variable {w : World} {K : PySem.W.Frag} {mg : Str → Option Value} {base : Heap} {A : Adr}

theorem evt_own {H : Hp} {v : V} {e : Evt} (h : Dp K H v (evD e)) : ∃ a r, v = .ref a ∧ SqT K H a (.int e.t :: .int e.p :: r) := by
  obtain ⟨a, xs, rfl, hs, hx⟩ := dp_tupI h
  obtain ⟨v1, r, rfl, hv1, hr⟩ := dpa_consI hx
  obtain ⟨v2, r, rfl, hv2, hr⟩ := dpa_consI hr
  obtain rfl := dp_intI hv1
  obtain rfl := dp_intI hv2
  exact ⟨a, r, rfl, hs⟩
theorem dpa_pairs {α : Type} {D : α → PyData} {H : Hp} : ∀ {zs : List (V × α)}, (∀ z ∈ zs, Dp K H z.1 (D z.2)) → DpAll K H (zs.map (·.1)) ((zs.map (·.2)).map D)
  | [], _ => .nil
  | z :: zs, h => .cons (h z (List.mem_cons_self ..)) (dpa_pairs fun y hy => h y (List.mem_cons_of_mem _ hy))
def sp_own_trace (K : PySem.W.Frag) (A : Adr) : Sp0 := fun vs H Q => ∃ (a : Addr) (c : Cfg) (p h k : Nat) (mE : M), vs = [.ref a, .int p, .int h] ∧ Dp K H (.ref a) (cfgD c) ∧ ModOk c ∧ Fit c ∧ p < c.n ∧ h ≤ 60 ∧ mE.log.length ≤ 4000 ∧ Runs c h k (init c) mE ∧
  ∀ t H', Same H H' → Dp K H' (.ref t) (.tuple ((mE.log.filter fun e => e.p == p).map evD)) → Q (.ref t) H'
theorem ok_own_trace (T : Txt K mg w A) : Fn PP w K mg base 15 A.own_trace (sp_own_trace K A) := by
  refine T.d_own_trace.go sc_own_trace fun cdv Ar outer s H vs Q hr h => ?_
  have nd := sc_own_trace.nd
  obtain ⟨a, c, p, h, k, mE, rfl, hd, hM, hF, hp, h60, hlen, hR, q⟩ := h
  refine ⟨_, (pss_cons (ps_expr (pe_f (ok_need_model T) (hr.mono (by decide)) (by rfl) T.g_need_model T.d_need_model.kp (pa_cons (pv 0) pa_nil)))
      (pss_cons (ps_expr (pe_f (ok_need_index T) (hr.mono (by decide)) (by rfl) T.g_need_index T.d_need_index.kp (pa_cons (pv 0) (pa_cons (pe_gl (by rfl) T.g_SCRIPTS) (pa_cons (pv 1) pa_nil)))))
      (pss_cons (ps_expr (pe_f (ok_need_between T) (hr.mono (by decide)) (by rfl) T.g_need_between T.d_need_between.kp (pa_cons (pv 2) (pa_cons pe_int (pa_cons (pe_gl (by rfl) T.g_MOST_TIME) pa_nil)))))
      (pss_one (ps_ret (pe_callTy (tupOf K) (by rfl) T.b_tuple (by decide +kernel) (pa_cons (pe_lc (own := [("event", 3)]) (g := gName 3) (tt := _) rfl nd (piTupK K (pe_f (ok_trace_of T) (hr.mono (by decide)) (by rfl) T.g_trace_of T.d_trace_of.kp (pa_cons (pv 0) (pa_cons (pv 2) pa_nil)))) (blkOk_by (own := [("event", 3)]) (N := N_own_trace) (sc := defScope s_own_trace) (by decide +kernel))
        (fun _ _ _ _ _ => (pg_name (i := 3) nd rfl (Or.inl rfl))) (fun _ _ _ _ _ => (pts_one (pt_cm op_eq (pe_ix (ixT K) (pv 3) pe_int (fun _ _ => rfl)) (pv 1))))
        (fun _ _ _ _ _ => (pv 3))) pa_nil))))))), ?_⟩
  refine ⟨_, rfl, a, c, rfl, hd, hM, fun H1 s1 => ?_⟩
  have hd1 := dp_same s1 hd
  refine ⟨_, rfl, _, rfl, a, c, p, rfl, hd1, hp, ?_⟩
  refine ⟨_, rfl, _, _, _, rfl, .inr ⟨_, rfl⟩, ?_, ?_⟩
  · show (decide ((0 : Int) ≤ h) && decide ((h : Int) ≤ 200)) = true
    rw [Bool.and_eq_true, decide_eq_true_eq, decide_eq_true_eq]; omega
  · refine ⟨_, rfl, _, rfl, c, .ref a, h, k, mE, rfl, hd1, hF, h60, hR, fun t H2 s2 d => ?_⟩
    obtain ⟨_, xs, e, hs, hx⟩ := dp_tupI d
    cases e
    obtain ⟨zs, rfl, ez, hz⟩ := pairs_of hx
    have lz : zs.length = mE.log.length := by rw [ez, List.length_map]
    refine ⟨_, rfl, ⟨_, hs⟩, fun D nD => lc_T (l := zs) (h := (·.1)) (fun z => z.2.p == p) (·.1) nD hs (Nat.le_of_lt (sz3 (by omega))) (fun z hz' H3 s3 Y N hY hN => ?_) fun H3 s3 eD => ?_⟩
    · obtain ⟨b, r, eb, hb⟩ := evt_own (dp_same s3 (hz z hz'))
      refine ⟨rfl, _, by rw [eb]; rfl, _, _, _, _, rfl, rfl, hb, at1, _, rfl, rfl, _, rfl, ?_⟩
      by_cases e : z.2.p = p
      · exact ifB' (by rw [dint, decide_eq_true e]) ⟨_, rfl, hY (by simpa using e) _ (Same.refl _)⟩
      · exact ifN' (by rw [dint, decide_eq_false e]) (hN (by simpa using e) _ (Same.refl _))
    · refine ⟨_, _, rfl, .inl ⟨SqL.of eD, fun t2 n2 => ?_⟩⟩
      have s4 := same_upd n2 (o := .tup ((zs.filter fun z => z.2.p == p).map (·.1)))
      refine q t2 _ (((s1.trans s2).trans s3).trans s4) (.tup (SqT.of upd_same) ?_)
      have hall : ∀ z ∈ zs.filter fun z => z.2.p == p, Dp K (upd H3 t2 (.tup ((zs.filter fun z => z.2.p == p).map (·.1)))) z.1 (evD z.2) := fun z hm => dp_same (s3.trans s4) (hz z (List.mem_filter.mp hm).1)
      have := dpa_pairs hall
      rw [ez, List.filter_map]
      exact this
end Ev
/-! How the law's own run lies in memory. -/
namespace Ev
open PySem PySem.Spec PyProof.Rows L2
def lawKv (S : Sto) (mv : V) (m : M) (o1 o2 : V) : List (Key × V) :=
  [(.inr "model", mv), (.inr "time", .int m.clock), (.inr "next", .int m.next), (.inr "agenda", .ref (S.ad .ag)), (.inr "log", .ref (S.ad .lg)), (.inr "rests", .ref (S.ad .re)), (.inr "asked", .int m.asked),
   (.inr "states", .ref (S.ad .st)), (.inr "since", .ref (S.ad .si)), (.inr "until", .ref (S.ad .ti)), (.inr "requests", .ref (S.ad .rqs)), (.inr "gates", o1), (.inr "passers", o2)]
def rqL (q : Rq) : List V := [.int q.rank, .int q.gnum, .int q.proc, .bl q.holds]
structure LR (K : PySem.W.Frag) (c : Cfg) (mv : V) (m : M) (F : Hp) (S : Sto) : Prop where
  run : ∃ o1 o2, S.ct .run = some (.dK (lawKv S mv m o1 o2))
  ag : ∃ xs, S.ct .ag = some (.lst xs) ∧ AgR K F m.agenda xs
  lg : ∃ xs, S.ct .lg = some (.lst xs) ∧ DpAll K F xs (m.log.map evD)
  st : ∃ f, S.ct .st = some (.lst (tab c.n f)) ∧ ∀ p, p < c.n → Dp K F (f p) (stsD (m.states p))
  re : ∃ f, S.ct .re = some (.lst (tab c.n f)) ∧ ∀ p, p < c.n → Dp K F (f p) (restD (m.rests p))
  si : S.ct .si = some (.lst (tab c.n fun p => .int (m.since p)))
  ti : S.ct .ti = some (.lst (tab c.n fun p => .int (m.til p)))
  rqs : S.ct .rqs = some (.lst (tab c.nr fun r => .ref (S.ad (.rq r))))
  rq : ∀ r, r < c.nr → S.ct (.rq r) = some (.lst ((m.reqs r).map fun q => .ref (S.ad (.req r q.gnum))))
  req : ∀ r, r < c.nr → ∀ q ∈ m.reqs r, S.ct (.req r q.gnum) = some (.lst (rqL q))
  gnum : ∀ r, r < c.nr → ∀ q ∈ m.reqs r, q.gnum < m.asked
  old : ∀ r, r < c.nr → ∀ n, m.asked ≤ n → S.ct (.req r n) = none
  rk : ∀ r, r < c.nr → ∀ q ∈ m.reqs r, q.rank ≤ 9
  mod : Dp K F mv (cfgD c)
structure LAt (K : PySem.W.Frag) (c : Cfg) (mv : V) (a : Addr) (m : M) (F : Hp) (S : Sto) (H : Hp) : Prop where
  ok : SOk F S H
  rp : LR K c mv m F S
  adr : S.ad .run = a
/-- every thing but the agenda's list stays where it is; requests that are not in a line stay as they are -/
structure FixL (S S' : Sto) : Prop where
  ad : ∀ x, x ≠ .ag → S'.ad x = S.ad x
  rq : ∀ r n, S'.ct (.req r n) = S.ct (.req r n)
theorem FixL.refl (S : Sto) : FixL S S := ⟨fun _ _ => rfl, fun _ _ => rfl⟩
theorem FixL.trans {S S' S'' : Sto} (h : FixL S S') (k : FixL S' S'') : FixL S S'' := ⟨fun x hx => (k.ad x hx).trans (h.ad x hx), fun r n => (k.rq r n).trans (h.rq r n)⟩
section
variable {K : PySem.W.Frag} {c : Cfg} {mv : V} {m : M} {F F' : Hp} {S : Sto} {H H' : Hp} {a : Addr}
theorem LR.mono (R : LR K c mv m F S) (s : Same F F') : LR K c mv m F' S :=
  ⟨R.run, let ⟨xs, h1, h2⟩ := R.ag; ⟨xs, h1, h2.mono s⟩, let ⟨xs, h1, h2⟩ := R.lg; ⟨xs, h1, dpa_same s h2⟩, let ⟨f, h1, h2⟩ := R.st; ⟨f, h1, fun p hp => dp_same s (h2 p hp)⟩,
    let ⟨f, h1, h2⟩ := R.re; ⟨f, h1, fun p hp => dp_same s (h2 p hp)⟩, R.si, R.ti, R.rqs, R.rq, R.req, R.gnum, R.old, R.rk, dp_same s R.mod⟩
theorem LAt.same (h : LAt K c mv a m F S H) (s : Same H H') : LAt K c mv a m F S H' := ⟨h.ok.same s, h.rp, h.adr⟩
theorem LAt.frz (h : LAt K c mv a m F S H) {p : Addr} (n : H p = none) (o : HO) : LAt K c mv a m (upd F p o) S (upd H p o) := ⟨h.ok.frz n o, h.rp.mono (same_upd (h.ok.fresh n)), h.adr⟩
theorem LAt.up (h : LAt K c mv a m F S H) {p : Addr} (n : H p = none) (o : HO) : Same F (upd F p o) := same_upd (h.ok.fresh n)
theorem LAt.run (h : LAt K c mv a m F S H) : ∃ o1 o2, S.ct .run = some (.dK (lawKv S mv m o1 o2)) ∧ H a = some (.dK (lawKv S mv m o1 o2)) := by
  obtain ⟨o1, o2, e⟩ := h.rp.run
  exact ⟨o1, o2, e, h.adr ▸ h.ok.liv _ _ e⟩
theorem LAt.setAg (h : LAt K c mv a m F S H) {xs0 : List V} (e : S.ct .ag = some (.lst xs0)) {ag : List Ent} {xs : List V} (g : AgR K F ag xs) :
    ∃ S', LAt K c mv a { m with agenda := ag } F S' (upd H (S.ad .ag) (.lst xs)) ∧ FixL S S' :=
  ⟨S.put .ag (.lst xs), ⟨h.ok.put e _, let R := h.rp; ⟨R.run, ⟨xs, rfl, g⟩, R.lg, R.st, R.re, R.si, R.ti, R.rqs, R.rq, R.req, R.gnum, R.old, R.rk, R.mod⟩, h.adr⟩, ⟨fun _ _ => rfl, fun _ _ => rfl⟩⟩
theorem LAt.addLg (h : LAt K c mv a m F S H) {xs : List V} (e : S.ct .lg = some (.lst xs)) (d : DpAll K F xs (m.log.map evD)) {v : V} {ev : Evt} (dv : Dp K F v (evD ev)) :
    ∃ S', LAt K c mv a { m with log := m.log ++ [ev] } F S' (upd H (S.ad .lg) (.lst (xs ++ [v]))) ∧ FixL S S' := by
  refine ⟨S.put .lg (.lst (xs ++ [v])), ⟨h.ok.put e _, ?_, h.adr⟩, ⟨fun _ _ => rfl, fun _ _ => rfl⟩⟩
  have R := h.rp
  refine ⟨R.run, R.ag, ⟨_, rfl, ?_⟩, R.st, R.re, R.si, R.ti, R.rqs, R.rq, R.req, R.gnum, R.old, R.rk, R.mod⟩
  show DpAll K F (xs ++ [v]) ((m.log ++ [ev]).map evD)
  rw [List.map_append]; exact dpa_append d (.cons dv .nil)
theorem LAt.setSt (h : LAt K c mv a m F S H) {f : Nat → V} (e : S.ct .st = some (.lst (tab c.n f))) (d : ∀ p, p < c.n → Dp K F (f p) (stsD (m.states p))) {p : Nat} {v : V} {s : Sts} (dv : Dp K F v (stsD s)) :
    ∃ S', LAt K c mv a (m.setSt p s) F S' (upd H (S.ad .st) (.lst ((tab c.n f).set p v))) ∧ FixL S S' := by
  rw [tab_set]
  refine ⟨S.put .st (.lst (tab c.n (upf f p v))), ⟨h.ok.put e _, ?_, h.adr⟩, ⟨fun _ _ => rfl, fun _ _ => rfl⟩⟩
  have R := h.rp
  refine ⟨R.run, R.ag, R.lg, ⟨_, rfl, fun q hq => ?_⟩, R.re, R.si, R.ti, R.rqs, R.rq, R.req, R.gnum, R.old, R.rk, R.mod⟩
  show Dp K F (upf f p v q) (stsD (upf m.states p s q))
  unfold upf
  by_cases z : q = p
  · rw [if_pos z, if_pos z]; exact dv
  · rw [if_neg z, if_neg z]; exact d q hq
theorem LAt.setRe (h : LAt K c mv a m F S H) {f : Nat → V} (e : S.ct .re = some (.lst (tab c.n f))) (d : ∀ p, p < c.n → Dp K F (f p) (restD (m.rests p))) {p : Nat} {v : V} {l : List Ins} (dv : Dp K F v (restD l)) :
    ∃ S', LAt K c mv a (m.setRest p l) F S' (upd H (S.ad .re) (.lst ((tab c.n f).set p v))) ∧ FixL S S' := by
  rw [tab_set]
  refine ⟨S.put .re (.lst (tab c.n (upf f p v))), ⟨h.ok.put e _, ?_, h.adr⟩, ⟨fun _ _ => rfl, fun _ _ => rfl⟩⟩
  have R := h.rp
  refine ⟨R.run, R.ag, R.lg, R.st, ⟨_, rfl, fun q hq => ?_⟩, R.si, R.ti, R.rqs, R.rq, R.req, R.gnum, R.old, R.rk, R.mod⟩
  show Dp K F (upf f p v q) (restD (upf m.rests p l q))
  unfold upf
  by_cases z : q = p
  · rw [if_pos z, if_pos z]; exact dv
  · rw [if_neg z, if_neg z]; exact d q hq
theorem LAt.setSi (h : LAt K c mv a m F S H) (p t : Nat) :
    ∃ S', LAt K c mv a { m with since := upf m.since p t } F S' (upd H (S.ad .si) (.lst ((tab c.n fun p => .int (m.since p)).set p (.int t)))) ∧ FixL S S' := by
  rw [tab_set, upf_int]
  exact ⟨S.put .si (.lst _), ⟨h.ok.put h.rp.si _, let R := h.rp; ⟨R.run, R.ag, R.lg, R.st, R.re, rfl, R.ti, R.rqs, R.rq, R.req, R.gnum, R.old, R.rk, R.mod⟩, h.adr⟩, ⟨fun _ _ => rfl, fun _ _ => rfl⟩⟩
theorem LAt.setTi (h : LAt K c mv a m F S H) (p t : Nat) :
    ∃ S', LAt K c mv a { m with til := upf m.til p t } F S' (upd H (S.ad .ti) (.lst ((tab c.n fun p => .int (m.til p)).set p (.int t)))) ∧ FixL S S' := by
  rw [tab_set, upf_int]
  exact ⟨S.put .ti (.lst _), ⟨h.ok.put h.rp.ti _, let R := h.rp; ⟨R.run, R.ag, R.lg, R.st, R.re, R.si, rfl, R.rqs, R.rq, R.req, R.gnum, R.old, R.rk, R.mod⟩, h.adr⟩, ⟨fun _ _ => rfl, fun _ _ => rfl⟩⟩
/-- an entry of the dict is set -/
theorem LAt.setRun (h : LAt K c mv a m F S H) {m' : M} {o1 o2 : V} (e : S.ct .run = some (.dK (lawKv S mv m o1 o2))) {kvs : List (Key × V)} {o1' o2' : V} (ek : kvs = lawKv S mv m' o1' o2')
    (R' : LR K c mv m F S → LR K c mv m' F (S.put .run (.dK kvs))) :
    ∃ S', LAt K c mv a m' F S' (upd H a (.dK kvs)) ∧ FixL S S' := by
  obtain rfl := h.adr
  exact ⟨S.put .run (.dK kvs), ⟨h.ok.put e _, R' h.rp, rfl⟩, ⟨fun _ _ => rfl, fun _ _ => rfl⟩⟩
theorem LAt.setTime (h : LAt K c mv a m F S H) {o1 o2 : V} (e : S.ct .run = some (.dK (lawKv S mv m o1 o2))) (t : Nat) :
    ∃ S', LAt K c mv a { m with clock := t } F S' (upd H a (.dK (putK (lawKv S mv m o1 o2) (.inr "time") (.int t)))) ∧ FixL S S' :=
  h.setRun e (o1' := o1) (o2' := o2) (m' := { m with clock := t }) rfl fun R => ⟨⟨o1, o2, rfl⟩, R.ag, R.lg, R.st, R.re, R.si, R.ti, R.rqs, R.rq, R.req, R.gnum, R.old, R.rk, R.mod⟩
theorem LAt.setNext (h : LAt K c mv a m F S H) {o1 o2 : V} (e : S.ct .run = some (.dK (lawKv S mv m o1 o2))) (t : Nat) :
    ∃ S', LAt K c mv a { m with next := t } F S' (upd H a (.dK (putK (lawKv S mv m o1 o2) (.inr "next") (.int t)))) ∧ FixL S S' :=
  h.setRun e (o1' := o1) (o2' := o2) (m' := { m with next := t }) rfl fun R => ⟨⟨o1, o2, rfl⟩, R.ag, R.lg, R.st, R.re, R.si, R.ti, R.rqs, R.rq, R.req, R.gnum, R.old, R.rk, R.mod⟩
/-- the agenda is another list -/
theorem LAt.newAg (h : LAt K c mv a m F S H) {o1 o2 : V} (e : S.ct .run = some (.dK (lawKv S mv m o1 o2))) {p : Addr} {xs : List V} {ag : List Ent} (s : Same H H') (n : H p = none) (ep : H' p = some (.lst xs)) (g : AgR K F ag xs) :
    ∃ S', LAt K c mv a { m with agenda := ag } F S' (upd H' a (.dK (putK (lawKv S mv m o1 o2) (.inr "agenda") (.ref p)))) ∧ FixL S S' := by
  obtain rfl := h.adr
  have k := (h.ok.adopt (r := .ag) s n ep).put (r := .run) (o0 := .dK (lawKv S mv m o1 o2)) e (.dK (putK (lawKv S mv m o1 o2) (.inr "agenda") (.ref p)))
  refine ⟨_, ⟨k, let R := h.rp; ⟨⟨o1, o2, rfl⟩, ⟨xs, rfl, g⟩, R.lg, R.st, R.re, R.si, R.ti, R.rqs, R.rq, R.req, R.gnum, R.old, R.rk, R.mod⟩, rfl⟩, ⟨fun x hx => if_neg hx, fun _ _ => rfl⟩⟩
/-- a request is made: it is owned before it stands in a line -/
theorem LAt.newRq (h : LAt K c mv a m F S H) {o1 o2 : V} (e : S.ct .run = some (.dK (lawKv S mv m o1 o2))) {p : Addr} {r k pr : Nat} (hr : r < c.nr) (s : Same H H') (n : H p = none) (ep : H' p = some (.lst [.int k, .int m.asked, .int pr, .bl true])) :
    ∃ S', LAt K c mv a { m with asked := m.asked + 1 } F S' (upd H' a (.dK (putK (lawKv S mv m o1 o2) (.inr "asked") (.int (m.asked + 1))))) ∧ (∀ x, x ≠ .req r m.asked → S'.ad x = S.ad x) ∧ S'.ad (.req r m.asked) = p ∧
      S'.ct (.req r m.asked) = some (.lst (rqL ⟨k, 0, m.asked, pr, true⟩)) := by
  obtain rfl := h.adr
  have k2 := (h.ok.adopt (r := .req r m.asked) s n ep).put (r := .run) (o0 := .dK (lawKv S mv m o1 o2)) e (.dK (putK (lawKv S mv m o1 o2) (.inr "asked") (.int (m.asked + 1))))
  have R := h.rp
  refine ⟨_, ⟨k2, ⟨⟨o1, o2, rfl⟩, R.ag, R.lg, R.st, R.re, R.si, R.ti, R.rqs, fun r' hr' => ?_, fun r' hr' q hq => ?_, fun r' hr' q hq => Nat.lt_succ_of_lt (R.gnum r' hr' q hq), fun r' hr' j hj => ?_, R.rk, R.mod⟩, rfl⟩, fun x hx => if_neg hx, if_pos rfl, ?_⟩
  · refine (R.rq r' hr').trans ?_
    congr 2
    refine List.map_congr_left fun q hq => ?_
    show V.ref _ = V.ref (if Role.req r' q.gnum = Role.req r m.asked then p else S.ad (.req r' q.gnum))
    rw [if_neg (fun z => by have := R.gnum r' hr' q hq; injection z with z1 z2; omega)]
  · refine (Sto.put_ne _ _ (by intro z; cases z)).trans ((Sto.new_ne _ _ _ (fun z => by have := R.gnum r' hr' q hq; injection z with z1 z2; omega)).trans (R.req r' hr' q hq))
  · have hj : m.asked + 1 ≤ j := hj
    exact (Sto.put_ne _ _ (by intro z; cases z)).trans ((Sto.new_ne _ _ _ (fun z => by injection z with z1 z2; omega)).trans (R.old r' hr' j (by omega)))
  · exact (Sto.put_ne _ _ (by intro z; cases z)).trans (Sto.new_eq _ _ _ _)
theorem LAt.app (h : LAt K c mv a m F S H) {r : Nat} (hr : r < c.nr) {q : Rq} (hc : S.ct (.req r q.gnum) = some (.lst (rqL q))) (hg : q.gnum < m.asked) (hk : q.rank ≤ 9) :
    ∃ S', LAt K c mv a { m with reqs := upf m.reqs r (m.reqs r ++ [q]) } F S' (upd H (S.ad (.rq r)) (.lst ((m.reqs r).map (fun q => V.ref (S.ad (.req r q.gnum))) ++ [.ref (S.ad (.req r q.gnum))]))) ∧ FixL S S' := by
  have R := h.rp
  have rN : ∀ {r' : Nat}, r' ≠ r → upf m.reqs r (m.reqs r ++ [q]) r' = m.reqs r' := fun z => upf_ne _ _ z
  refine ⟨S.put (.rq r) (.lst _), ⟨h.ok.put (R.rq r hr) _, ⟨R.run, R.ag, R.lg, R.st, R.re, R.si, R.ti, R.rqs, fun r' hr' => ?_, fun r' hr' x hx => ?_, fun r' hr' x hx => ?_, R.old, fun r' hr' x hx => ?_, R.mod⟩, h.adr⟩, ⟨fun _ _ => rfl, fun _ _ => rfl⟩⟩
  · by_cases z : r' = r
    · subst z
      refine (Sto.put_eq _ _ _).trans ?_
      show some (HO.lst _) = some (HO.lst ((upf m.reqs r' (m.reqs r' ++ [q]) r').map _))
      rw [upf_same, List.map_append]; rfl
    · refine (Sto.put_ne _ _ (by intro e; exact z (by injection e))).trans ?_
      show _ = some (HO.lst ((upf m.reqs r (m.reqs r ++ [q]) r').map _))
      rw [rN z]; exact R.rq r' hr'
  · refine (Sto.put_ne _ _ (by intro e; cases e)).trans ?_
    have hx : x ∈ upf m.reqs r (m.reqs r ++ [q]) r' := hx
    by_cases z : r' = r
    · subst z
      rw [upf_same] at hx
      rcases List.mem_append.mp hx with hx | hx
      · exact R.req r' hr' x hx
      · obtain rfl := List.mem_singleton.mp hx; exact hc
    · rw [rN z] at hx; exact R.req r' hr' x hx
  · have hx : x ∈ upf m.reqs r (m.reqs r ++ [q]) r' := hx
    by_cases z : r' = r
    · subst z
      rw [upf_same] at hx
      rcases List.mem_append.mp hx with hx | hx
      · exact R.gnum r' hr' x hx
      · obtain rfl := List.mem_singleton.mp hx; exact hg
    · rw [rN z] at hx; exact R.gnum r' hr' x hx
  · have hx : x ∈ upf m.reqs r (m.reqs r ++ [q]) r' := hx
    by_cases z : r' = r
    · subst z
      rw [upf_same] at hx
      rcases List.mem_append.mp hx with hx | hx
      · exact R.rk r' hr' x hx
      · obtain rfl := List.mem_singleton.mp hx; exact hk
    · rw [rN z] at hx; exact R.rk r' hr' x hx
theorem LAt.sub (h : LAt K c mv a m F S H) {r : Nat} (hr : r < c.nr) {l : List Rq} (hl : ∀ x ∈ l, x ∈ m.reqs r) :
    ∃ S', LAt K c mv a (m.setLine r l) F S' (upd H (S.ad (.rq r)) (.lst (l.map fun q => V.ref (S.ad (.req r q.gnum))))) ∧ FixL S S' := by
  have R := h.rp
  have rN : ∀ {r' : Nat}, r' ≠ r → upf m.reqs r l r' = m.reqs r' := fun z => upf_ne _ _ z
  have hin : ∀ r' x, x ∈ upf m.reqs r l r' → x ∈ m.reqs r' := fun r' x hx => by
    by_cases z : r' = r
    · subst z; rw [upf_same] at hx; exact hl x hx
    · rw [rN z] at hx; exact hx
  refine ⟨S.put (.rq r) (.lst _), ⟨h.ok.put (R.rq r hr) _, ⟨R.run, R.ag, R.lg, R.st, R.re, R.si, R.ti, R.rqs, fun r' hr' => ?_, fun r' hr' x hx => ?_, fun r' hr' x hx => R.gnum r' hr' x (hin r' x hx), R.old, fun r' hr' x hx => R.rk r' hr' x (hin r' x hx), R.mod⟩, h.adr⟩, ⟨fun _ _ => rfl, fun _ _ => rfl⟩⟩
  · by_cases z : r' = r
    · subst z
      refine (Sto.put_eq _ _ _).trans ?_
      show some (HO.lst _) = some (HO.lst ((upf m.reqs r' l r').map _))
      rw [upf_same]; rfl
    · refine (Sto.put_ne _ _ (by intro e; exact z (by injection e))).trans ?_
      show _ = some (HO.lst ((upf m.reqs r l r').map _))
      rw [rN z]; exact R.rq r' hr'
  · exact (Sto.put_ne _ _ (by intro e; cases e)).trans (R.req r' hr' x (hin r' x hx))
theorem LAt.own (h : LAt K c mv a m F S H) {r g : Nat} {xs ys : List V} (hc : S.ct (.req r g) = some (.lst xs)) (hn : ∀ q ∈ m.reqs r, q.gnum ≠ g) :
    ∃ S', LAt K c mv a m F S' (upd H (S.ad (.req r g)) (.lst ys)) ∧ (∀ x, S'.ad x = S.ad x) ∧ S'.ct (.req r g) = some (.lst ys) := by
  have R := h.rp
  refine ⟨S.put (.req r g) (.lst ys), ⟨h.ok.put hc _, ⟨R.run, R.ag, R.lg, R.st, R.re, R.si, R.ti, R.rqs, R.rq, fun r' hr' x hx => ?_, R.gnum, fun r' hr' n hn' => ?_, R.rk, R.mod⟩, h.adr⟩, fun _ => rfl, Sto.put_eq _ _ _⟩
  · refine (Sto.put_ne _ _ (fun z => ?_)).trans (R.req r' hr' x hx)
    injection z with z1 z2; subst z1; exact hn x hx z2
  · refine (Sto.put_ne _ _ (fun z => ?_)).trans (R.old r' hr' n hn')
    have := R.old r' hr' n hn'
    rw [z, hc] at this; cases this
theorem LAt.hold (h : LAt K c mv a m F S H) {r : Nat} (hr : r < c.nr) {q : Rq} (hq : q ∈ m.reqs r) (u1 : ∀ x ∈ m.reqs r, x.num = q.num → x = q) (u2 : ∀ x ∈ m.reqs r, x.gnum = q.gnum → x = q) (b : Bool) :
    ∃ S', LAt K c mv a (m.setLine r (setHold (m.reqs r) q.num b)) F S' (upd H (S.ad (.req r q.gnum)) (.lst ((rqL q).set 3 (.bl b)))) ∧ (∀ x, S'.ad x = S.ad x) ∧ ∀ x, x ≠ .req r q.gnum → S'.ct x = S.ct x := by
  have R := h.rp
  have rN : ∀ {r' : Nat}, r' ≠ r → upf m.reqs r (setHold (m.reqs r) q.num b) r' = m.reqs r' := fun z => upf_ne _ _ z
  have ex : ∀ x ∈ setHold (m.reqs r) q.num b, ∃ y ∈ m.reqs r, x.gnum = y.gnum ∧ x.rank = y.rank ∧ ((y = q ∧ x = { q with holds := b }) ∨ (y ≠ q ∧ x = y)) := fun x hx => by
    obtain ⟨y, hy, e⟩ := List.mem_map.mp hx
    refine ⟨y, hy, ?_⟩
    by_cases z : y.num = q.num
    · rw [if_pos z] at e; subst e; have := u1 y hy z; subst this; exact ⟨rfl, rfl, .inl ⟨rfl, rfl⟩⟩
    · rw [if_neg z] at e; subst e; exact ⟨rfl, rfl, .inr ⟨fun w => z (w ▸ rfl), rfl⟩⟩
  refine ⟨S.put (.req r q.gnum) (.lst ((rqL q).set 3 (.bl b))), ⟨h.ok.put (R.req r hr q hq) _, ⟨R.run, R.ag, R.lg, R.st, R.re, R.si, R.ti, R.rqs, fun r' hr' => ?_, fun r' hr' x hx => ?_, fun r' hr' x hx => ?_, fun r' hr' n hn' => ?_, fun r' hr' x hx => ?_, R.mod⟩, h.adr⟩, fun _ => rfl, fun x hx => Sto.put_ne _ _ hx⟩
  · refine (Sto.put_ne _ _ (by intro z; cases z)).trans ?_
    show _ = some (HO.lst ((upf m.reqs r (setHold (m.reqs r) q.num b) r').map _))
    by_cases z : r' = r
    · subst z
      rw [upf_same, R.rq r' hr', setHold, List.map_map]
      congr 2
      refine List.map_congr_left fun x _ => ?_
      show V.ref _ = V.ref (S.ad (.req r' (if x.num = q.num then { x with holds := b } else x).gnum))
      split <;> rfl
    · rw [rN z]; exact R.rq r' hr'
  · have hx : x ∈ upf m.reqs r (setHold (m.reqs r) q.num b) r' := hx
    by_cases z : r' = r
    · subst z
      rw [upf_same] at hx
      obtain ⟨y, hy, eg, _, ⟨ey, ex⟩ | ⟨ey, ex⟩⟩ := ex x hx
      · subst ey; subst ex; exact Sto.put_eq _ _ _
      · subst ex
        exact (Sto.put_ne _ _ (fun w => by injection w with _ w2; exact ey (u2 x hy w2))).trans (R.req r' hr' x hy)
    · rw [rN z] at hx
      exact (Sto.put_ne _ _ (fun w => by injection w with w1 _; exact z w1)).trans (R.req r' hr' x hx)
  · have hx : x ∈ upf m.reqs r (setHold (m.reqs r) q.num b) r' := hx
    by_cases z : r' = r
    · subst z
      rw [upf_same] at hx
      obtain ⟨y, hy, eg, er, _⟩ := ex x hx
      rw [eg]; exact R.gnum r' hr' y hy
    · rw [rN z] at hx; exact R.gnum r' hr' x hx
  · refine (Sto.put_ne _ _ (fun z => ?_)).trans (R.old r' hr' n hn')
    have := R.old r' hr' n hn'
    rw [z, R.req r hr q hq] at this; cases this
  · have hx : x ∈ upf m.reqs r (setHold (m.reqs r) q.num b) r' := hx
    by_cases z : r' = r
    · subst z
      rw [upf_same] at hx
      obtain ⟨y, hy, eg, er, _⟩ := ex x hx
      rw [er]; exact R.rk r' hr' y hy
    · rw [rN z] at hx; exact R.rk r' hr' x hx
theorem LAt.ghost (h : LAt K c mv a m F S H) (t cn : Nat → Nat) : LAt K c mv a { m with tau := t, counts := cn } F S H :=
  ⟨h.ok, let R := h.rp; ⟨R.run, R.ag, R.lg, R.st, R.re, R.si, R.ti, R.rqs, R.rq, R.req, R.gnum, R.old, R.rk, R.mod⟩, h.adr⟩
theorem LAt.ghostP (h : LAt K c mv a m F S H) (t : Nat) : LAt K c mv a { m with npass := t } F S H :=
  ⟨h.ok, let R := h.rp; ⟨R.run, R.ag, R.lg, R.st, R.re, R.si, R.ti, R.rqs, R.rq, R.req, R.gnum, R.old, R.rk, R.mod⟩, h.adr⟩
end
end Ev
namespace Ev
open PySem PySem.Spec PyProof.Rows L2
variable {w : World} {K : PySem.W.Frag} {mg : Str → Option Value} {base : Heap} {A : Adr}

theorem DG {S : Sto} {mv : V} {m : M} {o1 o2 : V} {H : Hp} {a : Addr} {k : Str} {v : V} (e : H a = some (.dK (lawKv S mv m o1 o2))) (h : valV (lawKv S mv m o1 o2) (.inr k) = some v) : DGet H a (.str k) (some v) := by
  rw [← h]; exact DGet.k (k := .inr k) e
theorem DP {S : Sto} {mv : V} {m : M} {o1 o2 : V} {H : Hp} {a : Addr} (e : H a = some (.dK (lawKv S mv m o1 o2))) (k : Str) (v : V) : DPut H a (.str k) v (upd H a (.dK (putK (lawKv S mv m o1 o2) (.inr k) v))) :=
  DPut.k (k := .inr k) e (by show 13 < sizeLine; decide)
section
variable {S : Sto} {mv : V} {m : M} {o1 o2 : V}
theorem kv_model : valV (lawKv S mv m o1 o2) (.inr "model") = some mv := rfl
theorem kv_time : valV (lawKv S mv m o1 o2) (.inr "time") = some (.int m.clock) := rfl
theorem kv_next : valV (lawKv S mv m o1 o2) (.inr "next") = some (.int m.next) := rfl
theorem kv_agenda : valV (lawKv S mv m o1 o2) (.inr "agenda") = some (.ref (S.ad .ag)) := rfl
theorem kv_log : valV (lawKv S mv m o1 o2) (.inr "log") = some (.ref (S.ad .lg)) := rfl
theorem kv_rests : valV (lawKv S mv m o1 o2) (.inr "rests") = some (.ref (S.ad .re)) := rfl
theorem kv_asked : valV (lawKv S mv m o1 o2) (.inr "asked") = some (.int m.asked) := rfl
theorem kv_states : valV (lawKv S mv m o1 o2) (.inr "states") = some (.ref (S.ad .st)) := rfl
theorem kv_since : valV (lawKv S mv m o1 o2) (.inr "since") = some (.ref (S.ad .si)) := rfl
theorem kv_until : valV (lawKv S mv m o1 o2) (.inr "until") = some (.ref (S.ad .ti)) := rfl
theorem kv_requests : valV (lawKv S mv m o1 o2) (.inr "requests") = some (.ref (S.ad .rqs)) := rfl
end
theorem LAt.cat {c : Cfg} {mv : V} {a : Addr} {m : M} {F : Hp} {S : Sto} {H : Hp} (P : LAt K c mv a m F S H) {x y : Addr} {xs ys : List V} {d1 d2 : List PyData} {Q : VK} (ha : SqT K F x xs) (hb : SqT K F y ys) (dx : DpAll K F xs d1) (dy : DpAll K F ys d2)
    (hz : xs.length + ys.length ≤ 10000) (q : ∀ v F' H', Same F F' → LAt K c mv a m F' S H' → Same H H' → Dp K F' (.ref v) (.tuple (d1 ++ d2)) → Q (.ref v) H') : rCatA K (.ref x) (.ref y) H Q := by
  have big : (10000 : Nat) ≤ sizeLine := by decide
  refine ⟨x, y, xs, ys, rfl, rfl, same_T P.ok.sm ha, same_T P.ok.sm hb, by omega, fun h => ?_, fun h1 h2 => ?_, fun h1 h2 p hp => ?_⟩
  · subst h
    cases dx
    exact q _ _ _ (Same.refl _) P (Same.refl _) (.tup hb dy)
  · subst h2
    cases dy
    exact q _ _ _ (Same.refl _) P (Same.refl _) (.tup ha (by rw [List.append_nil]; exact dx))
  · exact q _ _ _ (P.up hp _) (P.frz hp _) (same_upd hp) (.tup (SqT.of upd_same) (dpa_append (dpa_same (P.up hp _) dx) (dpa_same (P.up hp _) dy)))
def sp__law_plan (K : PySem.W.Frag) (A : Adr) : Sp0 := fun vs H Q => ∃ (c : Cfg) (mv : V) (a : Addr) (m : M) (F : Hp) (S : Sto) (p t : Nat), vs = [.ref a, .int p, .int t] ∧ LAt K c mv a m F S H ∧ m.agenda.length ≤ 4000 ∧
  ∀ F' S' H', Same F F' → FixL S S' → LAt K c mv a (m.plan p t) F' S' H' → Q .non H'
/-- _law_plan -/
theorem ok__law_plan (T : Txt K mg w A) : Fn PP w K mg base 1 A._law_plan (sp__law_plan K A) := by
  refine T.d__law_plan.go sc__law_plan fun cdv Ar outer s H vs Q hr h => ?_
  have nd := sc__law_plan.nd
  obtain ⟨c, mv, a, m, F, S, p, t, rfl, P, hz, q⟩ := h
  refine ⟨_, (pss_cons (ps_expr (pe_bm PySem.F.plainAttrs_list PySem.F.slot_list_append PySem.F.type_list_append mt_append (pe_dget hr.hu1 (pv 0) pe_str (fun _ _ => rfl)) (pa_cons (pe_tup (pa_cons (pv 2) (pa_cons (pe_dget hr.hu1 (pv 0) pe_str (fun _ _ => rfl)) (pa_cons (pv 1) pa_nil)))) pa_nil)))
      (pss_one (ps_asg (pe_op op_add (pe_dget hr.hu1 (pv 0) pe_str (fun _ _ => rfl)) pe_int) (pg_sub (pv 0) pe_str (set_dict hr.hu1) (fun _ => rfl))))), ?_⟩
  obtain ⟨o1, o2, er, h1⟩ := P.run
  obtain ⟨xs, ea, ga⟩ := P.rp.ag
  refine ⟨_, rfl, _, _, rfl, DG h1 kv_agenda, .inl ⟨rfl, _, SqL.of (P.ok.liv _ _ ea)⟩, _, rfl, _, rfl, _, _, rfl, DG h1 kv_next, _, rfl, (by show 3 ≤ sizeLine; decide), fun e ne => ?_⟩
  have P1 := P.frz ne (.tup [V.int t, V.int m.next, V.int p])
  refine ⟨_, _, _, rfl, rfl, P1.ok.liv _ _ ea, sz3 (by rw [ga.len]; omega), ?_⟩
  obtain ⟨S2, P2, X2⟩ := P1.setAg ea ((ga.mono (P.up ne _)).snoc (v := .ref e) (e := (t, m.next, p)) (.tup (SqT.of upd_same) (.cons (.int _) (.cons (.int _) (.cons (.int _) .nil)))))
  obtain ⟨o1, o2, er, h1⟩ := P2.run
  refine ⟨_, rfl, _, _, rfl, DG h1 kv_next, _, _, rfl, rfl, _, rfl, _, _, rfl, DP h1 "next" _, ?_⟩
  obtain ⟨S3, P3, X3⟩ := P2.setNext er (m.next + 1)
  exact q _ _ _ (P.up ne _) (X2.trans X3) P3
def sp__law_tell (K : PySem.W.Frag) (A : Adr) : Sp0 := fun vs H Q => ∃ (c : Cfg) (mv : V) (a : Addr) (m : M) (F : Hp) (S : Sto) (p : Nat) (wd : Wd) (xs : List Nat) (t : Addr), vs = [.ref a, .int p, .str (wdS wd), .ref t] ∧ LAt K c mv a m F S H ∧ Dp K F (.ref t) (.tuple (xs.map fun x => .int (x : Nat))) ∧ m.log.length ≤ 4000 ∧ xs.length ≤ 100 ∧
  ∀ F' S' H', Same F F' → FixL S S' → LAt K c mv a (m.tell p wd xs) F' S' H' → Q .non H'
/-- _law_tell -/
theorem ok__law_tell (T : Txt K mg w A) : Fn PP w K mg base 1 A._law_tell (sp__law_tell K A) := by
  refine T.d__law_tell.go sc__law_tell fun cdv Ar outer s H vs Q hr h => ?_
  have nd := sc__law_tell.nd
  obtain ⟨c, mv, a, m, F, S, p, wd, xs, t, rfl, P, ht, hz, hx, q⟩ := h
  refine ⟨_, (pss_one (ps_expr (pe_bm PySem.F.plainAttrs_list PySem.F.slot_list_append PySem.F.type_list_append mt_append (pe_dget hr.hu1 (pv 0) pe_str (fun _ _ => rfl)) (pa_cons (pe_op (catA K) (pe_tup (pa_cons (pe_dget hr.hu1 (pv 0) pe_str (fun _ _ => rfl)) (pa_cons (pv 1) (pa_cons (pv 2) pa_nil)))) (pv 3)) pa_nil)))), ?_⟩
  obtain ⟨o1, o2, er, h1⟩ := P.run
  obtain ⟨ys, el, dl⟩ := P.rp.lg
  have hyl : ys.length = m.log.length := by rw [dpa_length dl, List.length_map]
  obtain ⟨_, us, e, hus, hdu⟩ := dp_tupI ht
  cases e
  have hul : us.length = xs.length := by rw [dpa_length hdu, List.length_map]
  refine ⟨_, rfl, _, _, rfl, DG h1 kv_log, .inl ⟨rfl, _, SqL.of (P.ok.liv _ _ el)⟩, _, rfl, _, _, rfl, DG h1 kv_time, _, rfl, _, rfl, (by show 3 ≤ sizeLine; decide), fun e ne => ?_⟩
  have P1 := P.frz ne (.tup [V.int m.clock, V.int p, V.str (wdS wd)])
  have u1 := P.up ne (.tup [V.int m.clock, V.int p, V.str (wdS wd)])
  refine ⟨_, rfl, ?_⟩
  refine P1.cat (SqT.of upd_same) (same_T u1 hus) (.cons (.int _) (.cons (.int _) (.cons (.str _) .nil))) (dpa_same u1 hdu) (by show 3 + us.length ≤ 10000; omega) fun v F2 H2 s2 P2 t2 d2 => ?_
  refine ⟨_, _, _, rfl, rfl, P2.ok.liv _ _ el, sz3 (by omega), ?_⟩
  obtain ⟨S3, P3, X3⟩ := P2.addLg el (dpa_same (u1.trans s2) dl) (v := .ref v) (ev := ⟨m.clock, p, wd, xs⟩) d2
  exact q _ _ _ (u1.trans s2) X3 P3
def sp__law_go_on (K : PySem.W.Frag) (A : Adr) : Sp0 := fun vs H Q => ∃ (c : Cfg) (mv : V) (a : Addr) (m : M) (F : Hp) (S : Sto) (p : Nat), vs = [.ref a, .int p] ∧ LAt K c mv a m F S H ∧ p < c.n ∧ m.agenda.length ≤ 4000 ∧
  ∀ F' S' H', Same F F' → FixL S S' → LAt K c mv a (m.goOn p) F' S' H' → Q .non H'
/-- _law_go_on -/
theorem ok__law_go_on (T : Txt K mg w A) : Fn PP w K mg base 2 A._law_go_on (sp__law_go_on K A) := by
  refine T.d__law_go_on.go sc__law_go_on fun cdv Ar outer s H vs Q hr h => ?_
  have nd := sc__law_go_on.nd
  obtain ⟨c, mv, a, m, F, S, p, rfl, P, hp, hz, q⟩ := h
  refine ⟨_, (pss_cons (ps_asg (pe_tup (pa_cons pe_str pa_nil)) (pg_sub (pe_dget hr.hu1 (pv 0) pe_str (fun _ _ => rfl)) (pv 1) set_list (fun _ => rfl)))
      (pss_one (ps_expr (pe_f (ok__law_plan T) (hr.mono (by decide)) (by rfl) T.g__law_plan T.d__law_plan.kp (pa_cons (pv 0) (pa_cons (pv 1) (pa_cons (pe_dget hr.hu1 (pv 0) pe_str (fun _ _ => rfl)) pa_nil))))))), ?_⟩
  refine ⟨Nat.le_trans (by decide) s9, fun e ne => ?_⟩
  have P1 := P.frz ne (.tup [V.str "ready"])
  have u1 := P.up ne (.tup [V.str "ready"])
  obtain ⟨o1, o2, er, h1⟩ := P1.run
  obtain ⟨f, es, ds⟩ := P1.rp.st
  refine ⟨_, rfl, _, _, rfl, DG h1 kv_states, _, rfl, _, _, _, p, rfl, rfl, P1.ok.liv _ _ es, tab_ix hp, ?_⟩
  obtain ⟨S2, P2, X2⟩ := P1.setSt es ds (p := p) (v := .ref e) (s := .ready) (.tup (SqT.of upd_same) (.cons (.str _) .nil))
  obtain ⟨o1, o2, er, h1⟩ := P2.run
  refine ⟨_, rfl, _, rfl, _, rfl, _, _, rfl, DG h1 kv_time, c, mv, a, _, _, S2, p, m.clock, rfl, P2, hz, fun F5 S5 H5 s5 X5 P5 => ?_⟩
  exact q _ _ _ (u1.trans s5) (X2.trans X5) P5
def sp__law_fall_asleep (K : PySem.W.Frag) (A : Adr) : Sp0 := fun vs H Q => ∃ (c : Cfg) (mv : V) (a : Addr) (m : M) (F : Hp) (S : Sto) (p d : Nat), vs = [.ref a, .int p, .int d] ∧ LAt K c mv a m F S H ∧ p < c.n ∧ m.agenda.length ≤ 4000 ∧
  ∀ F' S' H', Same F F' → FixL S S' → LAt K c mv a (m.fallAsleep p d) F' S' H' → Q .non H'
/-- _law_fall_asleep -/
theorem ok__law_fall_asleep (T : Txt K mg w A) : Fn PP w K mg base 2 A._law_fall_asleep (sp__law_fall_asleep K A) := by
  refine T.d__law_fall_asleep.go sc__law_fall_asleep fun cdv Ar outer s H vs Q hr h => ?_
  have nd := sc__law_fall_asleep.nd
  obtain ⟨c, mv, a, m, F, S, p, d, rfl, P, hp, hz, q⟩ := h
  refine ⟨_, (pss_cons (ps_asg (pe_tup (pa_cons pe_str pa_nil)) (pg_sub (pe_dget hr.hu1 (pv 0) pe_str (fun _ _ => rfl)) (pv 1) set_list (fun _ => rfl)))
      (pss_cons (ps_asg (pe_dget hr.hu1 (pv 0) pe_str (fun _ _ => rfl)) (pg_sub (pe_dget hr.hu1 (pv 0) pe_str (fun _ _ => rfl)) (pv 1) set_list (fun _ => rfl)))
      (pss_cons (ps_asg (pe_op op_add (pe_dget hr.hu1 (pv 0) pe_str (fun _ _ => rfl)) (pv 2)) (pg_sub (pe_dget hr.hu1 (pv 0) pe_str (fun _ _ => rfl)) (pv 1) set_list (fun _ => rfl)))
      (pss_one (ps_expr (pe_f (ok__law_plan T) (hr.mono (by decide)) (by rfl) T.g__law_plan T.d__law_plan.kp (pa_cons (pv 0) (pa_cons (pv 1) (pa_cons (pe_op op_add (pe_dget hr.hu1 (pv 0) pe_str (fun _ _ => rfl)) (pv 2)) pa_nil))))))))), ?_⟩
  refine ⟨Nat.le_trans (by decide) s9, fun e ne => ?_⟩
  have P1 := P.frz ne (.tup [V.str "asleep"])
  have u1 := P.up ne (.tup [V.str "asleep"])
  obtain ⟨o1, o2, er, h1⟩ := P1.run
  obtain ⟨f, es, ds⟩ := P1.rp.st
  refine ⟨_, rfl, _, _, rfl, DG h1 kv_states, _, rfl, _, _, _, p, rfl, rfl, P1.ok.liv _ _ es, tab_ix hp, ?_⟩
  obtain ⟨S2, P2, X2⟩ := P1.setSt es ds (p := p) (v := .ref e) (s := .asleep) (.tup (SqT.of upd_same) (.cons (.str _) .nil))
  obtain ⟨o1, o2, er, h1⟩ := P2.run
  refine ⟨_, rfl, _, _, rfl, DG h1 kv_time, _, rfl, _, _, rfl, DG h1 kv_since, _, rfl, _, _, _, p, rfl, rfl, P2.ok.liv _ _ P2.rp.si, tab_ix hp, ?_⟩
  obtain ⟨S3, P3, X3⟩ := P2.setSi p m.clock
  obtain ⟨o1, o2, er, h1⟩ := P3.run
  refine ⟨_, rfl, _, _, rfl, DG h1 kv_time, _, rfl, _, _, rfl, rfl, _, rfl, _, _, rfl, DG h1 kv_until, _, rfl, _, _, _, p, rfl, rfl, P3.ok.liv _ _ P3.rp.ti, tab_ix hp, ?_⟩
  obtain ⟨S4, P4, X4⟩ := P3.setTi p (m.clock + d)
  obtain ⟨o1, o2, er, h1⟩ := P4.run
  refine ⟨_, rfl, _, rfl, _, rfl, _, _, rfl, DG h1 kv_time, _, rfl, _, _, rfl, rfl, c, mv, a, _, _, S4, p, m.clock + d, rfl, P4, hz, fun F5 S5 H5 s5 X5 P5 => ?_⟩
  exact q _ _ _ (u1.trans s5) (((X2.trans X3).trans X4).trans X5) (P5.ghost (upf m.tau p (m.clock + 1)) m.counts)
def sp__law_unplan (K : PySem.W.Frag) (A : Adr) : Sp0 := fun vs H Q => ∃ (c : Cfg) (mv : V) (a : Addr) (m : M) (F : Hp) (S : Sto) (p : Nat), vs = [.ref a, .int p] ∧ LAt K c mv a m F S H ∧ m.agenda.length ≤ 5000 ∧
  ∀ F' S' H', Same F F' → FixL S S' → LAt K c mv a (m.unplan p) F' S' H' → Q .non H'
/-- _law_unplan -/
theorem ok__law_unplan (T : Txt K mg w A) : Fn PP w K mg base 1 A._law_unplan (sp__law_unplan K A) := by
  refine T.d__law_unplan.go sc__law_unplan fun cdv Ar outer s H vs Q hr h => ?_
  have nd := sc__law_unplan.nd
  obtain ⟨c, mv, a, m, F, S, p, rfl, P, hz, q⟩ := h
  refine ⟨_, (pss_one (ps_asg (pe_lc (own := [("_law_entry", 2)]) (g := gName 2) (tt := _) rfl nd (pi_list (pe_dget hr.hu1 (pv 0) pe_str (fun _ _ => rfl))) (blkOk_by (own := [("_law_entry", 2)]) (N := N__law_unplan) (sc := defScope s__law_unplan) (by decide +kernel))
        (fun _ _ _ _ _ => (pg_name (i := 2) nd rfl (Or.inl rfl))) (fun _ _ _ _ _ => (pts_one (pt_cm op_ne (pe_ix (ixT K) (pv 2) pe_int (fun _ _ => rfl)) (pv 1))))
        (fun _ _ _ _ _ => (pv 2))) (pg_sub (pv 0) pe_str (set_dict hr.hu1) (fun _ => rfl)))), ?_⟩
  obtain ⟨o1, o2, er, h1⟩ := P.run
  obtain ⟨xs, ea, ga⟩ := P.rp.ag
  have gl := ga.len
  obtain ⟨zs, rfl, ez, dz⟩ := ga
  have hl := P.ok.liv _ _ ea
  refine ⟨_, rfl, _, _, rfl, DG h1 kv_agenda, _, rfl, ⟨_, SqL.of hl⟩, fun D nD => lc_L (l := zs) (h := (·.1)) (fun z => z.2.2.2 != p) (·.1) nD (SqL.of hl) (Nat.le_of_lt (sz3 (by rw [List.length_map] at gl; omega))) (fun z hz' H1 s1 Y N hY hN => ?_) fun H1 s1 eD => ?_⟩
  · obtain ⟨e, ee, he⟩ := entI (dz z hz')
    refine ⟨rfl, _, rfl, _, _, _, _, ?_, rfl, same_T (P.ok.sm.trans s1) he, rfl, _, rfl, rfl, _, rfl, ?_⟩
    · rw [← ee]
    rw [dint]
    refine ifB (fun hb => ⟨_, rfl, hY ?_ _ (Same.refl _)⟩) fun hb => hN ?_ _ (Same.refl _)
    · simpa using hb
    · simpa using hb
  · have P1 := P.same s1
    have h1 := s1 _ _ h1
    refine ⟨_, rfl, _, _, rfl, DP h1 "agenda" _, ?_⟩
    obtain ⟨S2, P2, X2⟩ := P.newAg er s1 nD eD (ez ▸ AgR.filter dz fun e => e.2.2 != p)
    exact q _ _ _ (Same.refl _) X2 P2
def sp__law_sleepers (K : PySem.W.Frag) (A : Adr) : Sp0 := fun vs H Q => ∃ (c : Cfg) (mv : V) (a : Addr) (m : M) (F : Hp) (S : Sto), vs = [.ref a] ∧ LAt K c mv a m F S H ∧ c.n ≤ 1000 ∧
  ∀ t H', Same H H' → H' t = some (.lst ((m.sleepers c.n).map fun x => .int (x : Nat))) → Q (.ref t) H'
/-- _law_sleepers -/
theorem ok__law_sleepers (T : Txt K mg w A) : Fn PP w K mg base 1 A._law_sleepers (sp__law_sleepers K A) := by
  refine T.d__law_sleepers.go sc__law_sleepers fun cdv Ar outer s H vs Q hr h => ?_
  have nd := sc__law_sleepers.nd
  obtain ⟨c, mv, a, m, F, S, rfl, P, hn, q⟩ := h
  refine ⟨_, (pss_cons (ps_setLc (i := 1) (hy := rfl) (hyl := rfl) (hsw := sw_true rfl rfl rfl (by decide +kernel)) (own := [("_law_process", 2), ("_law_state", 3)]) (g := _) (tt := _) rfl nd (pi_enum (by rfl) T.b_enumerate (pa_cons (pe_dget hr.hu1 (pv 0) pe_str (fun _ _ => rfl)) pa_nil)) (blkOk_by (own := [("_law_process", 2), ("_law_state", 3)]) (N := N__law_sleepers) (sc := defScope s__law_sleepers) (by decide +kernel))
        (fun _ _ _ _ _ => (pgT K (n := 2) rfl (pgs_cons (pg_name (i := 2) nd rfl (Or.inl rfl)) (pgs_cons (pg_name (i := 3) nd rfl (Or.inl rfl)) pgs_nil)))) (fun _ _ _ _ _ => (pts_one (pt_cm (opEqD K hr.hu) (pv 3) (pe_tup (pa_cons pe_str pa_nil)))))
        (fun _ _ _ _ _ => (pv 2)))
      (pss_one (ps_ret (pe_lc (own := [("_law_process", 2)]) (g := gName 2) (tt := _) rfl nd (pi_list (pv 1)) (blkOk_by (own := [("_law_process", 2)]) (N := N__law_sleepers) (sc := defScope s__law_sleepers) (by decide +kernel))
        (fun _ _ _ _ _ => (pg_name (i := 2) nd rfl (Or.inl rfl))) (fun _ _ _ _ _ => (pts_one (pt_cm op_gt (pe_ix (ixL K) (pe_dget hr.hu1 (pv 0) pe_str (fun _ _ => rfl)) (pv 2) (fun _ _ => rfl)) (pe_dget hr.hu1 (pv 0) pe_str (fun _ _ => rfl)))))
        (fun _ _ _ _ _ => (pv 2)))))), ?_⟩
  obtain ⟨o1, o2, er, h1⟩ := P.run
  have s9 := s9
  have s5 := sz3 (Nat.le_refl _)
  obtain ⟨f, es, ds⟩ := P.rp.st
  refine ⟨_, rfl, _, _, rfl, DG h1 kv_states, _, _, rfl, SqL.of (P.ok.liv _ _ es), fun D nD => lc_E (n := c.n) (h := f) (fun i => m.states i == .asleep) (fun i => .int i) nD (SqL.of (P.ok.liv _ _ es)) (by omega) (fun i hi H1 s1 e ne Y N hY hN => ?_) fun H1 s1 eD => ?_⟩
  · refine ⟨_, _, rfl, SqT.of upd_same, rfl, _, _, rfl, _, _, rfl, rfl, rfl, _, rfl, Nat.le_trans (by decide) s9, fun u nu => ?_⟩
    refine ⟨stsD (m.states i), stsD .asleep, dp_same (P.ok.sm.trans (s1.trans ((same_upd ne).trans (same_upd nu)))) (ds i hi), .tup (SqT.of upd_same) (.cons (.str _) .nil), sts_shaped _, sts_shaped _, _, rfl, ?_⟩
    rw [eqv_sts]
    refine ifB (fun hb => ⟨_, rfl, hY ?_ _ (same_upd nu)⟩) fun hb => hN ?_ _ (same_upd nu)
    · simpa using hb
    · simpa using hb
  have P1 := P.same s1
  refine ⟨_, rfl, _, rfl, ⟨_, SqL.of eD⟩, fun D2 nD2 => lc_L (l := (List.range c.n).filter fun i => m.states i == .asleep) (h := fun i => .int (i : Nat)) (fun i => decide (m.clock < m.til i)) (fun i => .int (i : Nat)) nD2 (SqL.of eD) (Nat.le_trans (List.length_filter_le ..) (by rw [List.length_range]; omega)) (fun i hi H2 s2 Y N hY hN => ?_) fun H2 s2 eD2 => ?_⟩
  · have hi : i < c.n := List.mem_range.mp (List.mem_filter.mp hi).1
    have P2 := P1.same s2
    have h1 := s2 _ _ (s1 _ _ h1)
    refine ⟨rfl, _, rfl, _, _, rfl, DG h1 kv_until, _, rfl, _, _, _, _, rfl, rfl, SqL.of (P2.ok.liv _ _ P2.rp.ti), tab_at hi, _, rfl, _, _, rfl, DG h1 kv_time, _, _, rfl, rfl, _, rfl, ?_⟩
    have e : decide ((m.clock : Int) < (m.til i : Int)) = decide (m.clock < m.til i) := decide_eq_decide.mpr (by omega)
    rw [e]
    exact ifB (fun hb => ⟨_, rfl, hY hb _ (Same.refl _)⟩) fun hb => hN hb _ (Same.refl _)
  refine q D2 _ (s1.trans s2) (eD2.trans ?_)
  rw [List.filter_filter]
  congr 3
  exact List.filter_congr fun i _ => Bool.and_comm _ _
end Ev
/-! Sorted keys (rank, number) of requests; a comprehension whose results are new tuples. -/
namespace Ev
open PySem PySem.Spec PyProof.Rows L2
/-- the pair of ints at v -/
def prK (H : Hp) (v : V) : Int × Int := match v with
  | .ref t => match H t with
    | some (.tup [.int i, .int j]) => (i, j)
    | _ => (0, 0)
  | _ => (0, 0)
theorem prK_eq {H : Hp} {t : Addr} {i j : Int} (h : H t = some (.tup [.int i, .int j])) : prK H (.ref t) = (i, j) := by
  unfold prK; dsimp only; rw [h]
theorem least_gnum {g : Rq → Nat} {W : List Rq} (hp : W.Pairwise fun a b => g a < g b) {x z : Rq} (hx : leastOf W = some x) (hz : z ∈ W) (hmin : ∀ y ∈ W, leK g z y = true) : g z = g x := by
  have h1 := of_decide_eq_true (leastOf_le hp hx z hz)
  have h2 := of_decide_eq_true (hmin x (leastOf_in hx))
  omega
theorem great_gnum {g : Rq → Nat} {W : List Rq} (hp : W.Pairwise fun a b => g a < g b) {x z : Rq} (hx : greatOf W = some x) (hz : z ∈ W) (hmax : ∀ y ∈ W, leK g y z = true) : g z = g x := by
  have h1 := of_decide_eq_true (greatOf_le hp hx z hz)
  have h2 := of_decide_eq_true (hmax x (greatOf_in hx))
  omega
theorem last_of {α : Type} {xs : List α} {R : α → α → Prop} (h : xs.Pairwise R) (hr : ∀ x ∈ xs, R x x) {z : α} (hz : xs.getLast? = some z) : ∀ y ∈ xs, R y z := by
  obtain ⟨t, rfl⟩ := List.getLast?_eq_some_iff.mp hz
  intro y hy
  rcases List.mem_append.mp hy with hy | hy
  · exact (List.pairwise_append.mp h).2.2 y hy z (List.mem_singleton.mpr rfl)
  · obtain rfl := List.mem_singleton.mp hy
    exact hr _ (List.mem_append.mpr (.inr (List.mem_singleton.mpr rfl)))
theorem first_of {α : Type} {xs : List α} {R : α → α → Prop} (h : xs.Pairwise R) (hr : ∀ x ∈ xs, R x x) {z : α} (hz : xs[0]? = some z) : ∀ y ∈ xs, R z y := by
  cases xs with
  | nil => cases hz
  | cons a l =>
    obtain rfl : a = z := by simpa using hz
    intro y hy
    rcases List.mem_cons.mp hy with rfl | hy
    · exact hr _ (List.mem_cons_self ..)
    · exact (List.pairwise_cons.mp h).1 y hy
section
variable {K : PySem.W.Frag}
theorem sorted_rq {g : Rq → Nat} {H : Hp} {D : Addr} {zs : List (V × Rq)} {Q : VK} (hD : H D = some (.lst (zs.map (·.1)))) (hz : ∀ z ∈ zs, ∃ t, z.1 = .ref t ∧ H t = some (.tup [.int z.2.rank, .int (g z.2)]))
    (q : ∀ ys p, H p = none → ys.length = zs.length → (∀ v, ys[0]? = some v → ∃ z ∈ zs, v = z.1 ∧ ∀ y ∈ zs.map (·.2), leK g z.2 y = true) → (∀ v, ys.getLast? = some v → ∃ z ∈ zs, v = z.1 ∧ ∀ y ∈ zs.map (·.2), leK g y z.2 = true) → Q (.ref p) (upd H p (.lst ys))) :
    rSortedPO K [.ref D] H Q := by
  have hk : ∀ z ∈ zs, prK H z.1 = ((z.2.rank : Int), (g z.2 : Int)) := fun z hm => by
    obtain ⟨t, e, ht⟩ := hz z hm
    rw [e]; exact prK_eq ht
  refine ⟨D, zs.map (·.1), prK H, rfl, SqL.of hD, fun x hx => ?_, fun ys p hs hst hp => ?_⟩
  · obtain ⟨z, hm, rfl⟩ := List.mem_map.mp hx
    obtain ⟨t, e, ht⟩ := hz z hm
    exact ⟨t, e, by rw [hk z hm]; exact ht⟩
  · have hmem : ∀ v, v ∈ ys ↔ v ∈ zs.map (·.1) := fun v => hst.perm.mem_iff
    have hle : ∀ z ∈ zs, ∀ y ∈ zs, ltP (prK H) y.1 z.1 = false → leK g z.2 y.2 = true := fun z hz' y hy h => by
      have h := SrtO.lexB_no.mp h
      rw [hk z hz', hk y hy] at h
      refine decide_eq_true ?_
      have h : ¬ ((y.2.rank : Int) < z.2.rank ∨ ((y.2.rank : Int) = z.2.rank ∧ (g y.2 : Int) < g z.2)) := h
      omega
    have hrf : ∀ x ∈ ys, ltP (prK H) x x = false := fun x _ => (ltP_swo (prK H)).refl x
    refine q ys p hp (by rw [hst.perm.length_eq, List.length_map]) (fun v hv => ?_) fun v hv => ?_
    · obtain ⟨z, hzm, rfl⟩ := List.mem_map.mp ((hmem v).mp (List.mem_of_getElem? hv))
      refine ⟨z, hzm, rfl, fun y hy => ?_⟩
      obtain ⟨y', hy', rfl⟩ := List.mem_map.mp hy
      exact hle z hzm y' hy' (first_of (R := fun x y => ltP (prK H) y x = false) hs hrf hv _ ((hmem _).mpr (List.mem_map_of_mem hy')))
    · obtain ⟨z, hzm, rfl⟩ := List.mem_map.mp ((hmem v).mp (List.mem_of_getLast? hv))
      refine ⟨z, hzm, rfl, fun y hy => ?_⟩
      obtain ⟨y', hy', rfl⟩ := List.mem_map.mp hy
      exact hle y' hy' z hzm (last_of (R := fun x y => ltP (prK H) y x = false) hs hrf hv _ ((hmem _).mpr (List.mem_map_of_mem hy')))
end
section
variable {α : Type} {K : PySem.W.Frag} {a D : Addr} {g : TG} {tt : TT} {te : TE} {vs : List Nat} {σ : L2.St} {H1 : Hp} {Qd : Hp → Prop}
/-- [a new tuple of z for z in a list if keep z] -/
theorem lc_P {l : List α} {h : α → V} (keep : α → Bool) (f : α → List V) (nD : H1 D = none) (hl : SqL K H1 a (l.map h)) (hz : l.length ≤ sizeLine)
    (hs : ∀ z ∈ l, ∀ H, Same H1 H → ∀ (Y : VK) (N : Hp → Prop), (keep z = true → ∀ t H2, Same H H2 → H2 t = none → Y (.ref t) (upd H2 t (.tup (f z)))) → (keep z = false → ∀ H2, Same H H2 → N H2) →
      g (h z) (wipe σ vs) H fun σ2 H2 => wipe σ2 vs = wipe σ vs ∧ tt σ2 H2 fun b H3 => if b = true then te σ2 H3 Y else N H3)
    (hd : ∀ H (zs : List (V × α)), Same H1 H → H D = some (.lst (zs.map (·.1))) → zs.map (·.2) = l.filter keep → (∀ z ∈ zs, ∃ t, z.1 = .ref t ∧ H t = some (.tup (f z.2))) → Qd H) :
    ∃ W : Nat → Nat → Hp → Prop, (∃ m, W 0 m (upd H1 D (.lst []))) ∧ ∀ i m H, W i m H →
      ((Itl K a).stop i H ∧ Qd H) ∨ ((Itl K a).go i H ∧ ∃ Nx : Hp → Prop, (∀ H', Nx H' → ∃ m', m' < m ∧ W (i + 1) m' H') ∧ ∀ x H', (Itl K a).yld i H x H' → g x (wipe σ vs) H' fun σ2 H2 => wipe σ2 vs = wipe σ vs ∧ tt σ2 H2 fun b H3 =>
        if b = true then te σ2 H3 fun y H4 => ∃ acc, H4 D = some (.lst acc) ∧ acc.length < sizeLine ∧ Nx (upd H4 D (.lst (acc ++ [y]))) else Nx H3) := by
  have big : sizeLine = sizeLine := rfl
  refine lc_it (walk_list (xs := l.map h)) (fun i H => Same H1 H ∧ ∃ zs : List (V × α), H D = some (.lst (zs.map (·.1))) ∧ zs.map (·.2) = (l.take i).filter keep ∧ ∀ z ∈ zs, ∃ t, z.1 = .ref t ∧ H t = some (.tup (f z.2)))
    ⟨same_upd nD, [], upd_same, rfl, fun _ h => nomatch h⟩ (fun i H _ h => h.1.seq hl) ?_ (fun H h => ?_)
  · rintro i x H H' hi ⟨hS, zs, hD, ez, hzs⟩ ⟨rfl, hx⟩
    rw [List.length_map] at hi
    have ex : x = h l[i] := by
      rw [List.getElem?_map, List.getElem?_eq_getElem hi] at hx
      exact (Option.some.inj hx).symm
    subst ex
    have et : (l.take (i + 1)).filter keep = (l.take i).filter keep ++ (if keep l[i] = true then [l[i]] else []) := by
      rw [List.take_succ_eq_append_getElem hi, List.filter_append]
      congr 1
      simp only [List.filter_cons, List.filter_nil]
    have hlen : zs.length ≤ i := by
      have h1 : zs.length = ((l.take i).filter keep).length := by rw [← ez, List.length_map]
      have h2 : ((l.take i).filter keep).length ≤ (l.take i).length := List.length_filter_le ..
      rw [List.length_take] at h2; omega
    refine hs l[i] (List.getElem_mem hi) _ hS _ _ (fun hk t H2 s2 nt => ?_) (fun hk H2 s2 => ?_)
    · have neD : t ≠ D := fun e => by rw [e, s2 _ _ hD] at nt; cases nt
      have s3 : Same H2 (upd H2 t (.tup (f l[i]))) := same_upd nt
      refine ⟨_, (s3 _ _ (s2 _ _ hD)), (by rw [List.length_map]; omega), ?_, zs ++ [(.ref t, l[i])], by rw [List.map_append]; exact upd_same, ?_, fun z hz' => ?_⟩
      · intro b o q
        rw [upd_ne (ne_of_none q nD)]
        exact s3 _ _ (s2 _ _ (hS _ _ q))
      · rw [et, if_pos hk, List.map_append, ez]; rfl
      · rcases List.mem_append.mp hz' with hm | hm
        · obtain ⟨u, e1, e2⟩ := hzs z hm
          have e3 := s3 _ _ (s2 _ _ e2)
          refine ⟨u, e1, ?_⟩
          rw [upd_ne (fun e => by have h9 := s3 _ _ (s2 _ _ hD); rw [← e, e3] at h9; cases h9)]; exact e3
        · obtain rfl := List.mem_singleton.mp hm
          exact ⟨t, rfl, by rw [upd_ne neD]; exact upd_same⟩
    · refine ⟨hS.trans s2, zs, s2 _ _ hD, ?_, fun z hz' => ?_⟩
      · rw [et, if_neg (by rw [hk]; decide), List.append_nil]; exact ez
      · obtain ⟨u, e1, e2⟩ := hzs z hz'
        exact ⟨u, e1, s2 _ _ e2⟩
  · obtain ⟨hS, zs, hD, ez, hzs⟩ := h
    rw [List.length_map, List.take_length] at ez
    exact hd H zs hS hD ez hzs
end
end Ev
namespace Ev
open PySem PySem.Spec PyProof.Rows L2
variable {w : World} {K : PySem.W.Frag} {mg : Str → Option Value} {base : Heap} {A : Adr}

structure PreL (c : Cfg) (m : M) : Prop where
  pre : Pre c m
  gw : ∀ r, r < c.nr → (m.reqs r).Pairwise fun x y => x.gnum < y.gnum
theorem Good.preL {c : Cfg} {p : Option Nat} {m : M} (g : Good c p m) (pr : Pre c m) : PreL c m := ⟨pr, fun r hr => (g.gb.lin r hr).gnum⟩
theorem uniq_of {f : Rq → Nat} : ∀ {l : List Rq}, l.Pairwise (fun x y => f x < f y) → ∀ x ∈ l, ∀ y ∈ l, f x = f y → x = y
  | [], _, x, hx, _, _, _ => nomatch hx
  | z :: l, h, x, hx, y, hy, e => by
    obtain ⟨h1, h2⟩ := List.pairwise_cons.mp h
    rcases List.mem_cons.mp hx with hx | hx <;> rcases List.mem_cons.mp hy with hy | hy
    · rw [hx, hy]
    · rw [hx] at e; have := h1 y hy; omega
    · rw [hy] at e; have := h1 x hx; omega
    · exact uniq_of h2 x hx y hy e
theorem LAt.line {c : Cfg} {mv : V} {a : Addr} {m : M} {F : Hp} {S : Sto} {H : Hp} (P : LAt K c mv a m F S H) {r : Nat} (hr : r < c.nr) : H (S.ad (.rq r)) = some (.lst ((m.reqs r).map fun q => .ref (S.ad (.req r q.gnum)))) := P.ok.liv _ _ (P.rp.rq r hr)
theorem LAt.rqO {c : Cfg} {mv : V} {a : Addr} {m : M} {F : Hp} {S : Sto} {H : Hp} (P : LAt K c mv a m F S H) {r : Nat} (hr : r < c.nr) {q : Rq} (hq : q ∈ m.reqs r) : SqL K H (S.ad (.req r q.gnum)) (rqL q) := SqL.of (P.ok.liv _ _ (P.rp.req r hr q hq))
theorem mulW1 {n : Nat} (h : n ≤ 9) : CMulW 1 (n : Nat) := wide_mul (a := 1) (b := 4) (by decide) (by show n < 16; omega) (by decide) (by decide) (by decide)
theorem atI0 {xs : List V} {v : V} (h : xs[0]? = some v) : atI xs 0 = some v := atI_nat (j := 0) h
theorem get0 {α : Type} {xs : List α} (h : xs ≠ []) : ∃ v, xs[0]? = some v := by
  cases xs with
  | nil => exact absurd rfl h
  | cons v _ => exact ⟨v, rfl⟩
theorem leastOf_some {W : List Rq} (h : W ≠ []) : ∃ x, leastOf W = some x := by
  cases hl : leastOf W with
  | none => exact absurd (leastOf_nil hl) h
  | some x => exact ⟨x, rfl⟩
theorem first_ref {S : Sto} {r n : Nat} {l : List Rq} {x : Rq} (hx : x ∈ l) (hn : x.gnum = n) : ((l.filter fun q => q.gnum == n).map fun q => V.ref (S.ad (.req r q.gnum)))[0]? = some (.ref (S.ad (.req r n))) := by
  obtain ⟨y, hy⟩ := get0 (xs := l.filter fun q => q.gnum == n) (fun e => by
    have : x ∈ l.filter fun q => q.gnum == n := List.mem_filter.mpr ⟨hx, by simp [hn]⟩
    rw [e] at this; cases this)
  rw [List.getElem?_map, hy]
  have : y.gnum = n := by simpa using (List.mem_filter.mp (List.mem_of_getElem? hy)).2
  show some (V.ref _) = _
  rw [this]
def sp__law_first_request (K : PySem.W.Frag) (A : Adr) : Sp0 := fun vs H Q => ∃ (c : Cfg) (mv : V) (a : Addr) (m : M) (F : Hp) (S : Sto) (r : Nat) (b : Bool), vs = [.ref (S.ad (.rq r)), .str (if b then "preempt" else "rank")] ∧ LAt K c mv a m F S H ∧ r < c.nr ∧ (m.reqs r).length ≤ 4000 ∧ ((m.reqs r).Pairwise fun x y => x.gnum < y.gnum) ∧
  (leastOf ((m.reqs r).filter fun x => !x.holds) = none → ∀ H', Same H H' → Q .non H') ∧ (∀ x, leastOf ((m.reqs r).filter fun x => !x.holds) = some x → ∀ H', Same H H' → Q (.ref (S.ad (.req r x.gnum))) H')
theorem ok__law_first_request (T : Txt K mg w A) : Fn PP w K mg base 1 A._law_first_request (sp__law_first_request K A) := by
  refine T.d__law_first_request.go sc__law_first_request fun cdv Ar outer s H vs Q hr h => ?_
  have nd := sc__law_first_request.nd
  obtain ⟨c, mv, a, m, F, S, r, b, rfl, P, hr', hz, hpw, q0, q1⟩ := h
  refine ⟨_, (pss_cons (ps_set (i := 2) nd rfl (Or.inr rfl) (pe_callTy call_int1 (by rfl) T.b_int (by decide +kernel) (pa_cons (pe_cm op_ne (pv 1) pe_str) pa_nil)))
      (pss_cons (ps_set (i := 3) nd rfl (Or.inr rfl) (pe_callB cr_sortedPO (by rfl) T.b_sorted (by decide +kernel) (pa_cons (pe_lc (own := [("_law_one", 4)]) (g := gName 4) (tt := _) rfl nd (pi_list (pv 0)) (blkOk_by (own := [("_law_one", 4)]) (N := N__law_first_request) (sc := defScope s__law_first_request) (by decide +kernel))
        (fun _ _ _ _ _ => (pg_name (i := 4) nd rfl (Or.inl rfl))) (fun _ _ _ _ _ => (pts_one (pt_not (pt_val (pe_ix (ixL K) (pv 4) pe_int (fun _ _ => rfl))))))
        (fun _ _ _ _ _ => (pe_tup (pa_cons (pe_op op_mulW (pv 2) (pe_ix (ixL K) (pv 4) pe_int (fun _ _ => rfl))) (pa_cons (pe_ix (ixL K) (pv 4) pe_int (fun _ _ => rfl)) pa_nil))))) pa_nil)))
      (pss_cons (ps_if (pt_cm (opEqE K hr.hu) (pv 3) (pe_lst pa_nil))
        (pss_one (ps_ret pe_non))
        pss_nil)
      (pss_one (ps_ret (pe_ix (ixL K) (pe_lc (own := [("_law_one", 4)]) (g := gName 4) (tt := _) rfl nd (pi_list (pv 0)) (blkOk_by (own := [("_law_one", 4)]) (N := N__law_first_request) (sc := defScope s__law_first_request) (by decide +kernel))
        (fun _ _ _ _ _ => (pg_name (i := 4) nd rfl (Or.inl rfl))) (fun _ _ _ _ _ => (pts_one (pt_cm op_eq (pe_ix (ixL K) (pv 4) pe_int (fun _ _ => rfl)) (pe_ix (ixT K) (pe_ix (ixL K) (pv 3) pe_int (fun _ _ => rfl)) pe_int (fun _ _ => rfl)))))
        (fun _ _ _ _ _ => (pv 4))) pe_int (fun _ _ => rfl))))))), ?_⟩
  have hl := P.line hr'
  have s9 := s9
  have s5 := sz3 (Nat.le_refl _)
  refine ⟨_, rfl, rfl, .inr ⟨_, rfl, ?_⟩⟩
  have eb : (!decide (V.str (if b then "preempt" else "rank") = V.str "fifo")) = true := by rw [dstr]; cases b <;> decide
  rw [eb, if_pos rfl]
  refine ⟨_, rfl, _, rfl, ⟨_, SqL.of hl⟩, fun D nD => lc_P (l := m.reqs r) (h := fun q => V.ref (S.ad (.req r q.gnum))) (fun x => !x.holds) (fun x => [.int x.rank, .int x.gnum]) nD (SqL.of hl) (by omega) (fun z hz' H1 s1 Y N hY hN => ?_) fun H1 zs s1 eD ez hzs => ?_⟩
  · have hq := (P.same s1).rqO hr' hz'
    refine ⟨rfl, _, rfl, _, _, _, _, rfl, rfl, hq, at3, _, rfl, ?_⟩
    refine ifB (fun hb => ?_) fun hb => hN hb _ (Same.refl _)
    refine ⟨_, rfl, _, rfl, _, _, _, _, rfl, rfl, hq, at0, _, _, rfl, rfl, mulW1 (P.rp.rk r hr' z hz'), _, rfl, _, _, _, _, rfl, rfl, hq, at1, (by show 2 ≤ sizeLine; decide), fun e ne => ?_⟩
    show Y (V.ref e) (upd H1 e (.tup [V.int (1 * z.rank), V.int z.gnum]))
    rw [Int.one_mul]
    exact hY hb _ _ (Same.refl _) ne
  show rSortedPO K [V.ref D] H1 (fun x H1 => gName 3 x _ H1 _)
  refine sorted_rq (K := K) (g := Rq.gnum) eD hzs fun ys p np hlen hf hg => ?_
  have s2 : Same H (upd H1 p (.lst ys)) := s1.trans (same_upd np)
  refine ⟨_, rfl, Nat.zero_le _, fun p2 np2 => ?_⟩
  have s3 := s2.trans (same_upd np2 (o := .lst []))
  refine ⟨_, _, _, rfl, rfl, SqL.of (same_upd np2 _ _ upd_same), SqL.of upd_same, _, rfl, ?_⟩
  have hzl : zs.length = ((m.reqs r).filter fun x => !x.holds).length := by rw [← ez, List.length_map]
  refine ifB (fun hb => ?_) fun hb => ?_
  · have e0 : (m.reqs r).filter (fun x => !x.holds) = [] := by
      have : ys = [] := by simpa using hb
      rw [this] at hlen
      exact List.length_eq_zero_iff.mp (by rw [← hzl, ← hlen]; rfl)
    exact q0 (by rw [e0]; rfl) _ s3
  · have hne : ys ≠ [] := by intro e; rw [e] at hb; cases hb
    have hW : (m.reqs r).filter (fun x => !x.holds) ≠ [] := fun e => by
      rw [e] at hzl
      exact hne (List.length_eq_zero_iff.mp (by rw [hlen, hzl]; rfl))
    obtain ⟨x, hx⟩ := leastOf_some hW
    have q := q1 x hx
    obtain ⟨v, hv⟩ := get0 hne
    obtain ⟨z, hzm, rfl, hmin⟩ := hf v hv
    have hzW : z.2 ∈ (m.reqs r).filter fun x => !x.holds := ez ▸ List.mem_map_of_mem hzm
    have egn : z.2.gnum = x.gnum := least_gnum (hpw.filter _) hx hzW (fun y hy => hmin y (ez ▸ hy))
    obtain ⟨t, et, ht⟩ := hzs z hzm
    have ht3 := same_upd np2 (o := .lst []) _ _ (same_upd np (o := .lst ys) _ _ ht)
    have hk3 := same_upd np2 (o := .lst []) _ _ (upd_same (H := H1) (a := p) (o := .lst ys))
    have hl3 := s3 _ _ hl
    refine ⟨_, rfl, _, rfl, ⟨_, SqL.of hl3⟩, fun D2 nD2 => lc_L (l := m.reqs r) (h := fun q => V.ref (S.ad (.req r q.gnum))) (fun q => q.gnum == x.gnum) (fun q => V.ref (S.ad (.req r q.gnum))) nD2 (SqL.of hl3) (by omega) (fun y hy H4 s4 Y N hY hN => ?_) fun H4 s4 eD4 => ?_⟩
    · have hq := (P.same (s3.trans s4)).rqO hr' hy
      refine ⟨rfl, _, rfl, _, _, _, _, rfl, rfl, hq, at1, _, rfl, _, _, _, _, rfl, rfl, SqL.of (s4 _ _ hk3), atI0 hv, _, _, _, _, et, rfl, SqT.of (s4 _ _ ht3), at1, rfl, _, rfl, ?_⟩
      rw [dint, egn]
      refine ifB (fun hb => ⟨_, rfl, hY ?_ _ (Same.refl _)⟩) fun hb => hN ?_ _ (Same.refl _)
      · simpa using hb
      · simpa using hb
    · exact ⟨_, _, _, _, rfl, rfl, SqL.of eD4, atI0 (first_ref (List.mem_filter.mp (leastOf_in hx)).1 rfl), q _ (s3.trans s4)⟩
def sp__law_rouse (K : PySem.W.Frag) (A : Adr) : Sp0 := fun vs H Q => ∃ (c : Cfg) (mv : V) (a : Addr) (m : M) (F : Hp) (S : Sto) (p x : Nat), vs = [.ref a, .int p, .int x] ∧ LAt K c mv a m F S H ∧ Pre c m ∧ p < c.n ∧ x < c.n ∧
  ∀ F' S' H', Same F F' → FixL S S' → LAt K c mv a (m.rouse p x) F' S' H' → Q (.bl true) H'
/-- _law_rouse -/
theorem ok__law_rouse (T : Txt K mg w A) : Fn PP w K mg base 3 A._law_rouse (sp__law_rouse K A) := by
  refine T.d__law_rouse.go sc__law_rouse fun cdv Ar outer s H vs Q hr h => ?_
  have nd := sc__law_rouse.nd
  obtain ⟨c, mv, a, m, F, S, p, x, rfl, P, B, hp, hx, q⟩ := h
  refine ⟨_, (pss_cons (ps_if (PW.pt (pw_and (pt_cm (opIn K) (pv 2) (pe_f (ok__law_sleepers T) (hr.mono (by decide)) (by rfl) T.g__law_sleepers T.d__law_sleepers.kp (pa_cons (pv 0) pa_nil))) (pw_and1 (pt_cm op_lt (pe_ix (ixL K) (pe_dget hr.hu1 (pv 0) pe_str (fun _ _ => rfl)) (pv 2) (fun _ _ => rfl)) (pe_dget hr.hu1 (pv 0) pe_str (fun _ _ => rfl))))))
        (pss_cons (ps_expr (pe_f (ok__law_tell T) (hr.mono (by decide)) (by rfl) T.g__law_tell T.d__law_tell.kp (pa_cons (pv 0) (pa_cons (pv 1) (pa_cons pe_str (pa_cons (pe_tup (pa_cons (pv 2) pa_nil)) pa_nil))))))
        (pss_cons (ps_expr (pe_f (ok__law_unplan T) (hr.mono (by decide)) (by rfl) T.g__law_unplan T.d__law_unplan.kp (pa_cons (pv 0) (pa_cons (pv 2) pa_nil))))
        (pss_cons (ps_asg (pe_dget hr.hu1 (pv 0) pe_str (fun _ _ => rfl)) (pg_sub (pe_dget hr.hu1 (pv 0) pe_str (fun _ _ => rfl)) (pv 2) set_list (fun _ => rfl)))
        (pss_one (ps_expr (pe_f (ok__law_plan T) (hr.mono (by decide)) (by rfl) T.g__law_plan T.d__law_plan.kp (pa_cons (pv 0) (pa_cons (pv 2) (pa_cons (pe_dget hr.hu1 (pv 0) pe_str (fun _ _ => rfl)) pa_nil)))))))))
        pss_nil)
      (pss_one (ps_ret pe_bl))), ?_⟩
  have hlg := B.lg
  have hag := B.ag
  have hnn := B.nn
  refine ⟨_, rfl, _, rfl, c, mv, a, m, F, S, rfl, P, by omega, fun t H1 s1 ht => ?_⟩
  have P := P.same s1
  obtain ⟨o1, o2, er, h1⟩ := P.run
  refine ⟨_, _, rfl, .inl (SqL.of ht), rfl, flat_ints _, _, rfl, ?_⟩
  show if inV (V.int x) ((m.sleepers c.n).map fun x => V.int (x : Nat)) = true then _ else _
  rw [inV_ints, mem_sleepers, decide_eq_true hx, Bool.true_and]
  have fin : (m.isSleeper x && decide (m.since x < m.clock)) = false → m.rouse p x = m := fun h => by unfold M.rouse; rw [h]; rfl
  refine ifB (fun hb => ?_) fun hb => ?_
  · refine ⟨_, rfl, _, _, rfl, DG h1 kv_since, _, rfl, _, _, _, _, rfl, rfl, SqL.of (P.ok.liv _ _ P.rp.si), tab_at hx, _, rfl, _, _, rfl, DG h1 kv_time, _, _, rfl, rfl, _, rfl, ?_⟩
    have e : decide ((m.since x : Int) < (m.clock : Int)) = decide (m.since x < m.clock) := decide_eq_decide.mpr (by omega)
    rw [e]
    refine ifB (fun hb2 => ?_) fun hb2 => ?_
    · have er : m.rouse p x = (({ ((m.tell p .rouse [x]).unplan x) with til := upf m.til x m.clock } : M).plan x m.clock) := by unfold M.rouse; rw [hb, hb2]; rfl
      rw [er] at q
      refine ⟨_, rfl, _, rfl, _, rfl, (by show 1 ≤ sizeLine; decide), fun e ne => ?_⟩
      have P1 := P.frz ne (.tup [V.int x])
      have u1 := P.up ne (.tup [V.int x])
      refine ⟨c, mv, a, m, _, S, p, .rouse, [x], e, rfl, P1, .tup (SqT.of upd_same) (.cons (.int _) .nil), by omega, (by show 1 ≤ 100; decide), fun F2 S2 H2 s2 X2 P2 => ?_⟩
      refine ⟨_, rfl, _, rfl, c, mv, a, _, F2, S2, x, rfl, P2, by show m.agenda.length ≤ 5000; omega, fun F3 S3 H3 s3 X3 P3 => ?_⟩
      obtain ⟨o1, o2, er, h1⟩ := P3.run
      refine ⟨_, rfl, _, _, rfl, DG h1 kv_time, _, rfl, _, _, rfl, DG h1 kv_until, _, rfl, _, _, _, x, rfl, rfl, P3.ok.liv _ _ P3.rp.ti, tab_ix hx, ?_⟩
      obtain ⟨S4, P4, X4⟩ := P3.setTi x m.clock
      obtain ⟨o1, o2, er, h1⟩ := P4.run
      have hfl : (m.agenda.filter fun e => e.2.2 != x).length ≤ m.agenda.length := List.length_filter_le ..
      refine ⟨_, rfl, _, rfl, _, rfl, _, _, rfl, DG h1 kv_time, c, mv, a, _, F3, S4, x, m.clock, rfl, P4, by show (m.agenda.filter fun e => e.2.2 != x).length ≤ 4000; omega, fun F5 S5 H5 s5 X5 P5 => ?_⟩
      exact q _ _ _ (u1.trans (s2.trans (s3.trans s5))) (X2.trans (X3.trans (X4.trans X5))) P5
    · rw [fin (by rw [hb, hb2]; rfl)] at q
      exact q _ _ _ (Same.refl _) (FixL.refl _) P
  · rw [fin (by rw [hb]; rfl)] at q
    exact q _ _ _ (Same.refl _) (FixL.refl _) P
end Ev
namespace Ev
open PySem PySem.Spec PyProof.Rows L2
variable {w : World} {K : PySem.W.Frag} {mg : Str → Option Value} {base : Heap} {A : Adr}

def rqD (q : Rq) : PyData := .list [.int q.rank, .int q.gnum, .int q.proc, .bool q.holds]
theorem rqD_dep (q : Rq) : (rqD q).depth ≤ 8 := by simp only [rqD, PyData.depth, PyData.depthAll]; decide
theorem rqD_alike (a b : Rq) : PySem.W.alike (rqD a) (rqD b) = true := by simp only [rqD, PySem.W.alike, PySem.W.alikeAll, Bool.and_self]
theorem rqD_ne {a b : Rq} (h : a.gnum ≠ b.gnum) : PyData.eqv (rqD a) (rqD b) = false := by
  have e : ((a.gnum : Int) == (b.gnum : Int)) = false := by simp; omega
  simp only [rqD, PyData.eqv, PyData.eqvAll, e, Bool.false_and, Bool.and_false]
theorem dpa_map {α : Type} {K : PySem.W.Frag} {H : Hp} {f : α → V} {g : α → PyData} : ∀ {l : List α}, (∀ x ∈ l, Dp K H (f x) (g x)) → DpAll K H (l.map f) (l.map g)
  | [], _ => .nil
  | x :: l, h => .cons (h x (List.mem_cons_self ..)) (dpa_map fun y hy => h y (List.mem_cons_of_mem _ hy))
theorem LAt.rqDp {c : Cfg} {mv : V} {a : Addr} {m : M} {F : Hp} {S : Sto} {H : Hp} (P : LAt K c mv a m F S H) {r : Nat} (hr : r < c.nr) {q : Rq} (hq : q ∈ m.reqs r) : Dp K H (.ref (S.ad (.req r q.gnum))) (rqD q) :=
  .lst (P.rqO hr hq) (.cons (.int _) (.cons (.int _) (.cons (.int _) (.cons (.bl _) .nil))))
theorem erase_without {l : List Rq} (h1 : l.Pairwise fun x y => x.num < y.num) {j : Nat} {q : Rq} (hj : l[j]? = some q) : l.eraseIdx j = without l q.num := by
  induction l generalizing j with
  | nil => cases hj
  | cons x l ih =>
    obtain ⟨h2, h3⟩ := List.pairwise_cons.mp h1
    cases j with
    | zero =>
      obtain rfl : x = q := by simpa using hj
      show l = (x :: l).filter fun y => y.num != x.num
      rw [List.filter_cons_of_neg (by simp)]
      exact (List.filter_eq_self.mpr fun y hy => by have := h2 y hy; simp; omega).symm
    | succ j =>
      have hj : l[j]? = some q := by simpa using hj
      have := h2 q (List.mem_of_getElem? hj)
      show x :: l.eraseIdx j = (x :: l).filter fun y => y.num != q.num
      rw [List.filter_cons_of_pos (by simp; omega), ih h3 hj]; rfl
theorem map_erase {α β : Type} (f : α → β) : ∀ (l : List α) (j : Nat), (l.map f).eraseIdx j = (l.eraseIdx j).map f
  | [], _ => rfl
  | _ :: _, 0 => rfl
  | x :: l, j + 1 => by show f x :: (l.map f).eraseIdx j = f x :: (l.eraseIdx j).map f; rw [map_erase f l j]
theorem setLine_setLine (m : M) (r : Nat) (l l' : List Rq) : (m.setLine r l).setLine r l' = m.setLine r l' := by unfold M.setLine; dsimp only; rw [upf_upf]
theorem without_mem {l : List Rq} {n : Nat} {x : Rq} (h : x ∈ without l n) : x ∈ l := (List.mem_filter.mp h).1
def sp__law_give (K : PySem.W.Frag) (A : Adr) : Sp0 := fun vs H Q => ∃ (c : Cfg) (mv : V) (a : Addr) (m : M) (F : Hp) (S : Sto) (p r : Nat) (own : Rq), vs = [.ref a, .int p, .int r] ∧ LAt K c mv a m F S H ∧ PreL c m ∧ p < c.n ∧ r < c.nr ∧ lastOf (m.reqs r) p = some own ∧
  ∀ F' S' H', Same F F' → LAt K c mv a (m.give p r) F' S' H' → Q (.bl true) H'
/-- _law_give -/
theorem ok__law_give (T : Txt K mg w A) : Fn PP w K mg base 5 A._law_give (sp__law_give K A) := by
  refine T.d__law_give.go sc__law_give fun cdv Ar outer s H vs Q hr h => ?_
  have nd := sc__law_give.nd
  obtain ⟨c, mv, a, m, F, S, p, r, own, rfl, P, ⟨B, hgw⟩, hp, hr', ho, q⟩ := h
  refine ⟨_, (pss_cons (ps_set (i := 3) nd rfl (Or.inl rfl) (pe_ix (ixL K) (pe_dget hr.hu1 (pv 0) pe_str (fun _ _ => rfl)) (pv 2) (fun _ _ => rfl)))
      (pss_cons (ps_set (i := 4) nd rfl (Or.inl rfl) (pe_ix (ixL K) (pe_lc (own := [("_law_one", 7)]) (g := gName 7) (tt := _) rfl nd (pi_list (pv 3)) (blkOk_by (own := [("_law_one", 7)]) (N := N__law_give) (sc := defScope s__law_give) (by decide +kernel))
        (fun _ _ _ _ _ => (pg_name (i := 7) nd rfl (Or.inl rfl))) (fun _ _ _ _ _ => (pts_one (PW.pt (pw_and (pt_val (pe_ix (ixL K) (pv 7) pe_int (fun _ _ => rfl))) (pw_and1 (pt_cm op_eq (pe_ix (ixL K) (pv 7) pe_int (fun _ _ => rfl)) (pv 1)))))))
        (fun _ _ _ _ _ => (pv 7))) (pe_un un_neg pe_int) (fun _ _ => rfl)))
      (pss_cons (ps_expr (pe_bm PySem.F.plainAttrs_list PySem.F.slot_list_remove PySem.F.type_list_remove (mt_removeD hr.hu) (pv 3) (pa_cons (pv 4) pa_nil)))
      (pss_cons (ps_expr (pe_f (ok__law_tell T) (hr.mono (by decide)) (by rfl) T.g__law_tell T.d__law_tell.kp (pa_cons (pv 0) (pa_cons (pv 1) (pa_cons pe_str (pa_cons (pe_tup (pa_cons (pv 2) pa_nil)) pa_nil))))))
      (pss_cons (ps_set (i := 5) nd rfl (Or.inl rfl) (pe_f (ok__law_first_request T) (hr.mono (by decide)) (by rfl) T.g__law_first_request T.d__law_first_request.kp (pa_cons (pv 3) (pa_cons (pe_ix (ixT K) (pe_ix (ixT K) (pe_ix (ixT K) (pe_dget hr.hu1 (pv 0) pe_str (fun _ _ => rfl)) pe_int (fun _ _ => rfl)) (pv 2) (fun _ _ => rfl)) pe_int (fun _ _ => rfl)) pa_nil))))
      (pss_cons (ps_if (pt_cm op_notN (pv 5) pe_non)
        (pss_cons (ps_asg pe_bl (pg_sub (pv 5) pe_int set_list (fun _ => rfl)))
        (pss_cons (ps_set (i := 6) nd rfl (Or.inl rfl) (pe_ix (ixL K) (pv 5) pe_int (fun _ _ => rfl)))
        (pss_cons (ps_expr (pe_f (ok__law_tell T) (hr.mono (by decide)) (by rfl) T.g__law_tell T.d__law_tell.kp (pa_cons (pv 0) (pa_cons (pv 6) (pa_cons pe_str (pa_cons (pe_tup (pa_cons (pv 2) pa_nil)) pa_nil))))))
        (pss_one (ps_if (pt_cm op_eq (pe_ix (ixT K) (pe_ix (ixL K) (pe_dget hr.hu1 (pv 0) pe_str (fun _ _ => rfl)) (pv 6) (fun _ _ => rfl)) pe_int (fun _ _ => rfl)) pe_str)
          (pss_one (ps_expr (pe_f (ok__law_fall_asleep T) (hr.mono (by decide)) (by rfl) T.g__law_fall_asleep T.d__law_fall_asleep.kp (pa_cons (pv 0) (pa_cons (pv 6) (pa_cons (pe_ix (ixT K) (pe_ix (ixL K) (pe_dget hr.hu1 (pv 0) pe_str (fun _ _ => rfl)) (pv 6) (fun _ _ => rfl)) pe_int (fun _ _ => rfl)) pa_nil))))))
          (pss_one (ps_expr (pe_f (ok__law_go_on T) (hr.mono (by decide)) (by rfl) T.g__law_go_on T.d__law_go_on.kp (pa_cons (pv 0) (pa_cons (pv 6) pa_nil))))))))))
        pss_nil)
      (pss_one (ps_ret pe_bl)))))))), ?_⟩
  have s9 := s9
  have hzr := B.rq r hr'
  have hpw := B.pw r hr'
  have hpg := hgw r hr'
  have hom := (lastOf_mem ho).1
  have hlg := B.lg
  have hag := B.ag
  obtain ⟨o1, o2, er, h1⟩ := P.run
  have hl := P.line hr'
  refine ⟨_, rfl, _, _, rfl, DG h1 kv_requests, _, rfl, _, _, _, _, rfl, rfl, SqL.of (P.ok.liv _ _ P.rp.rqs), tab_at hr', ?_⟩
  refine ⟨_, rfl, _, rfl, ⟨_, SqL.of hl⟩, fun D nD => lc_L (l := m.reqs r) (h := fun q => V.ref (S.ad (.req r q.gnum))) (fun q => q.holds && q.proc == p) (fun q => V.ref (S.ad (.req r q.gnum))) nD (SqL.of hl) (Nat.le_of_lt (sz3 (by omega))) (fun y hy H1 s1 Y N hY hN => ?_) fun H1 s1 eD => ?_⟩
  · have hq := (P.same s1).rqO hr' hy
    refine ⟨rfl, _, rfl, _, _, _, _, rfl, rfl, hq, at3, _, rfl, ?_⟩
    refine ifB (fun hb => ?_) fun hb => hN (by rw [hb]; rfl) _ (Same.refl _)
    refine ⟨_, rfl, _, _, _, _, rfl, rfl, hq, at2, _, rfl, rfl, _, rfl, ?_⟩
    rw [dint]
    refine ifB (fun hb2 => ⟨_, rfl, hY ?_ _ (Same.refl _)⟩) fun hb2 => hN ?_ _ (Same.refl _)
    · rw [hb, Bool.true_and]; simpa using hb2
    · rw [hb, Bool.true_and]; simpa using hb2
  obtain ⟨t, ht⟩ := List.getLast?_eq_some_iff.mp ho
  have ht' : (m.reqs r).filter (fun q => q.holds && q.proc == p) = t ++ [own] := ht
  rw [ht', List.map_append] at eD
  refine ⟨_, rfl, _, _, _, _, rfl, rfl, SqL.of eD, atI_last _ _, ?_⟩
  have P := P.same s1
  have hl := P.line hr'
  obtain ⟨j, hj⟩ := List.getElem?_of_mem hom
  refine ⟨_, rfl, .inl ⟨rfl, _, SqL.of hl⟩, _, rfl, _, _, _, j, (m.reqs r).map rqD, rfl, rfl, hl, by rw [List.getElem?_map, hj]; rfl, dpa_map fun x hx => P.rqDp hr' hx, fun d hd => ?_, fun i d e hi hd he => ?_, ?_⟩
  · obtain ⟨x, _, rfl⟩ := List.mem_map.mp hd; exact rqD_dep x
  · rw [List.getElem?_map] at hd he
    rw [hj] at he
    cases hx : (m.reqs r)[i]? with
    | none => rw [hx] at hd; cases hd
    | some x =>
      rw [hx] at hd
      obtain rfl := Option.some.inj hd
      obtain rfl := Option.some.inj he
      refine ⟨rqD_alike _ _, rqD_ne ?_⟩
      have h1 := (List.getElem?_eq_some_iff.mp hx)
      have h2 := (List.getElem?_eq_some_iff.mp hj)
      obtain ⟨l1, e1⟩ := h1
      obtain ⟨l2, e2⟩ := h2
      have := List.pairwise_iff_getElem.mp hpg i j l1 l2 hi
      rw [e1, e2] at this; omega
  rw [map_erase, erase_without hpw hj]
  obtain ⟨S2, P2, X2⟩ := P.sub hr' (l := without (m.reqs r) own.num) fun x hx => without_mem hx
  refine ⟨_, rfl, _, rfl, _, rfl, (by show 1 ≤ sizeLine; decide), fun e ne => ?_⟩
  have P3 := P2.frz ne (.tup [V.int r])
  have u3 := P2.up ne (.tup [V.int r])
  refine ⟨c, mv, a, _, _, S2, p, .give, [r], e, rfl, P3, .tup (SqT.of upd_same) (.cons (.int _) .nil), by show m.log.length ≤ 4000; omega, (by show 1 ≤ 100; decide), fun F4 S4 H4 s4 X4 P4 => ?_⟩
  have X24 := X2.trans X4
  have em4 : ((m.setLine r (without (m.reqs r) own.num)).tell p .give [r]).reqs r = without (m.reqs r) own.num := upf_same _ _ _
  have eal : S4.ad (.rq r) = S.ad (.rq r) := X24.ad _ (by intro z; cases z)
  obtain ⟨b, v1, v2, v3, b0, ys, b1, emv, hs1, hs2, hs3, hs4⟩ := cfg_res P4.rp.mod hr'
  obtain ⟨o1, o2, er, h1⟩ := P4.run
  refine ⟨_, rfl, _, rfl, _, _, rfl, DG h1 kv_model, _, _, _, _, emv, rfl, same_T P4.ok.sm hs1, at0, _, rfl, _, _, _, _, rfl, rfl, same_T P4.ok.sm hs2, hs3, _, _, _, _, rfl, rfl, same_T P4.ok.sm hs4, at0, ?_⟩
  refine ⟨c, mv, a, _, F4, S4, r, c.pre r, by rw [eal], P4, hr', ?_, ?_, fun hlo H5 s5 => ?_, fun x hlo H5 s5 => ?_⟩
  · rw [em4]; exact Nat.le_trans (List.length_filter_le ..) (by omega)
  · rw [em4]; exact hpg.filter _
  · rw [em4] at hlo
    refine ⟨_, rfl, rfl, _, rfl, ?_⟩
    refine ifN' rfl ?_
    have e : m.give p r = (m.setLine r (without (m.reqs r) own.num)).tell p .give [r] := by
      unfold M.give
      rw [ho]
      dsimp only
      rw [hlo]
      rfl
    rw [e] at q
    exact q _ _ _ (u3.trans s4) (P4.same s5)
  · rw [em4] at hlo
    have hxw : x ∈ without (m.reqs r) own.num := (List.mem_filter.mp (leastOf_in hlo)).1
    have hxp : x.proc < c.n := B.pc r hr' x (without_mem hxw)
    have e : m.give p r = ((((m.tell p .give [r]).setLine r (setHold (without (m.reqs r) own.num) x.num true)).tell x.proc .hold [r]).resume x.proc) := by
      unfold M.give
      rw [ho]
      dsimp only
      rw [hlo]
    rw [e] at q
    have P5 := P4.same s5
    have hxm : x ∈ ((m.setLine r (without (m.reqs r) own.num)).tell p .give [r]).reqs r := by rw [em4]; exact hxw
    refine ⟨_, rfl, rfl, _, rfl, ?_⟩
    refine ifB' rfl ?_
    refine ⟨_, rfl, _, _, _, 3, rfl, rfl, P5.ok.liv _ _ (P5.rp.req r hr' x hxm), rfl, ?_⟩
    obtain ⟨S6, P6, A6, C6⟩ := P5.hold hr' hxm (fun y hy ey => uniq_of (f := Rq.num) (by rw [em4]; exact hpw.filter _) y hy x hxm ey) (fun y hy ey => uniq_of (f := Rq.gnum) (by rw [em4]; exact hpg.filter _) y hy x hxm ey) true
    rw [em4] at P6
    have em6 : ((m.setLine r (without (m.reqs r) own.num)).tell p .give [r]).setLine r (setHold (without (m.reqs r) own.num) x.num true) = (m.tell p .give [r]).setLine r (setHold (without (m.reqs r) own.num) x.num true) := setLine_setLine (m.tell p .give [r]) r _ _
    rw [em6] at P6
    have hxm6 : ({ x with holds := true } : Rq) ∈ ((m.tell p .give [r]).setLine r (setHold (without (m.reqs r) own.num) x.num true)).reqs r := by
      show _ ∈ upf _ r _ r
      rw [upf_same]
      exact List.mem_map.mpr ⟨x, hxw, if_pos rfl⟩
    have hq6 := P6.rqO hr' hxm6
    rw [A6] at hq6
    refine ⟨_, rfl, _, _, _, _, rfl, rfl, hq6, at2, ?_⟩
    refine ⟨_, rfl, _, rfl, _, rfl, (by show 1 ≤ sizeLine; decide), fun e7 ne7 => ?_⟩
    have P7 := P6.frz ne7 (.tup [V.int r])
    have u7 := P6.up ne7 (.tup [V.int r])
    refine ⟨c, mv, a, _, _, S6, x.proc, .hold, [r], e7, rfl, P7, .tup (SqT.of upd_same) (.cons (.int _) .nil), by show (m.log ++ [_]).length ≤ 4000; rw [List.length_append]; show m.log.length + 1 ≤ 4000; omega, (by show 1 ≤ 100; decide), fun F8 S8 H8 s8 X8 P8 => ?_⟩
    obtain ⟨o1, o2, er, h1⟩ := P8.run
    obtain ⟨f, es, ds⟩ := P8.rp.st
    obtain ⟨b, xs, hfb, hsb, z, hz0, hz1, hz2⟩ := stsI (ds x.proc hxp)
    have hsb := same_T P8.ok.sm hsb
    refine ⟨_, rfl, _, _, rfl, DG h1 kv_states, _, rfl, _, _, _, _, rfl, rfl, SqL.of (P8.ok.liv _ _ es), tab_at hxp, _, _, _, _, hfb, rfl, hsb, hz0, rfl, _, rfl, ?_⟩
    have us := u3.trans (s4.trans (u7.trans s8))
    rw [dstr]
    refine ifB (fun hb => ?_) fun hb => ?_
    · obtain ⟨r0, d0, hsu⟩ := hz1.mp (of_decide_eq_true hb)
      refine ⟨_, rfl, _, rfl, _, rfl, _, _, rfl, DG h1 kv_states, _, rfl, _, _, _, _, rfl, rfl, SqL.of (P8.ok.liv _ _ es), tab_at hxp, _, _, _, _, hfb, rfl, hsb, hz2 r0 d0 hsu, c, mv, a, _, F8, S8, x.proc, d0, rfl, P8, hxp, by show m.agenda.length ≤ 4000; omega, fun F9 S9 H9 s9 X9 P9 => ?_⟩
      have e2 : ((((m.tell p .give [r]).setLine r (setHold (without (m.reqs r) own.num) x.num true)).tell x.proc .hold [r]).resume x.proc) = ((((m.tell p .give [r]).setLine r (setHold (without (m.reqs r) own.num) x.num true)).tell x.proc .hold [r]).fallAsleep x.proc d0) := by
        have hsu' : ((((m.tell p .give [r]).setLine r (setHold (without (m.reqs r) own.num) x.num true)).tell x.proc .hold [r]).states x.proc) = .susp r0 d0 := hsu
        unfold M.resume
        rw [hsu']
      rw [e2] at q
      exact q _ _ _ (us.trans s9) P9
    · have hns : ∀ r0 d0, ((((m.tell p .give [r]).setLine r (setHold (without (m.reqs r) own.num) x.num true)).tell x.proc .hold [r]).states x.proc) ≠ .susp r0 d0 := fun r0 d0 h => by
        have := hz1.mpr ⟨r0, d0, h⟩
        rw [this] at hb
        exact absurd hb (by decide)
      refine ⟨_, rfl, _, rfl, c, mv, a, _, F8, S8, x.proc, rfl, P8, hxp, by show m.agenda.length ≤ 4000; omega, fun F9 S9 H9 s9 X9 P9 => ?_⟩
      have e2 : ((((m.tell p .give [r]).setLine r (setHold (without (m.reqs r) own.num) x.num true)).tell x.proc .hold [r]).resume x.proc) = ((((m.tell p .give [r]).setLine r (setHold (without (m.reqs r) own.num) x.num true)).tell x.proc .hold [r]).goOn x.proc) := by
        unfold M.resume
        split
        · rename_i h; exact absurd h (hns _ _)
        · rfl
      rw [e2] at q
      exact q _ _ _ (us.trans s9) P9
end Ev
namespace Ev
open PySem PySem.Spec PyProof.Rows L2
variable {w : World} {K : PySem.W.Frag} {mg : Str → Option Value} {base : Heap} {A : Adr}

theorem atIl {xs : List V} {v : V} (h : xs.getLast? = some v) : atI xs (-1) = some v := by
  obtain ⟨t, rfl⟩ := List.getLast?_eq_some_iff.mp h
  exact atI_last _ _
theorem getL {α : Type} {xs : List α} (h : xs ≠ []) : ∃ v, xs.getLast? = some v := by
  cases hx : xs.getLast? with
  | none => exact absurd (List.getLast?_eq_none_iff.mp hx) h
  | some v => exact ⟨v, rfl⟩
theorem greatOf_some {W : List Rq} (h : W ≠ []) : ∃ x, greatOf W = some x := by
  cases hl : greatOf W with
  | none => exact absurd (greatOf_nil hl) h
  | some x => exact ⟨x, rfl⟩
/-- those that may be robbed, as the law finds them -/
def vicL (c : Cfg) (m : M) (k : Nat) (vi : List Nat) (l : List Rq) : List Rq := (l.filter fun x => x.holds).filter fun x => decide (k < x.rank) && vi.contains x.proc
theorem vicL_eq {c : Cfg} {m : M} {r k : Nat} (hp : ∀ q ∈ m.reqs r, q.proc < c.n) {vi : List Nat} (hv : vi = if c.pre r then m.sleepers c.n else []) : m.victim c r k = greatOf (vicL c m k vi (m.reqs r)) := by
  unfold M.victim vicL
  subst hv
  cases c.pre r with
  | false =>
    rw [if_neg (by decide), if_neg (by decide)]
    rw [show ((m.reqs r).filter fun x => x.holds).filter (fun x => decide (k < x.rank) && ([] : List Nat).contains x.proc) = [] from List.filter_eq_nil_iff.mpr fun x _ => by simp]
    rfl
  | true =>
    rw [if_pos rfl, if_pos rfl, List.filter_filter]
    congr 1
    refine List.filter_congr fun x hx => ?_
    rw [mem_sleepers, decide_eq_true (hp x hx), Bool.true_and, Bool.and_comm (decide _ && _), Bool.and_assoc]
theorem LAt.app' {c : Cfg} {mv : V} {a : Addr} {m : M} {F : Hp} {S : Sto} {H : Hp} (h : LAt K c mv a m F S H) {r : Nat} (hr : r < c.nr) {q : Rq} (hc : S.ct (.req r q.gnum) = some (.lst (rqL q))) (hg : q.gnum < m.asked) (hk : q.rank ≤ 9) {el en : Addr} (hel : S.ad (.rq r) = el) (hen : S.ad (.req r q.gnum) = en) :
    ∃ ys, H el = some (.lst ys) ∧ ys.length = (m.reqs r).length ∧ ∃ S', LAt K c mv a { m with reqs := upf m.reqs r (m.reqs r ++ [q]) } F S' (upd H el (.lst (ys ++ [.ref en]))) ∧ FixL S S' := by
  subst hel; subst hen
  obtain ⟨S', h1, h2⟩ := h.app hr hc hg hk
  exact ⟨_, h.line hr, List.length_map .., S', h1, h2⟩
theorem ite_k {b : Bool} {t1 t2 : TE} {σ : L2.St} {H : Hp} {K1 : VK} (P : V → Hp → Prop) (h1 : b = true → ∀ Q : VK, (∀ v H', P v H' → Q v H') → t1 σ H Q) (h2 : b = false → ∀ Q : VK, (∀ v H', P v H' → Q v H') → t2 σ H Q) (k : ∀ v H', P v H' → K1 v H') :
    if b = true then t1 σ H K1 else t2 σ H K1 := by
  cases b
  · exact h2 rfl _ k
  · exact h1 rfl _ k
def sp__law_take (K : PySem.W.Frag) (A : Adr) : Sp0 := fun vs H Q => ∃ (c : Cfg) (mv : V) (a : Addr) (m : M) (F : Hp) (S : Sto) (p r k : Nat), vs = [.ref a, .int p, .int r, .int k] ∧ LAt K c mv a m F S H ∧ PreL c m ∧ p < c.n ∧ r < c.nr ∧ k ≤ 9 ∧
  ∀ F' S' H', Same F F' → LAt K c mv a (m.take c p r k).1 F' S' H' → Q (.bl (m.take c p r k).2) H'
theorem ok__law_take (T : Txt K mg w A) : Fn PP w K mg base 5 A._law_take (sp__law_take K A) := by
  refine T.d__law_take.go sc__law_take fun cdv Ar outer s H vs Q hr h => ?_
  have nd := sc__law_take.nd
  obtain ⟨c, mv, a, m, F, S, p, r, k, rfl, P, ⟨B, hgw⟩, hp, hr', hk9, q⟩ := h
  refine ⟨_, (pss_cons (ps_par (i := 4) (j := 5) rfl nd rfl rfl (by decide) rfl rfl (pa_cons (pe_ix (ixL K) (pe_dget hr.hu1 (pv 0) pe_str (fun _ _ => rfl)) (pv 2) (fun _ _ => rfl)) (pa_cons (pe_ix (ixT K) (pe_ix (ixT K) (pe_dget hr.hu1 (pv 0) pe_str (fun _ _ => rfl)) pe_int (fun _ _ => rfl)) (pv 2) (fun _ _ => rfl)) pa_nil)) rfl)
      (pss_cons (ps_set (i := 6) nd rfl (Or.inl rfl) (pe_lst (pa_cons (pv 3) (pa_cons (pe_dget hr.hu1 (pv 0) pe_str (fun _ _ => rfl)) (pa_cons (pv 1) (pa_cons pe_bl pa_nil))))))
      (pss_cons (ps_asg (pe_op op_add (pe_dget hr.hu1 (pv 0) pe_str (fun _ _ => rfl)) pe_int) (pg_sub (pv 0) pe_str (set_dict hr.hu1) (fun _ => rfl)))
      (pss_cons (ps_setLc (i := 7) (hy := rfl) (hyl := rfl) (hsw := sw_true rfl rfl rfl (by decide +kernel)) (own := [("_law_one", 12)]) (g := gName 12) (tt := _) rfl nd (pi_list (pv 4)) (blkOk_by (own := [("_law_one", 12)]) (N := N__law_take) (sc := defScope s__law_take) (by decide +kernel))
        (fun _ _ _ _ _ => (pg_name (i := 12) nd rfl (Or.inl rfl))) (fun _ _ _ _ _ => (pts_one (pt_val (pe_ix (ixL K) (pv 12) pe_int (fun _ _ => rfl)))))
        (fun _ _ _ _ _ => (pv 12)))
      (pss_cons (ps_if (pt_cm op_ge (pe_callB (lenK K) (by rfl) T.b_len (by decide +kernel) (pa_cons (pv 7) pa_nil)) (pe_ix (ixT K) (pv 5) pe_int (fun _ _ => rfl)))
        (pss_cons (ps_set (i := 8) nd rfl (Or.inr rfl) (pe_ifExp (pt_cm op_eq (pe_ix (ixT K) (pv 5) pe_int (fun _ _ => rfl)) pe_str) (pe_f (ok__law_sleepers T) (hr.mono (by decide)) (by rfl) T.g__law_sleepers T.d__law_sleepers.kp (pa_cons (pv 0) pa_nil)) (pe_lst pa_nil)))
        (pss_cons (ps_set (i := 9) nd rfl (Or.inr rfl) (pe_callB cr_sortedPO (by rfl) T.b_sorted (by decide +kernel) (pa_cons (pe_lc (own := [("_law_one", 12)]) (g := gName 12) (tt := _) rfl nd (pi_list (pv 7)) (blkOk_by (own := [("_law_one", 12)]) (N := N__law_take) (sc := defScope s__law_take) (by decide +kernel))
        (fun _ _ _ _ _ => (pg_name (i := 12) nd rfl (Or.inl rfl))) (fun _ _ _ _ _ => (pts_one (PW.pt (pw_and (pt_cm op_gt (pe_ix (ixL K) (pv 12) pe_int (fun _ _ => rfl)) (pv 3)) (pw_and1 (pt_cm (opIn K) (pe_ix (ixL K) (pv 12) pe_int (fun _ _ => rfl)) (pv 8)))))))
        (fun _ _ _ _ _ => (pe_tup (pa_cons (pe_ix (ixL K) (pv 12) pe_int (fun _ _ => rfl)) (pa_cons (pe_ix (ixL K) (pv 12) pe_int (fun _ _ => rfl)) pa_nil))))) pa_nil)))
        (pss_cons (ps_if (pt_cm (opEqE K hr.hu) (pv 9) (pe_lst pa_nil))
          (pss_cons (ps_asg pe_bl (pg_sub (pv 6) pe_int set_list (fun _ => rfl)))
          (pss_cons (ps_expr (pe_bm PySem.F.plainAttrs_list PySem.F.slot_list_append PySem.F.type_list_append mt_append (pv 4) (pa_cons (pv 6) pa_nil)))
          (pss_cons (ps_expr (pe_f (ok__law_tell T) (hr.mono (by decide)) (by rfl) T.g__law_tell T.d__law_tell.kp (pa_cons (pv 0) (pa_cons (pv 1) (pa_cons pe_str (pa_cons (pe_tup (pa_cons (pv 2) pa_nil)) pa_nil))))))
          (pss_cons (ps_asg (pe_tup (pa_cons pe_str (pa_cons (pv 2) pa_nil))) (pg_sub (pe_dget hr.hu1 (pv 0) pe_str (fun _ _ => rfl)) (pv 1) set_list (fun _ => rfl)))
          (pss_one (ps_ret pe_bl))))))
          pss_nil)
        (pss_cons (ps_set (i := 10) nd rfl (Or.inl rfl) (pe_ix (ixL K) (pe_lc (own := [("_law_one", 12)]) (g := gName 12) (tt := _) rfl nd (pi_list (pv 7)) (blkOk_by (own := [("_law_one", 12)]) (N := N__law_take) (sc := defScope s__law_take) (by decide +kernel))
        (fun _ _ _ _ _ => (pg_name (i := 12) nd rfl (Or.inl rfl))) (fun _ _ _ _ _ => (pts_one (pt_cm op_eq (pe_ix (ixL K) (pv 12) pe_int (fun _ _ => rfl)) (pe_ix (ixT K) (pe_ix (ixL K) (pv 9) (pe_un un_neg pe_int) (fun _ _ => rfl)) pe_int (fun _ _ => rfl)))))
        (fun _ _ _ _ _ => (pv 12))) pe_int (fun _ _ => rfl)))
        (pss_cons (ps_asg pe_bl (pg_sub (pv 10) pe_int set_list (fun _ => rfl)))
        (pss_cons (ps_set (i := 11) nd rfl (Or.inl rfl) (pe_ix (ixL K) (pv 10) pe_int (fun _ _ => rfl)))
        (pss_cons (ps_expr (pe_f (ok__law_tell T) (hr.mono (by decide)) (by rfl) T.g__law_tell T.d__law_tell.kp (pa_cons (pv 0) (pa_cons (pv 11) (pa_cons pe_str (pa_cons (pe_tup (pa_cons (pv 2) pa_nil)) pa_nil))))))
        (pss_cons (ps_expr (pe_f (ok__law_unplan T) (hr.mono (by decide)) (by rfl) T.g__law_unplan T.d__law_unplan.kp (pa_cons (pv 0) (pa_cons (pv 11) pa_nil))))
        (pss_one (ps_asg (pe_tup (pa_cons pe_str (pa_cons (pv 2) (pa_cons (pe_op op_sub (pe_ix (ixL K) (pe_dget hr.hu1 (pv 0) pe_str (fun _ _ => rfl)) (pv 11) (fun _ _ => rfl)) (pe_dget hr.hu1 (pv 0) pe_str (fun _ _ => rfl))) pa_nil)))) (pg_sub (pe_dget hr.hu1 (pv 0) pe_str (fun _ _ => rfl)) (pv 11) set_list (fun _ => rfl))))))))))))
        pss_nil)
      (pss_cons (ps_expr (pe_bm PySem.F.plainAttrs_list PySem.F.slot_list_append PySem.F.type_list_append mt_append (pv 4) (pa_cons (pv 6) pa_nil)))
      (pss_cons (ps_expr (pe_f (ok__law_tell T) (hr.mono (by decide)) (by rfl) T.g__law_tell T.d__law_tell.kp (pa_cons (pv 0) (pa_cons (pv 1) (pa_cons pe_str (pa_cons (pe_tup (pa_cons (pv 2) pa_nil)) pa_nil))))))
      (pss_one (ps_ret pe_bl))))))))), ?_⟩
  have s9 := s9
  have hzr := B.rq r hr'
  have hpw := B.pw r hr'
  have hpg := hgw r hr'
  have hlg := B.lg
  have hag := B.ag
  have hnn := B.nn
  obtain ⟨o1, o2, er, h1⟩ := P.run
  obtain ⟨b, v1, v2, v3, b0, ys, b1, emv, hs1, hs2, hs3, hs4⟩ := cfg_res P.rp.mod hr'
  refine ⟨_, rfl, _, _, rfl, DG h1 kv_requests, _, rfl, _, _, _, _, rfl, rfl, SqL.of (P.ok.liv _ _ P.rp.rqs), tab_at hr', _, rfl, _, _, rfl, DG h1 kv_model, _, _, _, _, emv, rfl, same_T P.ok.sm hs1, at0, _, rfl, _, _, _, _, rfl, rfl, same_T P.ok.sm hs2, hs3, _, _, rfl, ?_⟩
  refine ⟨_, rfl, _, rfl, _, _, rfl, DG h1 kv_asked, _, rfl, (by show 4 ≤ sizeLine; decide), fun e0 n0 => ?_⟩
  have h1 := same_upd n0 (o := .lst [V.int k, V.int m.asked, V.int p, V.bl true]) _ _ h1
  refine ⟨_, rfl, _, _, rfl, DG h1 kv_asked, _, _, rfl, rfl, _, rfl, _, _, rfl, DP h1 "asked" _, ?_⟩
  obtain ⟨S1, P1, A1, Ae1, C1⟩ := P.newRq er (r := r) (k := k) (pr := p) hr' (same_upd n0) n0 upd_same
  subst Ae1
  have eal : S1.ad (.rq r) = S.ad (.rq r) := A1 _ (by intro z; cases z)
  rw [← eal]
  have hl := P1.line hr'
  refine ⟨_, rfl, _, rfl, ⟨_, SqL.of hl⟩, fun D nD => lc_L (l := m.reqs r) (h := fun q => V.ref (S1.ad (.req r q.gnum))) (fun q => q.holds) (fun q => V.ref (S1.ad (.req r q.gnum))) nD (SqL.of hl) (Nat.le_of_lt (sz3 (by omega))) (fun y hy H2 s2 Y N hY hN => ?_) fun H2 s2 eD => ?_⟩
  · have hq := (P1.same s2).rqO hr' hy
    refine ⟨rfl, _, rfl, _, _, _, _, rfl, rfl, hq, at3, _, rfl, ?_⟩
    exact ifB (fun hb => ⟨_, rfl, hY hb _ (Same.refl _)⟩) fun hb => hN hb _ (Same.refl _)
  have P2 := P1.same s2
  obtain ⟨o1, o2, er, h1⟩ := P2.run
  have hs4' := same_T P2.ok.sm hs4
  have hac : ∀ x ∈ m.reqs r, x.gnum ≠ m.asked := fun x hx => by have := P.rp.gnum r hr' x hx; omega
  refine ⟨_, rfl, _, _, rfl, .inl (SqL.of eD), _, rfl, _, _, _, _, rfl, rfl, hs4', at1, _, _, rfl, rfl, _, rfl, ?_⟩
  have elen : ((List.filter (fun q => q.holds) (m.reqs r)).map fun q => V.ref (S1.ad (.req r q.gnum))).length = held (m.reqs r) := by rw [List.length_map, held_len]
  rw [elen]
  refine ifB (fun hb => ?_) fun hb => ?_
  · have hge : ¬ held (m.reqs r) < c.units r := by have := of_decide_eq_true hb; omega
    refine ⟨_, rfl, _, _, _, _, rfl, rfl, hs4', at0, rfl, _, rfl, ?_⟩
    rw [dstr]
    refine ite_k (fun v H' => ∃ (al : Addr) (vi : List Nat), v = .ref al ∧ Same H2 H' ∧ H' al = some (.lst (vi.map fun x => .int (x : Nat))) ∧ vi = (if c.pre r then m.sleepers c.n else [])) (fun hpre Q' hQ => ?_) (fun hpre Q' hQ => ?_) ?_
    · refine ⟨_, rfl, c, mv, a, _, F, S1, rfl, P2, by omega, fun al H3 s3 e3 => hQ _ _ ⟨al, _, rfl, s3, e3, ?_⟩⟩
      cases hc : c.pre r with
      | true => rw [if_pos rfl]; rfl
      | false => rw [hc] at hpre; exact absurd hpre (by decide)
    · refine ⟨Nat.zero_le _, fun al n3 => hQ _ _ ⟨al, [], rfl, same_upd n3, upd_same, ?_⟩⟩
      cases hc : c.pre r with
      | false => rw [if_neg (by decide)]
      | true => rw [hc] at hpre; exact absurd hpre (by decide)
    rintro v H3 ⟨al, vi, rfl, s3, e3, hvi⟩
    have hvic := vicL_eq (k := k) (B.pc r hr') hvi
    have eD3 := s3 _ _ eD
    refine ⟨_, rfl, _, rfl, ⟨_, SqL.of eD3⟩, fun D3 nD3 => lc_P (l := (m.reqs r).filter fun q => q.holds) (h := fun q => V.ref (S1.ad (.req r q.gnum))) (fun x => decide (k < x.rank) && vi.contains x.proc) (fun x => [.int x.rank, .int x.gnum]) nD3 (SqL.of eD3) (Nat.le_trans (List.length_filter_le ..) (Nat.le_of_lt (sz3 (by omega)))) (fun z hz' H4 s4 Y N hY hN => ?_) fun H4 zs s4 eK ez hzs => ?_⟩
    · have hq := (P2.same (s3.trans s4)).rqO hr' (List.mem_filter.mp hz').1
      refine ⟨rfl, _, rfl, _, _, _, _, rfl, rfl, hq, at0, _, rfl, _, _, rfl, rfl, _, rfl, ?_⟩
      have e : decide ((k : Int) < (z.rank : Int)) = decide (k < z.rank) := decide_eq_decide.mpr (by omega)
      rw [e]
      refine ifB (fun hb => ?_) fun hb => hN (by rw [hb]; rfl) _ (Same.refl _)
      refine ⟨_, rfl, _, _, _, _, rfl, rfl, hq, at2, _, rfl, _, _, rfl, .inl (SqL.of (s4 _ _ e3)), rfl, flat_ints _, _, rfl, ?_⟩
      show if inV (V.int z.proc) (vi.map fun x => V.int (x : Nat)) = true then _ else _
      rw [inV_ints]
      refine ifB (fun hb2 => ?_) fun hb2 => hN (by rw [hb, hb2]; rfl) _ (Same.refl _)
      exact ⟨_, rfl, _, _, _, _, rfl, rfl, hq, at0, _, rfl, _, _, _, _, rfl, rfl, hq, at1, (by show 2 ≤ sizeLine; decide), fun e ne => hY (by rw [hb, hb2]; rfl) _ _ (Same.refl _) ne⟩
    show rSortedPO K [V.ref D3] H4 (fun x H1 => gName 9 x _ H1 _)
    refine sorted_rq (K := K) (g := Rq.gnum) eK hzs fun ks kp np hlen hf hg => ?_
    have s5 := same_upd np (o := .lst ks)
    refine ⟨_, rfl, Nat.zero_le _, fun p2 np2 => ?_⟩
    have s6 := same_upd np2 (o := .lst [])
    have P6 := P2.same (s3.trans (s4.trans (s5.trans s6)))
    have hkl := s6 _ _ (upd_same (H := H4) (a := kp) (o := .lst ks))
    refine ⟨_, _, _, rfl, rfl, SqL.of hkl, SqL.of upd_same, _, rfl, ?_⟩
    have hzl : zs.length = (vicL c m k vi (m.reqs r)).length := by unfold vicL; rw [← ez, List.length_map]
    refine ifB (fun hb5 => ?_) fun hb5 => ?_
    · have e0 : vicL c m k vi (m.reqs r) = [] := by
        have : ks = [] := by simpa using hb5
        rw [this] at hlen
        exact List.length_eq_zero_iff.mp (by rw [← hzl, ← hlen]; rfl)
      rw [take_ask hge (by rw [hvic, e0]; rfl)] at q
      refine ⟨_, rfl, _, _, _, 3, rfl, rfl, P6.ok.liv _ _ C1, rfl, ?_⟩
      obtain ⟨S7, P7, A7, C7⟩ := P6.own (ys := rqL ⟨k, m.counts r, m.asked, p, false⟩) C1 hac
      obtain ⟨ys8, hl8, ly8, S8, P8, X8⟩ := P7.app' hr' (q := ⟨k, m.counts r, m.asked, p, false⟩) C7 (Nat.lt_succ_self _) hk9 (A7 (.rq r)) (A7 (.req r m.asked))
      have ly8 : ys8.length = (m.reqs r).length := ly8
      refine ⟨_, rfl, .inl ⟨rfl, _, SqL.of hl8⟩, _, rfl, _, _, _, rfl, rfl, hl8, sz3 (by omega), ?_⟩
      refine ⟨_, rfl, _, rfl, _, rfl, (by show 1 ≤ sizeLine; decide), fun e9 n9 => ?_⟩
      have P9 := P8.frz n9 (.tup [V.int r])
      have u9 := P8.up n9 (.tup [V.int r])
      refine ⟨c, mv, a, _, _, S8, p, .ask, [r], e9, rfl, P9, .tup (SqT.of upd_same) (.cons (.int _) .nil), by show m.log.length ≤ 4000; omega, (by show 1 ≤ 100; decide), fun F10 S10 H10 s10 X10 P10 => ?_⟩
      refine ⟨_, rfl, (by show 2 ≤ sizeLine; decide), fun e11 n11 => ?_⟩
      have P11 := P10.frz n11 (.tup [V.str "wants", V.int r])
      have u11 := P10.up n11 (.tup [V.str "wants", V.int r])
      obtain ⟨o1, o2, er, h1⟩ := P11.run
      obtain ⟨f, es, ds⟩ := P11.rp.st
      refine ⟨_, rfl, _, _, rfl, DG h1 kv_states, _, rfl, _, _, _, p, rfl, rfl, P11.ok.liv _ _ es, tab_ix hp, ?_⟩
      obtain ⟨S12, P12, X12⟩ := P11.setSt es ds (p := p) (v := .ref e11) (s := .wants r) (.tup (SqT.of upd_same) (.cons (.str _) (.cons (.int _) .nil)))
      exact q _ _ _ (u9.trans (s10.trans u11)) (P12.ghost m.tau (upf m.counts r (m.counts r + 1)))
    · have hne : ks ≠ [] := by intro e; rw [e] at hb5; cases hb5
      have hW : vicL c m k vi (m.reqs r) ≠ [] := fun e => by
        rw [e] at hzl
        exact hne (List.length_eq_zero_iff.mp (by rw [hlen, hzl]; rfl))
      obtain ⟨x, hx⟩ := greatOf_some hW
      have hxv := greatOf_in hx
      have hxh : x ∈ (m.reqs r).filter fun q => q.holds := (List.mem_filter.mp hxv).1
      have hxm : x ∈ m.reqs r := (List.mem_filter.mp hxh).1
      have hxp : x.proc < c.n := B.pc r hr' x hxm
      rw [take_lose hge (by rw [hvic]; exact hx)] at q
      obtain ⟨v, hv⟩ := getL hne
      obtain ⟨z, hzm, rfl, hmax⟩ := hg v hv
      have ez' : zs.map (·.2) = vicL c m k vi (m.reqs r) := ez
      have hzW : z.2 ∈ vicL c m k vi (m.reqs r) := by rw [← ez']; exact List.mem_map_of_mem hzm
      have egn : z.2.gnum = x.gnum := great_gnum ((hpg.filter _).filter _) hx hzW (fun y hy => hmax y (by rw [ez']; exact hy))
      obtain ⟨t, et, ht⟩ := hzs z hzm
      have ht6 := s6 _ _ (s5 _ _ ht)
      have eD6 := s6 _ _ (s5 _ _ (s4 _ _ eD3))
      refine ⟨_, rfl, _, rfl, ⟨_, SqL.of eD6⟩, fun D7 nD7 => lc_L (l := (m.reqs r).filter fun q => q.holds) (h := fun q => V.ref (S1.ad (.req r q.gnum))) (fun q => q.gnum == x.gnum) (fun q => V.ref (S1.ad (.req r q.gnum))) nD7 (SqL.of eD6) (Nat.le_trans (List.length_filter_le ..) (Nat.le_of_lt (sz3 (by omega)))) (fun y hy H7 s7 Y N hY hN => ?_) fun H7 s7 eD7 => ?_⟩
      · have hq := (P6.same s7).rqO hr' (List.mem_filter.mp hy).1
        refine ⟨rfl, _, rfl, _, _, _, _, rfl, rfl, hq, at1, _, rfl, _, rfl, _, _, _, _, rfl, rfl, SqL.of (s7 _ _ hkl), atIl hv, _, _, _, _, et, rfl, SqT.of (s7 _ _ ht6), at1, rfl, _, rfl, ?_⟩
        rw [dint, egn]
        refine ifB (fun hb => ⟨_, rfl, hY ?_ _ (Same.refl _)⟩) fun hb => hN ?_ _ (Same.refl _)
        · simpa using hb
        · simpa using hb
      refine ⟨_, _, _, _, rfl, rfl, SqL.of eD7, atI0 (first_ref hxh rfl), ?_⟩
      have P7 := P6.same s7
      refine ⟨_, rfl, _, _, _, 3, rfl, rfl, P7.ok.liv _ _ (P7.rp.req r hr' x hxm), rfl, ?_⟩
      obtain ⟨S8, P8, A8, C8⟩ := P7.hold hr' hxm (fun y hy ey => uniq_of (f := Rq.num) hpw y hy x hxm ey) (fun y hy ey => uniq_of (f := Rq.gnum) hpg y hy x hxm ey) false
      have hxm8 : ({ x with holds := false } : Rq) ∈ (({ m with asked := m.asked + 1 } : M).setLine r (setHold (m.reqs r) x.num false)).reqs r := by
        show _ ∈ upf _ r _ r
        rw [upf_same]
        exact List.mem_map.mpr ⟨x, hxm, if_pos rfl⟩
      have hq8 := P8.rqO hr' hxm8
      rw [A8] at hq8
      refine ⟨_, rfl, _, _, _, _, rfl, rfl, hq8, at2, ?_⟩
      refine ⟨_, rfl, _, rfl, _, rfl, (by show 1 ≤ sizeLine; decide), fun e9 n9 => ?_⟩
      have P9 := P8.frz n9 (.tup [V.int r])
      have u9 := P8.up n9 (.tup [V.int r])
      refine ⟨c, mv, a, _, _, S8, x.proc, .lose, [r], e9, rfl, P9, .tup (SqT.of upd_same) (.cons (.int _) .nil), by show m.log.length ≤ 4000; omega, (by show 1 ≤ 100; decide), fun F10 S10 H10 s10 X10 P10 => ?_⟩
      refine ⟨_, rfl, _, rfl, c, mv, a, _, F10, S10, x.proc, rfl, P10, by show m.agenda.length ≤ 5000; omega, fun F11 S11 H11 s11 X11 P11 => ?_⟩
      obtain ⟨o1, o2, er, h1⟩ := P11.run
      have hsl : m.clock < m.til x.proc := by
        have h1 := (List.mem_filter.mp hxv).2
        rw [Bool.and_eq_true] at h1
        have h2 := h1.2
        rw [hvi] at h2
        cases hc : c.pre r with
        | false => rw [hc, if_neg (by decide)] at h2; simp at h2
        | true =>
          rw [hc, if_pos rfl, mem_sleepers, Bool.and_eq_true] at h2
          have h3 := h2.2
          unfold M.isSleeper at h3
          rw [Bool.and_eq_true] at h3
          exact of_decide_eq_true h3.2
      refine ⟨_, rfl, _, rfl, _, _, rfl, DG h1 kv_until, _, rfl, _, _, _, _, rfl, rfl, SqL.of (P11.ok.liv _ _ P11.rp.ti), tab_at hxp, _, rfl, _, _, rfl, DG h1 kv_time, _, _, rfl, rfl, (by show 3 ≤ sizeLine; decide), fun e12 n12 => ?_⟩
      have esub : ((m.til x.proc : Nat) : Int) - (m.clock : Nat) = ((m.til x.proc - m.clock : Nat) : Int) := by omega
      have P12 := P11.frz n12 (.tup [V.str "suspended", V.int r, V.int ((m.til x.proc : Nat) - (m.clock : Nat) : Int)])
      have u12 := P11.up n12 (.tup [V.str "suspended", V.int r, V.int ((m.til x.proc : Nat) - (m.clock : Nat) : Int)])
      obtain ⟨o1, o2, er, h1⟩ := P12.run
      obtain ⟨f, es, ds⟩ := P12.rp.st
      refine ⟨_, rfl, _, _, rfl, DG h1 kv_states, _, rfl, _, _, _, x.proc, rfl, rfl, P12.ok.liv _ _ es, tab_ix hxp, ?_⟩
      obtain ⟨S13, P13, X13⟩ := P12.setSt es ds (p := x.proc) (v := .ref e12) (s := .susp r (m.til x.proc - m.clock)) (.tup (SqT.of upd_same) (.cons (.str _) (.cons (.int _) (.cons (by rw [esub]; exact .int _) .nil))))
      have X := X10.trans (X11.trans X13)
      have hadr : ∀ x, x ≠ .ag → S13.ad x = S1.ad x := fun x hx => (X.ad x hx).trans (A8 x)
      have C13 : S13.ct (.req r m.asked) = some (.lst (rqL ⟨k, m.counts r, m.asked, p, true⟩)) := (X.rq r m.asked).trans ((C8 _ (fun z => by injection z with _ z; exact hac x hxm z.symm)).trans C1)
      obtain ⟨ys14, hl14, ly14, S14, P14, X14⟩ := P13.app' hr' (q := ⟨k, m.counts r, m.asked, p, true⟩) C13 (Nat.lt_succ_self _) hk9 (hadr (.rq r) (by intro z; cases z)) (hadr (.req r m.asked) (by intro z; cases z))
      have em : ((((({ m with asked := m.asked + 1 } : M).setLine r (setHold (m.reqs r) x.num false)).tell x.proc .lose [r]).unplan x.proc).setSt x.proc (.susp r (m.til x.proc - m.clock))).reqs r = setHold (m.reqs r) x.num false := upf_same _ _ _
      have ly14 : ys14.length ≤ 5000 := by
        rw [ly14, em]
        unfold setHold; rw [List.length_map]; omega
      refine ⟨_, rfl, .inl ⟨rfl, _, SqL.of hl14⟩, _, rfl, _, _, _, rfl, rfl, hl14, sz3 ly14, ?_⟩
      refine ⟨_, rfl, _, rfl, _, rfl, (by show 1 ≤ sizeLine; decide), fun e15 n15 => ?_⟩
      have P15 := P14.frz n15 (.tup [V.int r])
      have u15 := P14.up n15 (.tup [V.int r])
      refine ⟨c, mv, a, _, _, S14, p, .hold, [r], e15, rfl, P15, .tup (SqT.of upd_same) (.cons (.int _) .nil), by show (m.log ++ [_]).length ≤ 4000; rw [List.length_append]; show m.log.length + 1 ≤ 4000; omega, (by show 1 ≤ 100; decide), fun F16 S16 H16 s16 X16 P16 => ?_⟩
      exact q _ _ _ (u9.trans (s10.trans (s11.trans (u12.trans (u15.trans s16))))) (P16.ghost m.tau (upf m.counts r (m.counts r + 1)))
  · have hlt : held (m.reqs r) < c.units r := by have := of_decide_eq_false hb; omega
    rw [take_hold hlt] at q
    obtain ⟨ys3, hl3, ly3, S3, P3, X3⟩ := P2.app' hr' (q := ⟨k, m.counts r, m.asked, p, true⟩) C1 (Nat.lt_succ_self _) hk9 rfl rfl
    have ly3 : ys3.length = (m.reqs r).length := ly3
    refine ⟨_, rfl, .inl ⟨rfl, _, SqL.of hl3⟩, _, rfl, _, _, _, rfl, rfl, hl3, sz3 (by omega), ?_⟩
    refine ⟨_, rfl, _, rfl, _, rfl, (by show 1 ≤ sizeLine; decide), fun e4 n4 => ?_⟩
    have P4 := P3.frz n4 (.tup [V.int r])
    have u4 := P3.up n4 (.tup [V.int r])
    refine ⟨c, mv, a, _, _, S3, p, .hold, [r], e4, rfl, P4, .tup (SqT.of upd_same) (.cons (.int _) .nil), by show m.log.length ≤ 4000; omega, (by show 1 ≤ 100; decide), fun F5 S5 H5 s5 X5 P5 => ?_⟩
    exact q _ _ _ (u4.trans s5) (P5.ghost m.tau (upf m.counts r (m.counts r + 1)))
end Ev
namespace Ev
open PySem PySem.Spec PyProof.Rows L2
variable {w : World} {K : PySem.W.Frag} {mg : Str → Option Value} {base : Heap} {A : Adr}

structure HeadL (c : Cfg) (m : M) (p : Nat) : Prop where
  hd : HeadOk c m p
  tk : ∀ r k rs, m.rests p = .take r k :: rs → k ≤ 9
  fe : ∀ b rs, m.rests p = .fev b :: rs → rs = []
theorem Good.headL {c : Cfg} {p : Nat} {m : M} (g : Good c (some p) m) : HeadL c m p := by
  have hrest := g.gb.rst p (g.ga.act p rfl).1
  refine ⟨g.head, fun r k rs e => ?_, fun b rs e => ?_⟩
  · rw [e] at hrest
    obtain ⟨hi, _⟩ := hrest.tail (by intro b e; cases e)
    have : (decide (r < c.nr) && decide (k ≤ 9)) = true := hi
    exact of_decide_eq_true ((Bool.and_eq_true _ _).mp this).2
  · rw [e] at hrest; exact hrest.fev_nil.1
theorem sl_one {v : V} : HT.sIx [v].length 0 none = 0 ∧ HT.sIx [v].length [v].length (some 1) = [v].length := ⟨rfl, HT.sIx_nat 1 1 1⟩
theorem setRest_setRest (m : M) (p : Nat) (l l' : List Ins) : (m.setRest p l).setRest p l' = m.setRest p l' := by unfold M.setRest; dsimp only; rw [upf_upf]
def sp__law_proceed (K : PySem.W.Frag) (A : Adr) : Sp0 := fun vs H Q => ∃ (c : Cfg) (mv : V) (a : Addr) (m : M) (F : Hp) (S : Sto) (p : Nat), vs = [.ref a, .int p] ∧ LAt K c mv a m F S H ∧ PreL c m ∧ p < c.n ∧ HeadL c m p ∧
  ∀ F' S' H', Same F F' → LAt K c mv a (m.proceed c p).1 F' S' H' → Q (.bl (m.proceed c p).2) H'
theorem ok__law_proceed (T : Txt K mg w A) : Fn PP w K mg base 6 A._law_proceed (sp__law_proceed K A) := by
  refine T.d__law_proceed.go sc__law_proceed fun cdv Ar outer s H vs Q hr h => ?_
  have nd := sc__law_proceed.nd
  obtain ⟨c, mv, a, m, F, S, p, rfl, P, ⟨B, hgw⟩, hp, ⟨⟨hrl, hsh, hh⟩, htk, hfe⟩, q⟩ := h
  refine ⟨_, (pss_cons (ps_set (i := 2) nd rfl (Or.inl rfl) (pe_ix (ixL K) (pe_dget hr.hu1 (pv 0) pe_str (fun _ _ => rfl)) (pv 1) (fun _ _ => rfl)))
      (pss_cons (ps_if (pt_cm (opEqD K hr.hu) (pv 2) (pe_tup pa_nil))
        (pss_cons (ps_expr (pe_f (ok__law_tell T) (hr.mono (by decide)) (by rfl) T.g__law_tell T.d__law_tell.kp (pa_cons (pv 0) (pa_cons (pv 1) (pa_cons pe_str (pa_cons (pe_tup pa_nil) pa_nil))))))
        (pss_cons (ps_asg (pe_tup (pa_cons pe_str pa_nil)) (pg_sub (pe_dget hr.hu1 (pv 0) pe_str (fun _ _ => rfl)) (pv 1) set_list (fun _ => rfl)))
        (pss_one (ps_ret pe_bl))))
        pss_nil)
      (pss_cons (ps_par (i := 3) (j := 4) rfl nd rfl rfl (by decide) rfl rfl (pa_cons (pe_ix (ixT K) (pe_ix (ixT K) (pv 2) pe_int (fun _ _ => rfl)) pe_int (fun _ _ => rfl)) (pa_cons (pe_slice (slA K) (pe_ix (ixT K) (pv 2) pe_int (fun _ _ => rfl)) (po_some pe_int) po_none) pa_nil)) rfl)
      (pss_cons (ps_asg (pe_slice (slA K) (pv 2) (po_some pe_int) po_none) (pg_sub (pe_dget hr.hu1 (pv 0) pe_str (fun _ _ => rfl)) (pv 1) set_list (fun _ => rfl)))
      (pss_cons (ps_if (PW.pt (pw_and (pt_cm op_eq (pv 3) pe_str) (pw_and1 (pt_cm op_gt (pe_ix (ixT K) (pv 4) pe_int (fun _ _ => rfl)) pe_int))))
        (pss_cons (ps_expr (pe_f (ok__law_tell T) (hr.mono (by decide)) (by rfl) T.g__law_tell T.d__law_tell.kp (pa_cons (pv 0) (pa_cons (pv 1) (pa_cons pe_str (pa_cons (pv 4) pa_nil))))))
        (pss_cons (ps_expr (pe_f (ok__law_fall_asleep T) (hr.mono (by decide)) (by rfl) T.g__law_fall_asleep T.d__law_fall_asleep.kp (pa_cons (pv 0) (pa_cons (pv 1) (pa_cons (pe_ix (ixT K) (pv 4) pe_int (fun _ _ => rfl)) pa_nil)))))
        (pss_one (ps_ret pe_bl))))
        pss_nil)
      (pss_cons (ps_if (pt_cm op_eq (pv 3) pe_str)
        (pss_one (ps_ret (pe_f (ok__law_take T) (hr.mono (by decide)) (by rfl) T.g__law_take T.d__law_take.kp (pa_cons (pv 0) (pa_cons (pv 1) (pa_cons (pe_ix (ixT K) (pv 4) pe_int (fun _ _ => rfl)) (pa_cons (pe_ix (ixT K) (pv 4) pe_int (fun _ _ => rfl)) pa_nil)))))))
        pss_nil)
      (pss_cons (ps_if (pt_cm op_eq (pv 3) pe_str)
        (pss_one (ps_ret (pe_f (ok__law_give T) (hr.mono (by decide)) (by rfl) T.g__law_give T.d__law_give.kp (pa_cons (pv 0) (pa_cons (pv 1) (pa_cons (pe_ix (ixT K) (pv 4) pe_int (fun _ _ => rfl)) pa_nil))))))
        pss_nil)
      (pss_cons (ps_if (pt_cm op_eq (pv 3) pe_str)
        (pss_one (ps_ret pe_never))
        pss_nil)
      (pss_cons (ps_if (pt_cm (opIn K) (pv 3) (pe_tup (pa_cons pe_str (pa_cons pe_str pa_nil))))
        (pss_one (ps_ret pe_never))
        pss_nil)
      (pss_cons (ps_if (pt_cm op_eq (pv 3) pe_str)
        (pss_one (ps_ret (pe_f (ok__law_rouse T) (hr.mono (by decide)) (by rfl) T.g__law_rouse T.d__law_rouse.kp (pa_cons (pv 0) (pa_cons (pv 1) (pa_cons (pe_ix (ixT K) (pv 4) pe_int (fun _ _ => rfl)) pa_nil))))))
        pss_nil)
      (pss_cons (ps_if (pt_cm op_eq (pv 3) pe_str)
        (pss_one (ps_expr (pe_f (ok__law_tell T) (hr.mono (by decide)) (by rfl) T.g__law_tell T.d__law_tell.kp (pa_cons (pv 0) (pa_cons (pv 1) (pa_cons pe_str (pa_cons (pv 4) pa_nil)))))))
        pss_nil)
      (pss_cons (ps_if (PW.pt (pw_and (pt_cm op_eq (pv 3) pe_str) (pw_and1 (pt_cm op_gt (pe_ix (ixT K) (pv 4) pe_int (fun _ _ => rfl)) pe_int))))
        (pss_cons (ps_set (i := 5) nd rfl (Or.inl rfl) (pe_ifExp (pt_cm op_gt (pe_ix (ixT K) (pv 4) pe_int (fun _ _ => rfl)) pe_int) (pe_tup (pa_cons (pe_tup (pa_cons pe_str (pa_cons (pe_op op_sub (pe_ix (ixT K) (pv 4) pe_int (fun _ _ => rfl)) pe_int) (pa_cons (pe_ix (ixT K) (pv 4) pe_int (fun _ _ => rfl)) pa_nil)))) pa_nil)) (pe_tup pa_nil)))
        (pss_one (ps_asg (pe_op (catA K) (pe_op (catA K) (pe_ix (ixT K) (pv 4) pe_int (fun _ _ => rfl)) (pv 5)) (pe_slice (slA K) (pv 2) (po_some pe_int) po_none)) (pg_sub (pe_dget hr.hu1 (pv 0) pe_str (fun _ _ => rfl)) (pv 1) set_list (fun _ => rfl)))))
        pss_nil)
      (pss_cons (ps_if (pt_cm op_eq (pv 3) pe_str)
        (pss_one (ps_asg (pe_op (catA K) (pe_ix (ixT K) (pv 4) pe_int (fun _ _ => rfl)) (pe_slice (slA K) (pv 2) po_none (po_some pe_int))) (pg_sub (pe_dget hr.hu1 (pv 0) pe_str (fun _ _ => rfl)) (pv 1) set_list (fun _ => rfl))))
        pss_nil)
      (pss_one (ps_ret pe_bl))))))))))))))), ?_⟩
  have hlg := B.lg
  have hag := B.ag
  have big3 := big3
  obtain ⟨o1, o2, er, h1⟩ := P.run
  obtain ⟨f, es, ds⟩ := P.rp.re
  have dr := ds p hp
  obtain ⟨rb, rx, efr, hrs, hrx⟩ := dp_tupI dr
  refine ⟨_, rfl, _, _, rfl, DG h1 kv_rests, _, rfl, _, _, _, _, rfl, rfl, SqL.of (P.ok.liv _ _ es), tab_at hp, ?_⟩
  refine ⟨_, rfl, Nat.zero_le _, fun e0 n0 => ?_⟩
  have s0 := same_upd n0 (o := .tup [])
  refine ⟨restD (m.rests p), .tuple [], dp_same (P.ok.sm.trans s0) dr, .tup (SqT.of upd_same) .nil, hsh, nil_shaped, _, rfl, ?_⟩
  have P := P.same s0
  have h1 := s0 _ _ h1
  unfold restD
  rw [eqv_nil]
  cases hre : m.rests p with
  | nil =>
    have e : m.proceed c p = ((m.tell p .fin []).setSt p .fin, false) := by unfold M.proceed; rw [hre]
    rw [e] at q
    refine ifB' (by simp [insDs]) ?_
    refine ⟨_, rfl, _, rfl, Nat.zero_le _, fun e1 n1 => ?_⟩
    have P1 := P.frz n1 (.tup [])
    have u1 := P.up n1 (.tup [])
    refine ⟨c, mv, a, m, _, S, p, .fin, [], e1, rfl, P1, .tup (SqT.of upd_same) .nil, by omega, Nat.zero_le _, fun F2 S2 H2 s2 X2 P2 => ?_⟩
    refine ⟨(by show 1 ≤ sizeLine; decide), fun e3 n3 => ?_⟩
    have P3 := P2.frz n3 (.tup [V.str "finished"])
    have u3 := P2.up n3 (.tup [V.str "finished"])
    obtain ⟨o1, o2, er, h1⟩ := P3.run
    obtain ⟨g, es1, ds1⟩ := P3.rp.st
    refine ⟨_, rfl, _, _, rfl, DG h1 kv_states, _, rfl, _, _, _, p, rfl, rfl, P3.ok.liv _ _ es1, tab_ix hp, ?_⟩
    obtain ⟨S4, P4, X4⟩ := P3.setSt es1 ds1 (p := p) (v := .ref e3) (s := .fin) (.tup (SqT.of upd_same) (.cons (.str _) .nil))
    exact q _ _ _ (u1.trans (s2.trans u3)) P4
  | cons i rs =>
    refine ifN' (by simp [insDs]) ?_
    rw [hre] at hrx hrl hh
    simp only [insDs] at hrx
    obtain ⟨vi, vr, rfl, di, dvr⟩ := dpa_consI hrx
    have hvr : vr.length = rs.length := by rw [dpa_length dvr, insDs_len]
    obtain ⟨b, wd, nx, dn, rfl, hbs, eid, hdn⟩ := insI di
    have hrs1 := same_T P.ok.sm hrs
    have hbs1 := same_T P.ok.sm hbs
    refine ⟨_, rfl, _, _, _, _, efr, rfl, hrs1, at0, _, _, _, _, rfl, rfl, hbs1, at0, _, rfl, _, _, _, _, efr, rfl, hrs1, at0, _, rfl, b, _, rfl, hbs1, fun z => absurd z (cut1_not _ _), fun _ em nm => ?_⟩
    rw [cut1]
    have Pm := P.frz nm (.tup nx)
    have um := P.up nm (.tup nx)
    refine ⟨_, _, rfl, ?_⟩
    refine ⟨_, rfl, _, rfl, rb, _, efr, same_T Pm.ok.sm (same_T um hrs), fun z => absurd z (cut1_not _ _), fun _ e1 n1 => ?_⟩
    rw [cut1]
    have P1 := Pm.frz n1 (.tup vr)
    have u1 := um.trans (Pm.up n1 (.tup vr))
    have hm1 : SqT K (upd (upd F em (.tup nx)) e1 (.tup vr)) em nx := same_T (Pm.up n1 (.tup vr)) (SqT.of upd_same)
    have hdn1 := dpa_same u1 hdn
    obtain ⟨o1, o2, er, h1⟩ := P1.run
    refine ⟨_, rfl, _, _, rfl, DG h1 kv_rests, _, rfl, _, _, _, p, rfl, rfl, P1.ok.liv _ _ es, tab_ix hp, ?_⟩
    obtain ⟨S2, P, X2⟩ := P1.setRe es (fun q hq => dp_same u1 (ds q hq)) (p := p) (v := .ref e1) (l := rs) (.tup (SqT.of upd_same) (dpa_same u1 dvr))
    have hrs2 := same_T u1 hrs
    have di2 := dp_same u1 di
    have B3 := B.rest p rs
    have B3L : PreL c (m.setRest p rs) := ⟨B3, hgw⟩
    cases i with
    | wait d =>
      simp only [insD] at eid
      injection eid with eid; injection eid with ew ed; injection ew with ew
      subst ew; subst ed
      obtain ⟨v1, r1, rfl, d1, hdn2⟩ := dpa_consI hdn
      obtain rfl := dpa_nilI hdn2
      obtain rfl := dp_intI d1
      refine ⟨_, rfl, rfl, _, rfl, ?_⟩
      refine ifB' (by rw [dstr]; decide) ?_
      refine ⟨_, rfl, _, _, _, _, rfl, rfl, same_T P.ok.sm hm1, at0, _, _, rfl, rfl, _, rfl, ?_⟩
      refine ifB (fun hd => ?_) fun hd => ?_
      · obtain ⟨k, rfl⟩ : ∃ k, d = k + 1 := ⟨d - 1, by have := of_decide_eq_true hd; omega⟩
        have e : m.proceed c p = (((m.setRest p rs).tell p .sleep [k + 1]).fallAsleep p (k + 1), false) := by unfold M.proceed; rw [hre]
        rw [e] at q
        refine ⟨_, rfl, _, rfl, _, rfl, c, mv, a, _, _, S2, p, .sleep, [k + 1], em, rfl, P, .tup hm1 hdn1, by show m.log.length ≤ 4000; omega, (by show 1 ≤ 100; decide), fun F5 S5 H5 s5 X5 P5 => ?_⟩
        refine ⟨_, rfl, _, rfl, _, rfl, _, _, _, _, rfl, rfl, same_T P5.ok.sm (same_T s5 hm1), at0, c, mv, a, _, F5, S5, p, k + 1, rfl, P5, hp, by show m.agenda.length ≤ 4000; omega, fun F6 S6 H6 s6 X6 P6 => ?_⟩
        exact q _ _ _ (u1.trans (s5.trans s6)) P6
      · have h0 : d = 0 := by have := of_decide_eq_false hd; omega
        subst h0
        have e : m.proceed c p = (m.setRest p rs, true) := by unfold M.proceed; rw [hre]
        rw [e] at q
        refine ⟨_, rfl, rfl, _, rfl, ?_⟩
        refine ifN' (by rw [dstr]; decide) ?_
        refine ⟨_, rfl, rfl, _, rfl, ?_⟩
        refine ifN' (by rw [dstr]; decide) ?_
        refine ⟨_, rfl, rfl, _, rfl, ?_⟩
        refine ifN' (by rw [dstr]; decide) ?_
        refine ⟨_, rfl, (by show 2 ≤ sizeLine; decide), fun e5 n5 => ?_⟩
        have P := P.same (same_upd n5 (o := .tup [V.str "open", V.str "shut"]))
        refine ⟨_, _, rfl, .inr (SqT.of upd_same), rfl, rfl, _, rfl, ?_⟩
        refine ifN' (by decide) ?_
        refine ⟨_, rfl, rfl, _, rfl, ?_⟩
        refine ifN' (by rw [dstr]; decide) ?_
        refine ⟨_, rfl, rfl, _, rfl, ?_⟩
        refine ifN' (by rw [dstr]; decide) ?_
        refine ⟨_, rfl, rfl, _, rfl, ?_⟩
        refine ifN' (by rw [dstr]; decide) ?_
        refine ifN' rfl ?_
        refine ⟨_, rfl, rfl, _, rfl, ?_⟩
        refine ifN' (by rw [dstr]; decide) ?_
        exact q _ _ _ u1 P
    | take r k =>
      simp only [insD] at eid
      injection eid with eid; injection eid with ew ed; injection ew with ew
      subst ew; subst ed
      obtain ⟨v1, r1, rfl, d1, hdn2⟩ := dpa_consI hdn
      obtain ⟨v2, r2, rfl, d2, hdn3⟩ := dpa_consI hdn2
      obtain rfl := dpa_nilI hdn3
      obtain rfl := dp_intI d1
      obtain rfl := dp_intI d2
      have e : m.proceed c p = (m.setRest p rs).take c p r k := by unfold M.proceed; rw [hre]
      rw [e] at q
      refine ⟨_, rfl, rfl, _, rfl, ?_⟩
      refine ifN' (by rw [dstr]; decide) ?_
      refine ifN' rfl ?_
      refine ⟨_, rfl, rfl, _, rfl, ?_⟩
      refine ifB' (by rw [dstr]; decide) ?_
      refine ⟨_, rfl, _, rfl, _, rfl, _, _, _, _, rfl, rfl, same_T P.ok.sm hm1, at0, _, rfl, _, _, _, _, rfl, rfl, same_T P.ok.sm hm1, at1, c, mv, a, _, _, S2, p, r, k, rfl, P, B3L, hp, hh, htk r k rs hre, fun F5 S5 H5 s5 P5 => ?_⟩
      exact q _ _ _ (u1.trans s5) P5
    | give r =>
      simp only [insD] at eid
      injection eid with eid; injection eid with ew ed; injection ew with ew
      subst ew; subst ed
      obtain ⟨v1, r1, rfl, d1, hdn2⟩ := dpa_consI hdn
      obtain rfl := dpa_nilI hdn2
      obtain rfl := dp_intI d1
      obtain ⟨hr1, own, ho⟩ := hh
      have e : m.proceed c p = ((m.setRest p rs).give p r, true) := by unfold M.proceed; rw [hre]
      rw [e] at q
      refine ⟨_, rfl, rfl, _, rfl, ?_⟩
      refine ifN' (by rw [dstr]; decide) ?_
      refine ifN' rfl ?_
      refine ⟨_, rfl, rfl, _, rfl, ?_⟩
      refine ifN' (by rw [dstr]; decide) ?_
      refine ⟨_, rfl, rfl, _, rfl, ?_⟩
      refine ifB' (by rw [dstr]; decide) ?_
      refine ⟨_, rfl, _, rfl, _, rfl, _, _, _, _, rfl, rfl, same_T P.ok.sm hm1, at0, c, mv, a, _, _, S2, p, r, own, rfl, P, B3L, hp, hr1, ho, fun F5 S5 H5 s5 P5 => ?_⟩
      exact q _ _ _ (u1.trans s5) P5
    | rouse x =>
      simp only [insD] at eid
      injection eid with eid; injection eid with ew ed; injection ew with ew
      subst ew; subst ed
      obtain ⟨v1, r1, rfl, d1, hdn2⟩ := dpa_consI hdn
      obtain rfl := dpa_nilI hdn2
      obtain rfl := dp_intI d1
      have e : m.proceed c p = ((m.setRest p rs).rouse p x, true) := by unfold M.proceed; rw [hre]
      rw [e] at q
      refine ⟨_, rfl, rfl, _, rfl, ?_⟩
      refine ifN' (by rw [dstr]; decide) ?_
      refine ifN' rfl ?_
      refine ⟨_, rfl, rfl, _, rfl, ?_⟩
      refine ifN' (by rw [dstr]; decide) ?_
      refine ⟨_, rfl, rfl, _, rfl, ?_⟩
      refine ifN' (by rw [dstr]; decide) ?_
      refine ⟨_, rfl, rfl, _, rfl, ?_⟩
      refine ifN' (by rw [dstr]; decide) ?_
      refine ⟨_, rfl, (by show 2 ≤ sizeLine; decide), fun e5 n5 => ?_⟩
      have P := P.same (same_upd n5 (o := .tup [V.str "open", V.str "shut"]))
      refine ⟨_, _, rfl, .inr (SqT.of upd_same), rfl, rfl, _, rfl, ?_⟩
      refine ifN' (by decide) ?_
      refine ⟨_, rfl, rfl, _, rfl, ?_⟩
      refine ifB' (by rw [dstr]; decide) ?_
      refine ⟨_, rfl, _, rfl, _, rfl, _, _, _, _, rfl, rfl, same_T P.ok.sm hm1, at0, c, mv, a, _, _, S2, p, x, rfl, P, B3, hp, hh, fun F5 S5 H5 s5 X5 P5 => ?_⟩
      exact q _ _ _ (u1.trans s5) P5
    | rep n bd =>
      simp only [insD] at eid
      injection eid with eid; injection eid with ew ed; injection ew with ew
      subst ew; subst ed
      obtain ⟨v1, r1, rfl, d1, hdn2⟩ := dpa_consI hdn
      obtain ⟨v2, r2, rfl, d2, hdn3⟩ := dpa_consI hdn2
      obtain rfl := dpa_nilI hdn3
      obtain rfl := dp_intI d1
      obtain ⟨ab, bx, rfl, hab, hbx⟩ := dp_tupI d2
      have hbl : bx.length = bd.length := by rw [dpa_length hbx, insDs_len]
      have hh : bd.length ≤ 3900 := hh
      have hrl : rs.length + 1 ≤ 3900 := hrl
      refine ⟨_, rfl, rfl, _, rfl, ?_⟩
      refine ifN' (by rw [dstr]; decide) ?_
      refine ifN' rfl ?_
      refine ⟨_, rfl, rfl, _, rfl, ?_⟩
      refine ifN' (by rw [dstr]; decide) ?_
      refine ⟨_, rfl, rfl, _, rfl, ?_⟩
      refine ifN' (by rw [dstr]; decide) ?_
      refine ⟨_, rfl, rfl, _, rfl, ?_⟩
      refine ifN' (by rw [dstr]; decide) ?_
      refine ⟨_, rfl, (by show 2 ≤ sizeLine; decide), fun e5 n5 => ?_⟩
      have P := P.same (same_upd n5 (o := .tup [V.str "open", V.str "shut"]))
      refine ⟨_, _, rfl, .inr (SqT.of upd_same), rfl, rfl, _, rfl, ?_⟩
      refine ifN' (by decide) ?_
      refine ⟨_, rfl, rfl, _, rfl, ?_⟩
      refine ifN' (by rw [dstr]; decide) ?_
      refine ⟨_, rfl, rfl, _, rfl, ?_⟩
      refine ifN' (by rw [dstr]; decide) ?_
      refine ⟨_, rfl, rfl, _, rfl, ?_⟩
      refine ifB' (by rw [dstr]; decide) ?_
      refine ⟨_, rfl, _, _, _, _, rfl, rfl, same_T P.ok.sm hm1, at0, _, _, rfl, rfl, _, rfl, ?_⟩
      refine ifB (fun hd => ?_) fun hd => ?_
      · obtain ⟨k, rfl⟩ : ∃ k, n = k + 1 := ⟨n - 1, by have := of_decide_eq_true hd; omega⟩
        have e : m.proceed c p = (m.setRest p (bd ++ (if k = 0 then [] else [.rep k bd]) ++ rs), true) := by unfold M.proceed; rw [hre]
        rw [e] at q
        refine ⟨_, rfl, _, _, _, _, rfl, rfl, same_T P.ok.sm hm1, at0, _, _, rfl, rfl, _, rfl, ?_⟩
        refine ite_k (fun v H' => ∃ (F' : Hp) (al : Addr) (xs : List V), v = .ref al ∧ LAt K c mv a (m.setRest p rs) F' S2 H' ∧ Same (upd (upd F em (.tup [V.int ((k + 1 : Nat) : Int), V.ref ab])) e1 (.tup vr)) F' ∧ SqT K F' al xs ∧ DpAll K F' xs (insDs (if k = 0 then [] else [.rep k bd])) ∧ xs.length ≤ 1) (fun hk Q' hQ => ?_) (fun hk Q' hQ => ?_) ?_
        · have hk0 : k ≠ 0 := by have := of_decide_eq_true hk; omega
          refine ⟨_, rfl, _, _, _, _, rfl, rfl, same_T P.ok.sm hm1, at0, _, _, rfl, rfl, _, rfl, _, _, _, _, rfl, rfl, same_T P.ok.sm hm1, at1, (by show 3 ≤ sizeLine; omega), fun e6 n6 => ⟨(by show 1 ≤ sizeLine; omega), fun e7 n7 => ?_⟩⟩
          have P6 := P.frz n6 (.tup [V.str "repeat", V.int (((k + 1 : Nat) : Int) - 1), V.ref ab])
          have u6 := P.up n6 (.tup [V.str "repeat", V.int (((k + 1 : Nat) : Int) - 1), V.ref ab])
          have P7 := P6.frz n7 (.tup [V.ref e6])
          have u7 := P6.up n7 (.tup [V.ref e6])
          have ek : ((k + 1 : Nat) : Int) - 1 = (k : Nat) := by omega
          refine hQ _ _ ⟨_, e7, _, rfl, P7, u6.trans u7, SqT.of upd_same, ?_, Nat.le_refl _⟩
          rw [if_neg hk0]
          simp only [insDs, insD]
          exact .cons (.tup (same_T u7 (SqT.of upd_same)) (.cons (.str _) (.cons (by rw [ek]; exact .int _) (.cons (dp_same (u1.trans (u6.trans u7)) d2) .nil)))) .nil
        · have hk0 : k = 0 := by have := of_decide_eq_false hk; omega
          refine ⟨Nat.zero_le _, fun e7 n7 => ?_⟩
          refine hQ _ _ ⟨_, e7, [], rfl, P.frz n7 (.tup []), P.up n7 _, SqT.of upd_same, ?_, Nat.zero_le _⟩
          rw [if_pos hk0]
          exact .nil
        rintro v H7 ⟨F7, al, xs, rfl, P7, u7, hal, hxs, hxl⟩
        refine ⟨_, rfl, _, _, _, _, rfl, rfl, same_T P7.ok.sm (same_T u7 hm1), at1, _, rfl, ?_⟩
        have v7 := u1.trans u7
        refine P7.cat (same_T v7 hab) hal (dpa_same v7 hbx) hxs (by omega) fun v8 F8 H8 s8 P8 t8 dd8 => ?_
        have v8' := v7.trans s8
        refine ⟨_, rfl, _, rfl, rb, _, efr, same_T P8.ok.sm (same_T v8' hrs), fun z => absurd z (cut1_not _ _), fun _ e9 n9 => ?_⟩
        rw [cut1]
        have P9 := P8.frz n9 (.tup vr)
        have u9 := P8.up n9 (.tup vr)
        obtain ⟨_, us, e, hus, hdu⟩ := dp_tupI dd8
        cases e
        have hul : us.length ≤ 3901 := by
          rw [dpa_length hdu, List.length_append, insDs_len, insDs_len]
          split
          · show _ + 0 ≤ _; omega
          · show _ + 1 ≤ _; omega
        refine P9.cat (same_T u9 hus) (SqT.of upd_same) (dpa_same u9 hdu) (dpa_same (v8'.trans u9) dvr) (by omega) fun v10 F10 H10 s10 P10 t10 d10 => ?_
        obtain ⟨o1, o2, er, h1⟩ := P10.run
        obtain ⟨g, es10, ds10⟩ := P10.rp.re
        refine ⟨_, rfl, _, _, rfl, DG h1 kv_rests, _, rfl, _, _, _, p, rfl, rfl, P10.ok.liv _ _ es10, tab_ix hp, ?_⟩
        obtain ⟨S11, P11, X11⟩ := P10.setRe es10 ds10 (p := p) (v := .ref v10) (l := bd ++ (if k = 0 then [] else [.rep k bd]) ++ rs) (by
          unfold restD
          rw [insDs_append, insDs_append]
          exact d10)
        rw [setRest_setRest] at P11
        refine ⟨_, rfl, rfl, _, rfl, ?_⟩
        refine ifN' (by rw [dstr]; decide) ?_
        exact q _ _ _ (v8'.trans (u9.trans s10)) P11
      · have h0 : n = 0 := by have := of_decide_eq_false hd; omega
        subst h0
        have e : m.proceed c p = (m.setRest p rs, true) := by unfold M.proceed; rw [hre]
        rw [e] at q
        refine ⟨_, rfl, rfl, _, rfl, ?_⟩
        refine ifN' (by rw [dstr]; decide) ?_
        exact q _ _ _ u1 P
    | fev bd =>
      simp only [insD] at eid
      injection eid with eid; injection eid with ew ed; injection ew with ew
      subst ew; subst ed
      obtain ⟨v1, r1, rfl, d1, hdn2⟩ := dpa_consI hdn
      obtain rfl := dpa_nilI hdn2
      obtain ⟨ab, bx, rfl, hab, hbx⟩ := dp_tupI d1
      have hbl : bx.length = bd.length := by rw [dpa_length hbx, insDs_len]
      have hh : bd.length ≤ 3900 := hh
      obtain rfl := hfe bd rs hre
      obtain rfl : vr = [] := List.length_eq_zero_iff.mp hvr
      have e : m.proceed c p = ({ m.setRest p (bd ++ [.fev bd]) with npass := m.npass + 1 }, true) := by unfold M.proceed; rw [hre]
      rw [e] at q
      refine ⟨_, rfl, rfl, _, rfl, ?_⟩
      refine ifN' (by rw [dstr]; decide) ?_
      refine ifN' rfl ?_
      refine ⟨_, rfl, rfl, _, rfl, ?_⟩
      refine ifN' (by rw [dstr]; decide) ?_
      refine ⟨_, rfl, rfl, _, rfl, ?_⟩
      refine ifN' (by rw [dstr]; decide) ?_
      refine ⟨_, rfl, rfl, _, rfl, ?_⟩
      refine ifN' (by rw [dstr]; decide) ?_
      refine ⟨_, rfl, (by show 2 ≤ sizeLine; decide), fun e5 n5 => ?_⟩
      have P := P.same (same_upd n5 (o := .tup [V.str "open", V.str "shut"]))
      refine ⟨_, _, rfl, .inr (SqT.of upd_same), rfl, rfl, _, rfl, ?_⟩
      refine ifN' (by decide) ?_
      refine ⟨_, rfl, rfl, _, rfl, ?_⟩
      refine ifN' (by rw [dstr]; decide) ?_
      refine ⟨_, rfl, rfl, _, rfl, ?_⟩
      refine ifN' (by rw [dstr]; decide) ?_
      refine ⟨_, rfl, rfl, _, rfl, ?_⟩
      refine ifN' (by rw [dstr]; decide) ?_
      refine ifN' rfl ?_
      refine ⟨_, rfl, rfl, _, rfl, ?_⟩
      refine ifB' (by rw [dstr]; decide) ?_
      refine ⟨_, rfl, _, _, _, _, rfl, rfl, same_T P.ok.sm hm1, at0, _, rfl, _, rfl, rb, _, efr, same_T P.ok.sm hrs2, fun _ => ?_, fun z => absurd sl_one z⟩
      refine P.cat (same_T u1 hab) hrs2 (dpa_same u1 hbx) (.cons di2 .nil) (by show bx.length + 1 ≤ 10000; omega) fun v10 F10 H10 s10 P10 t10 d10 => ?_
      obtain ⟨o1, o2, er, h1⟩ := P10.run
      obtain ⟨g, es10, ds10⟩ := P10.rp.re
      refine ⟨_, rfl, _, _, rfl, DG h1 kv_rests, _, rfl, _, _, _, p, rfl, rfl, P10.ok.liv _ _ es10, tab_ix hp, ?_⟩
      obtain ⟨S11, P11, X11⟩ := P10.setRe es10 ds10 (p := p) (v := .ref v10) (l := bd ++ [.fev bd]) (by
        unfold restD
        rw [insDs_append]
        simp only [insDs]
        exact d10)
      rw [setRest_setRest] at P11
      exact q _ _ _ (u1.trans s10) (P11.ghostP (m.npass + 1))
end Ev
namespace Ev
open PySem PySem.Spec PyProof.Rows L2
variable {w : World} {K : PySem.W.Frag} {mg : Str → Option Value} {base : Heap} {A : Adr}

def stoL (x : Addr) : Sto := ⟨fun _ => x, fun r => if r = .run then some (.dK []) else none⟩
/-- the law's run under way: its dict is told by its entries so far -/
structure Bk (F : Hp) (S : Sto) (H : Hp) (x : Addr) (kvs : List (Key × V)) : Prop where
  ok : SOk F S H
  ct : S.ct .run = some (.dK kvs)
  ad : S.ad .run = x
section
variable {F H : Hp} {S : Sto} {x : Addr} {kvs : List (Key × V)}
theorem Bk.hx (b : Bk F S H x kvs) : H x = some (.dK kvs) := b.ad ▸ b.ok.liv _ _ b.ct
theorem Bk.fld (b : Bk F S H x kvs) (f : Str) (v : V) : Bk F (S.put .run (.dK (putK kvs (.inr f) v))) (upd H x (.dK (putK kvs (.inr f) v))) x (putK kvs (.inr f) v) := ⟨b.ad ▸ b.ok.put b.ct _, rfl, b.ad⟩
theorem Bk.new (b : Bk F S H x kvs) {p : Addr} (n : H p = none) (o : HO) {r : Role} (hr : r ≠ .run) : Bk F (S.new r p o) (upd H p o) x kvs :=
  ⟨b.ok.made n o, (Sto.new_ne _ _ _ hr.symm).trans b.ct, (Sto.new_ad _ _ _ hr.symm).trans b.ad⟩
theorem Bk.same (b : Bk F S H x kvs) {H' : Hp} (s : Same H H') : Bk F S H' x kvs := ⟨b.ok.same s, b.ct, b.ad⟩
theorem Bk.frz (b : Bk F S H x kvs) {p : Addr} (n : H p = none) (o : HO) : Bk (upd F p o) S (upd H p o) x kvs := ⟨b.ok.frz n o, b.ct, b.ad⟩
theorem Bk.dput (b : Bk F S H x kvs) (k : Str) (v : V) (hz : kvs.length < 100) : DPut H x (.str k) v (upd H x (.dK (putK kvs (.inr k) v))) :=
  DPut.k (k := .inr k) b.hx (by have : (100 : Nat) < sizeLine := by decide
                                omega)
theorem Bk.all (b : Bk F S H x kvs) (kvs' : List (Key × V)) : Bk F (S.put .run (.dK kvs')) (upd H x (.dK kvs')) x kvs' := ⟨b.ad ▸ b.ok.put b.ct _, rfl, b.ad⟩
theorem Bk.pack (b : Bk F S H x kvs) : ∃ S', Bk F S' H x kvs ∧ S' = S := ⟨S, b, rfl⟩
theorem Bk.zero (n : H x = none) : Bk H (stoL x) (upd H x (.dK [])) x [] := by
  refine ⟨⟨same_upd n, fun r o e => ?_, fun _ _ _ => n, fun r r' o o' e e' _ => ?_⟩, rfl, rfl⟩
  · by_cases h : r = .run
    · subst h; have e : some (HO.dK []) = some o := e; rw [← e]; exact upd_same
    · have e : (if r = .run then some (HO.dK []) else none) = some o := e
      rw [if_neg h] at e; cases e
  · have h1 : r = .run := by
      by_cases h : r = .run
      · exact h
      · have e : (if r = .run then some (HO.dK []) else none) = some o := e
        rw [if_neg h] at e; cases e
    have h2 : r' = .run := by
      by_cases h : r' = .run
      · exact h
      · have e' : (if r' = .run then some (HO.dK []) else none) = some o' := e'
        rw [if_neg h] at e'; cases e'
    rw [h1, h2]
end
def keepL : Role → Bool
  | .run => true | .ag => true | .lg => true | .re => true | .st => true | .si => true | .ti => true | _ => false
def sp__law_begun (K : PySem.W.Frag) (A : Adr) : Sp0 := fun vs H Q => ∃ (c : Cfg) (mv : V), vs = [mv] ∧ Dp K H mv (cfgD c) ∧ Fit c ∧
  ∀ x F' S' H', Same H F' → LAt K c mv x (init c) F' S' H' → Q (.ref x) H'
/-- _law_begun -/
theorem ok__law_begun (T : Txt K mg w A) : Fn PP w K mg base 2 A._law_begun (sp__law_begun K A) := by
  refine T.d__law_begun.go sc__law_begun fun cdv Ar outer s H vs Q hr h => ?_
  have nd := sc__law_begun.nd
  obtain ⟨c, mv, rfl, dmv, fit, q⟩ := h
  refine ⟨_, (pss_cons (ps_set (i := 1) nd rfl (Or.inl rfl) (pe_callB (lenK K) (by rfl) T.b_len (by decide +kernel) (pa_cons (pe_ix (ixT K) (pv 0) pe_int (fun _ _ => rfl)) pa_nil)))
      (pss_cons (ps_set (i := 2) nd rfl (Or.inl rfl) (pe_disp (pps_cons pe_str (pv 0) (pps_cons pe_str pe_int (pps_cons pe_str pe_int (pps_cons pe_str (pe_lst pa_nil) (pps_cons pe_str (pe_lst pa_nil) (pps_cons pe_str (pe_callTy (lstOf K) (by rfl) T.b_list (by decide +kernel) (pa_cons (pe_ix (ixT K) (pv 0) pe_int (fun _ _ => rfl)) pa_nil)) (pps_cons pe_str pe_int pps_nil))))))) (by rfl) (by rfl) (fun z => by cases z) (by decide)))
      (pss_cons (ps_asg (pe_op op_rep (pe_lst (pa_cons (pe_tup (pa_cons pe_str pa_nil)) pa_nil)) (pv 1)) (pg_sub (pv 2) pe_str (set_dict hr.hu1) (fun _ => rfl)))
      (pss_cons (ps_asg (pe_op op_rep (pe_lst (pa_cons pe_int pa_nil)) (pv 1)) (pg_sub (pv 2) pe_str (set_dict hr.hu1) (fun _ => rfl)))
      (pss_cons (ps_asg (pe_op op_rep (pe_lst (pa_cons pe_int pa_nil)) (pv 1)) (pg_sub (pv 2) pe_str (set_dict hr.hu1) (fun _ => rfl)))
      (pss_cons (ps_asg (pe_lc (own := [("_law_pair", 4)]) (g := gName 4) (tt := tYes) rfl nd (pi_tup (pe_ix (ixT K) (pv 0) pe_int (fun _ _ => rfl))) (blkOk_by (own := [("_law_pair", 4)]) (N := N__law_begun) (sc := defScope s__law_begun) (by decide +kernel))
        (fun _ _ _ _ _ => (pg_name (i := 4) nd rfl (Or.inl rfl))) (fun _ _ _ _ _ => pts_nil)
        (fun _ _ _ _ _ => (pe_lst pa_nil))) (pg_sub (pv 2) pe_str (set_dict hr.hu1) (fun _ => rfl)))
      (pss_cons (ps_asg (pe_lc (own := [("_law_word", 5)]) (g := gName 5) (tt := tYes) rfl nd (pi_tup (pe_ix (ixT K) (pv 0) pe_int (fun _ _ => rfl))) (blkOk_by (own := [("_law_word", 5)]) (N := N__law_begun) (sc := defScope s__law_begun) (by decide +kernel))
        (fun _ _ _ _ _ => (pg_name (i := 5) nd rfl (Or.inl rfl))) (fun _ _ _ _ _ => pts_nil)
        (fun _ _ _ _ _ => (pe_ifExp (pt_cm op_eq (pv 5) pe_str) pe_str pe_str))) (pg_sub (pv 2) pe_str (set_dict hr.hu1) (fun _ => rfl)))
      (pss_cons (ps_asg (pe_lc (own := [("_law_word", 5)]) (g := gName 5) (tt := tYes) rfl nd (pi_tup (pe_ix (ixT K) (pv 0) pe_int (fun _ _ => rfl))) (blkOk_by (own := [("_law_word", 5)]) (N := N__law_begun) (sc := defScope s__law_begun) (by decide +kernel))
        (fun _ _ _ _ _ => (pg_name (i := 5) nd rfl (Or.inl rfl))) (fun _ _ _ _ _ => pts_nil)
        (fun _ _ _ _ _ => (pe_lst pa_nil))) (pg_sub (pv 2) pe_str (set_dict hr.hu1) (fun _ => rfl)))
      (pss_cons (ps_for PassesOwn.never rfl (pi_range1 (by rfl) T.b_range (pa_cons (pv 1) pa_nil)) (pg_name (i := 3) nd rfl (Or.inl rfl))
        (pss_one (ps_expr (pe_f (ok__law_plan T) (hr.mono (by decide)) (by rfl) T.g__law_plan T.d__law_plan.kp (pa_cons (pv 2) (pa_cons (pv 3) (pa_cons pe_int pa_nil)))))))
      (pss_one (ps_ret (pv 2)))))))))))), ?_⟩
  have hn4 := fit.nLe
  have hr3 := fit.nrLe
  have big3 := big3
  obtain ⟨b, w1, w2, w3, w4, rfl, hs0, d1, d2, d3, d4⟩ := dp_tup4 dmv
  obtain ⟨b1, rx, rfl, hs1, drx⟩ := dp_tupI d1
  obtain ⟨b2, r2, rfl, hs2, dr2⟩ := dp_tupI d2
  obtain ⟨b3, r3, rfl, hs3, dr3⟩ := dp_tupI d3
  obtain rfl := dpa_nilI dr3
  obtain ⟨b4, r4, rfl, hs4, dr4⟩ := dp_tupI d4
  have hr4 : r4.length = c.n := by rw [dpa_length dr4, List.length_map]; rfl
  have hrx : rx.length = c.nr := by rw [dpa_length drx, List.length_map]; rfl
  have sH : ∀ {H' : Hp}, Same H H' → True := fun _ => trivial
  refine ⟨_, rfl, _, _, _, _, rfl, rfl, hs0, at3, _, _, rfl, .inr hs4, ?_⟩
  rw [hr4]
  refine fun x nx => ?_
  have B0 := Bk.zero nx
  refine ⟨_, rfl, Nat.zero_le _, fun p5 n5 => ⟨Nat.zero_le _, fun p6 n6 => ?_⟩⟩
  have B1 := (B0.new (r := .ag) n5 (.lst []) (by decide)).new (r := .lg) n6 (.lst []) (by decide)
  refine ⟨_, rfl, _, _, _, _, rfl, rfl, same_T B1.ok.sm hs0, at3, _, _, rfl, .inr (same_T B1.ok.sm hs4), fun p7 n7 => ?_⟩
  have B2 := B1.new (r := .re) n7 (.lst r4) (by decide)
  refine ⟨B2.hx, [(.inr "model", .ref b), (.inr "time", .int 0), (.inr "next", .int 0), (.inr "agenda", .ref p5), (.inr "log", .ref p6), (.inr "rests", .ref p7), (.inr "asked", .int 0)], rfl, (by show 7 ≤ 15; decide), ?_⟩
  have B3 : Bk H _ (upd _ x (.dK (mergeK [] [(.inr "model", .ref b), (.inr "time", .int 0), (.inr "next", .int 0), (.inr "agenda", .ref p5), (.inr "log", .ref p6), (.inr "rests", .ref p7), (.inr "asked", .int 0)]))) x [(.inr "model", .ref b), (.inr "time", .int 0), (.inr "next", .int 0), (.inr "agenda", .ref p5), (.inr "log", .ref p6), (.inr "rests", .ref p7), (.inr "asked", .int 0)] := B2.all _
  refine ⟨(by show 1 ≤ sizeLine; omega), fun e4 n4 => ⟨(by show 1 ≤ sizeLine; omega), fun l4 m4 => ?_⟩⟩
  have B4 := (B3.frz n4 (.tup [V.str "ready"])).same (same_upd m4 (o := .lst [V.ref e4]))
  refine ⟨_, rfl, l4, _, _, rfl, rfl, upd_same, by omega, by omega, by show 1 * ((c.n : Nat) : Int).toNat ≤ sizeLine; omega, fun p8 n8 => ?_⟩
  rw [rep_tab]
  have B5 := B4.new (r := .st) n8 (.lst (tab c.n fun _ => .ref e4)) (by decide)
  refine ⟨_, rfl, _, _, rfl, B5.dput "states" _ (by show 7 < 100; decide), ?_⟩
  have B6 := B5.fld "states" (.ref p8)
  refine ⟨(by show 1 ≤ sizeLine; omega), fun l7 m7 => ?_⟩
  have B7 := B6.same (same_upd m7 (o := .lst [V.int 0]))
  refine ⟨_, rfl, l7, _, _, rfl, rfl, upd_same, by omega, by omega, by show 1 * ((c.n : Nat) : Int).toNat ≤ sizeLine; omega, fun p9 n9 => ?_⟩
  rw [rep_tab]
  have B8 := B7.new (r := .si) n9 (.lst (tab c.n fun _ => .int 0)) (by decide)
  refine ⟨_, rfl, _, _, rfl, B8.dput "since" _ (by show 8 < 100; decide), ?_⟩
  have B9 := B8.fld "since" (.ref p9)
  refine ⟨(by show 1 ≤ sizeLine; omega), fun l10 m10 => ?_⟩
  have B10 := B9.same (same_upd m10 (o := .lst [V.int 0]))
  refine ⟨_, rfl, l10, _, _, rfl, rfl, upd_same, by omega, by omega, by show 1 * ((c.n : Nat) : Int).toNat ≤ sizeLine; omega, fun p11 n11 => ?_⟩
  rw [rep_tab]
  have B11 := B10.new (r := .ti) n11 (.lst (tab c.n fun _ => .int 0)) (by decide)
  refine ⟨_, rfl, _, _, rfl, B11.dput "until" _ (by show 9 < 100; decide), ?_⟩
  have B12 := B11.fld "until" (.ref p11)
  have B12 : Bk (upd H e4 (.tup [V.str "ready"])) _ _ x [(.inr "model", .ref b), (.inr "time", .int 0), (.inr "next", .int 0), (.inr "agenda", .ref p5), (.inr "log", .ref p6), (.inr "rests", .ref p7), (.inr "asked", .int 0), (.inr "states", .ref p8), (.inr "since", .ref p9), (.inr "until", .ref p11)] := B12
  obtain ⟨S8, B12, e8⟩ := B12.pack
  have c_ag : S8.ct .ag = some (.lst []) := e8 ▸ rfl
  have c_lg : S8.ct .lg = some (.lst []) := e8 ▸ rfl
  have c_re : S8.ct .re = some (.lst r4) := e8 ▸ rfl
  have c_st : S8.ct .st = some (.lst (tab c.n fun _ => .ref e4)) := e8 ▸ rfl
  have c_si : S8.ct .si = some (.lst (tab c.n fun _ => .int 0)) := e8 ▸ rfl
  have c_ti : S8.ct .ti = some (.lst (tab c.n fun _ => .int 0)) := e8 ▸ rfl
  have d_ag : S8.ad .ag = p5 := e8 ▸ rfl
  have d_lg : S8.ad .lg = p6 := e8 ▸ rfl
  have d_re : S8.ad .re = p7 := e8 ▸ rfl
  have d_st : S8.ad .st = p8 := e8 ▸ rfl
  have d_si : S8.ad .si = p9 := e8 ▸ rfl
  have d_ti : S8.ad .ti = p11 := e8 ▸ rfl
  have c_q : ∀ r n, S8.ct (.req r n) = none := fun r n => e8 ▸ rfl
  clear e8
  generalize eF : upd H e4 (.tup [V.str "ready"]) = F at B12
  have sF : Same H F := eF ▸ same_upd (B3.ok.fresh n4)
  have dre : Dp K F (.ref e4) (stsD .ready) := eF ▸ .tup (SqT.of upd_same) (.cons (.str _) .nil)
  have hs0 := same_T sF hs0
  have hs1 := same_T sF hs1
  have hs3 := same_T sF hs3
  refine ⟨_, rfl, _, _, _, _, rfl, rfl, same_T B12.ok.sm hs0, at0, b1, rfl, ⟨_, same_T B12.ok.sm hs1⟩, fun D nD => lc_it (walk_tup (xs := rx)) (fun i H => ∃ S2, SOk F S2 H ∧ (∀ r, keepL r = true → S2.ct r = S8.ct r ∧ S2.ad r = S8.ad r) ∧ S2.ct .rqs = some (.lst (tab i fun r => .ref (S2.ad (.rq r)))) ∧ S2.ad .rqs = D ∧
    (∀ r, r < i → S2.ct (.rq r) = some (.lst [])) ∧ ∀ r n, S2.ct (.req r n) = none) ?_ (fun i H1 _ h => ?_) ?_ ?_⟩
  · refine ⟨S8.new .rqs D (.lst []), B12.ok.made nD _, fun r hr => ?_, rfl, Sto.new_ad_eq _ _ _ _, fun r h => absurd h (Nat.not_lt_zero _), fun r n => (Sto.new_ne _ _ _ (by intro z; cases z)).trans (c_q r n)⟩
    have hn : r ≠ .rqs := fun z => by rw [z] at hr; cases hr
    exact ⟨Sto.new_ne _ _ _ hn, Sto.new_ad _ _ _ hn⟩
  · obtain ⟨S2, k2, _⟩ := h
    exact same_T k2.sm hs1
  · rintro i v H1 H2 hi ⟨S2, k2, kp, kln, kad, kl, krq⟩ ⟨rfl, hv⟩
    have hi2 : i < c.nr := hrx ▸ hi
    refine ⟨rfl, Nat.zero_le _, fun p3 np3 => ?_⟩
    have k3 := k2.made (r := .rq i) np3 (.lst [])
    have c3 : (S2.new (.rq i) p3 (.lst [])).ct .rqs = some (.lst (tab i fun r => .ref (S2.ad (.rq r)))) := (Sto.new_ne _ _ _ (by intro z; cases z)).trans kln
    have a3 : (S2.new (.rq i) p3 (.lst [])).ad .rqs = D := (Sto.new_ad _ _ _ (by intro z; cases z)).trans kad
    have hD := k3.liv .rqs _ c3
    have k4 := k3.put c3 (.lst (tab i (fun r => V.ref (S2.ad (.rq r))) ++ [.ref p3]))
    rw [a3] at hD k4
    have eAD : ∀ (r' : Role) (o o2 : HO), r' ≠ .rq i → ((S2.new (.rq i) p3 o).put .rqs o2).ad r' = S2.ad r' := fun r' o o2 h1 => Sto.new_ad S2 p3 o h1
    have eA2 : ∀ (o o2 : HO), ((S2.new (.rq i) p3 o).put .rqs o2).ad (.rq i) = p3 := fun o o2 => Sto.new_ad_eq S2 (.rq i) p3 o
    refine ⟨_, hD, by rw [tab_len]; omega, _, k4, fun r hr => ?_, ?_, a3, fun r hr => ?_, fun r n => ?_⟩
    · have hn : r ≠ .rqs ∧ r ≠ .rq i := ⟨fun z => (by rw [z] at hr; cases hr), fun z => (by rw [z] at hr; cases hr)⟩
      exact ⟨((Sto.put_ne _ _ hn.1).trans (Sto.new_ne _ _ _ hn.2)).trans (kp r hr).1, (eAD r _ _ hn.2).trans (kp r hr).2⟩
    · refine (Sto.put_eq _ _ _).trans ?_
      rw [tab_succ, eA2]
      congr 3
      refine tab_congr fun r hr => ?_
      rw [eAD (.rq r) _ _ (fun z => by injection z with z; omega)]
    · by_cases hri : r = i
      · subst hri
        exact (Sto.put_ne _ _ (by intro z; cases z)).trans (Sto.new_eq _ _ _ _)
      · exact ((Sto.put_ne _ _ (by intro z; cases z)).trans (Sto.new_ne _ _ _ (fun z => by injection z with z; exact hri z))).trans (kl r (by omega))
    · exact ((Sto.put_ne _ _ (by intro z; cases z)).trans (Sto.new_ne _ _ _ (by intro z; cases z))).trans (krq r n)
  · rintro H9 ⟨S9, k9, kp, kln, kad, kl, krq⟩
    rw [hrx] at kln kl
    have B9 : Bk F S9 H9 x _ := ⟨k9, (kp .run rfl).1.trans B12.ct, (kp .run rfl).2.trans B12.ad⟩
    refine ⟨_, rfl, _, _, rfl, B9.dput "requests" _ (by show 10 < 100; decide), ?_⟩
    have B10 := B9.fld "requests" (.ref D)
    refine ⟨_, rfl, _, _, _, _, rfl, rfl, same_T B10.ok.sm hs0, at2, b3, rfl, ⟨_, same_T B10.ok.sm hs3⟩, fun D14 nD14 => lc_T (l := ([] : List Unit)) (h := fun _ => .non) (fun _ => true) (fun _ => .non) nD14 (same_T B10.ok.sm hs3) (Nat.zero_le _) (fun z hz => nomatch hz) fun H14 s14 eD14 => ?_⟩
    refine ⟨_, rfl, _, _, rfl, (B10.same s14).dput "gates" _ (by show 11 < 100; decide), ?_⟩
    have B14 := (B10.same s14).fld "gates" (.ref D14)
    refine ⟨_, rfl, _, _, _, _, rfl, rfl, same_T B14.ok.sm hs0, at2, b3, rfl, ⟨_, same_T B14.ok.sm hs3⟩, fun D15 nD15 => lc_T (l := ([] : List Unit)) (h := fun _ => .non) (fun _ => true) (fun _ => .non) nD15 (same_T B14.ok.sm hs3) (Nat.zero_le _) (fun z hz => nomatch hz) fun H15 s15 eD15 => ?_⟩
    refine ⟨_, rfl, _, _, rfl, (B14.same s15).dput "passers" _ (by show 12 < 100; decide), ?_⟩
    have B22 := (B14.same s15).fld "passers" (.ref D15)
    obtain ⟨S22, B22, e22⟩ := B22.pack
    have g : ∀ r, r ≠ .run → keepL r = true → S22.ct r = S8.ct r ∧ S22.ad r = S8.ad r := by
      rw [e22]
      exact fun r h hr => ⟨((Sto.put_ne _ _ h).trans ((Sto.put_ne _ _ h).trans (Sto.put_ne _ _ h))).trans (kp r hr).1, (kp r hr).2⟩
    have c_rqs : S22.ct .rqs = some (.lst (tab c.nr fun r => .ref (S22.ad (.rq r)))) := by rw [e22]; exact kln
    have d_rqs : S22.ad .rqs = D := by rw [e22]; exact kad
    have c_l : ∀ r, r < c.nr → S22.ct (.rq r) = some (.lst []) := by rw [e22]; exact kl
    have c_q : ∀ r n, S22.ct (.req r n) = none := by rw [e22]; exact krq
    clear e22
    have hrd : ∀ p, p < c.n → Dp K F (r4.getD p .non) (restD (c.scripts.getD p [])) := fun p hp => by
      have hp2 : (c.scripts.map restD)[p]? = some (restD (c.scripts.getD p [])) := by
        rw [List.getElem?_map, List.getElem?_eq_getElem hp, List.getD_eq_getElem?_getD, List.getElem?_eq_getElem hp]; rfl
      obtain ⟨v, hv, dv⟩ := dpa_get dr4 hp2
      rw [List.getD_eq_getElem?_getD, hv]; exact dp_same sF dv
    have P0 : LAt K c (.ref b) x { init c with agenda := [], next := 0 } F S22 _ := ⟨B22.ok, ⟨⟨.ref D14, .ref D15, B22.ct.trans (by
      unfold lawKv
      rw [(g .ag (by decide) rfl).2, (g .lg (by decide) rfl).2, (g .re (by decide) rfl).2, (g .st (by decide) rfl).2, (g .si (by decide) rfl).2, (g .ti (by decide) rfl).2, d_rqs, d_ag, d_lg, d_re, d_st, d_si, d_ti]
      rfl)⟩, ⟨[], (g .ag (by decide) rfl).1.trans c_ag, [], rfl, rfl, fun z hz => nomatch hz⟩, ⟨[], (g .lg (by decide) rfl).1.trans c_lg, .nil⟩, ⟨_, (g .st (by decide) rfl).1.trans c_st, fun p _ => dre⟩, ⟨_, ((g .re (by decide) rfl).1.trans c_re).trans (congrArg (fun l => some (HO.lst l)) (tab_of hr4)), hrd⟩, (g .si (by decide) rfl).1.trans c_si, (g .ti (by decide) rfl).1.trans c_ti,
      c_rqs, fun r hr => c_l r hr, fun r hr q hq => (nomatch hq), fun r hr q hq => (nomatch hq), fun r hr n hn => c_q r n, fun r hr q hq => (nomatch hq), dp_same sF dmv⟩, B22.ad⟩
    refine ⟨_, rfl, _, rfl, by omega, by omega, ?_⟩
    have ejn : ((c.n : Nat) : Int).toNat = c.n := by omega
    rw [ejn]
    refine for_range (lo := 0) (n := c.n) (fun i σ H2 => ∃ F1 S1 z, LAt K c (.ref b) x { init c with agenda := entries0 i, next := i } F1 S1 H2 ∧ Same H F1 ∧ σ = [some (.ref b), some (.int c.n), some (.ref x), z, none, none]) ⟨F, S22, none, P0, sF, rfl⟩ ?_ ?_
    · rintro i σ H1 hi ⟨F1, S1, z, P1, sF, rfl⟩
      have eag : ∀ n, (entries0 n).length = n := fun n => by induction n with
        | zero => rfl
        | succ n ih => rw [entries0, List.length_append, ih]; rfl
      have e0 : (0 : Int) + ((i : Nat) : Int) = (i : Nat) := by omega
      refine ⟨_, rfl, _, rfl, c, .ref b, x, _, F1, S1, i, 0, by rw [e0]; rfl, P1, by show (entries0 i).length ≤ 4000; rw [eag]; omega, fun F2 S2 H2 s2 X2 P2 => ?_⟩
      exact ⟨F2, S2, _, P2, sF.trans s2, rfl⟩
    · rintro σ H1 ⟨F1, S1, z, P1, sF, rfl⟩
      exact ⟨_, rfl, q _ _ _ _ sF P1⟩
end Ev
namespace Ev
open PySem PySem.Spec PyProof.Rows L2
variable {w : World} {K : PySem.W.Frag} {mg : Str → Option Value} {base : Heap} {A : Adr}

theorem entD_dep (e : Ent) : (entD e).depth ≤ 8 := by simp only [entD, PyData.depth, PyData.depthAll]; decide
theorem ent_once {e : Ent} : ∀ {l : List Ent} {i : Nat}, l[i]? = some e → ents l e.2.2 ≤ 1 → l.eraseIdx i = l.filter (· != e) ∧ ∀ m, m < i → l[m]? ≠ some e
  | [], i, h, _ => by cases h
  | x :: l, 0, h, hc => by
    obtain rfl : x = e := by simpa using h
    refine ⟨?_, fun m hm => absurd hm (Nat.not_lt_zero _)⟩
    show l = (x :: l).filter (· != x)
    rw [List.filter_cons_of_neg (by simp)]
    refine (List.filter_eq_self.mpr fun y hy => ?_).symm
    have : y ≠ x := fun z => by
      subst z
      have h1 : 0 < ents l y.2.2 := List.countP_pos_iff.mpr ⟨y, hy, by simp⟩
      have h2 : ents (y :: l) y.2.2 = ents l y.2.2 + 1 := by unfold ents; rw [List.countP_cons_of_pos (by simp)]
      omega
    simpa using this
  | x :: l, i + 1, h, hc => by
    have h : l[i]? = some e := by simpa using h
    have h1 : 0 < ents l e.2.2 := List.countP_pos_iff.mpr ⟨e, List.mem_of_getElem? h, by simp⟩
    have hne : x.2.2 ≠ e.2.2 := fun z => by
      have h2 : ents (x :: l) e.2.2 = ents l e.2.2 + 1 := by unfold ents; rw [List.countP_cons_of_pos (by simp [z])]
      omega
    have hx : x ≠ e := fun z => hne (by rw [z])
    have hc2 : ents l e.2.2 ≤ 1 := by
      have h2 : ents (x :: l) e.2.2 = ents l e.2.2 := by unfold ents; rw [List.countP_cons_of_neg (by simp [hne])]
      omega
    obtain ⟨i1, i2⟩ := ent_once h hc2
    refine ⟨?_, fun m hm => ?_⟩
    · show x :: l.eraseIdx i = (x :: l).filter (· != e)
      rw [List.filter_cons_of_pos (by simpa using hx), i1]
    · cases m with
      | zero => intro z; exact hx (by simpa using z)
      | succ m => intro z; exact i2 m (by omega) (by simpa using z)
theorem AgR.rem {F : Hp} {ag : List Ent} {xs : List V} (g : AgR K F ag xs) {i : Nat} {e : Ent} (h : ag[i]? = some e) (hc : ents ag e.2.2 ≤ 1) : AgR K F (ag.filter (· != e)) (xs.eraseIdx i) := by
  rw [← (ent_once h hc).1]
  obtain ⟨zs, rfl, rfl, hz⟩ := g
  refine ⟨zs.eraseIdx i, map_erase _ _ _, map_erase _ _ _, fun z hm => hz z (List.mem_of_mem_eraseIdx hm)⟩
theorem allow_le (a : Option Nat) (p : Nat) (s : Sts) : allow a p s ≤ 1 := by
  unfold allow
  split
  · omega
  · cases s <;> simp [queued]
theorem iteS_k {b : Bool} {t1 t2 : TS} {D : Ends} {σ : L2.St} {H : Hp} (P : Hp → Prop) (h1 : b = true → ∀ D : Ends, (∀ H', P H' → D.nx σ H') → t1 D σ H) (h2 : b = false → ∀ D : Ends, (∀ H', P H' → D.nx σ H') → t2 D σ H) (k : ∀ H', P H' → D.nx σ H') :
    if b = true then t1 D σ H else t2 D σ H := by
  cases b
  · exact h2 rfl _ k
  · exact h1 rfl _ k
/-- an entry is removed, its process still as it was -/
def M.enter1 (m : M) (e : Ent) : M :=
  let m1 := { m with agenda := m.agenda.filter (· != e), clock := e.1 }
  if m1.states e.2.2 = .asleep then m1.tell e.2.2 .wake [] else m1
theorem enter_eq (m : M) (e : Ent) : m.enter e = (m.enter1 e).setSt e.2.2 .ready := rfl
def sp__law_run (K : PySem.W.Frag) (A : Adr) : Sp0 := fun vs H Q => ∃ (c : Cfg) (mv : V) (h k : Nat) (mE : M), vs = [mv, .int h] ∧ Dp K H mv (cfgD c) ∧ Fit c ∧ h ≤ 60 ∧ Runs c h k (init c) mE ∧
  ∀ x F' S' H', Same H F' → LAt K c mv x { mE with clock := h } F' S' H' → Q (.ref x) H'
/-- _law_run -/
theorem ok__law_run (T : Txt K mg w A) : Fn PP w K mg base 7 A._law_run (sp__law_run K A) := by
  refine T.d__law_run.go sc__law_run fun cdv Ar outer s H vs Q hr h => ?_
  have nd := sc__law_run.nd
  obtain ⟨c, mv, h, k, mE, rfl, dmv, fit, h60, hrun, q⟩ := h
  refine ⟨_, (pss_cons (ps_set (i := 2) nd rfl (Or.inl rfl) (pe_f (ok__law_begun T) (hr.mono (by decide)) (by rfl) T.g__law_begun T.d__law_begun.kp (pa_cons (pv 0) pa_nil)))
      (pss_cons (ps_while PassesOwn.never (PW.pt (pw_and (pt_cm (opNeE K hr.hu) (pe_dget hr.hu1 (pv 2) pe_str (fun _ _ => rfl)) (pe_lst pa_nil)) (pw_and1 (pt_cm op_le (pe_ix (ixT K) (pe_callB (cr_minE rfl hr.hu) (by rfl) T.b_min (by decide +kernel) (pa_cons (pe_dget hr.hu1 (pv 2) pe_str (fun _ _ => rfl)) pa_nil)) pe_int (fun _ _ => rfl)) (pv 1)))))
        (pss_cons (ps_set (i := 3) nd rfl (Or.inl rfl) (pe_callB (cr_minE rfl hr.hu) (by rfl) T.b_min (by decide +kernel) (pa_cons (pe_dget hr.hu1 (pv 2) pe_str (fun _ _ => rfl)) pa_nil)))
        (pss_cons (ps_expr (pe_bm PySem.F.plainAttrs_list PySem.F.slot_list_remove PySem.F.type_list_remove (mt_removeD hr.hu) (pe_dget hr.hu1 (pv 2) pe_str (fun _ _ => rfl)) (pa_cons (pv 3) pa_nil)))
        (pss_cons (ps_asg (pe_ix (ixT K) (pv 3) pe_int (fun _ _ => rfl)) (pg_sub (pv 2) pe_str (set_dict hr.hu1) (fun _ => rfl)))
        (pss_cons (ps_if (pt_cm (opEqD K hr.hu) (pe_ix (ixL K) (pe_dget hr.hu1 (pv 2) pe_str (fun _ _ => rfl)) (pe_ix (ixT K) (pv 3) pe_int (fun _ _ => rfl)) (fun _ _ => rfl)) (pe_tup (pa_cons pe_str pa_nil)))
          (pss_one (ps_expr (pe_f (ok__law_tell T) (hr.mono (by decide)) (by rfl) T.g__law_tell T.d__law_tell.kp (pa_cons (pv 2) (pa_cons (pe_ix (ixT K) (pv 3) pe_int (fun _ _ => rfl)) (pa_cons pe_str (pa_cons (pe_tup pa_nil) pa_nil)))))))
          pss_nil)
        (pss_cons (ps_asg (pe_tup (pa_cons pe_str pa_nil)) (pg_sub (pe_dget hr.hu1 (pv 2) pe_str (fun _ _ => rfl)) (pe_ix (ixT K) (pv 3) pe_int (fun _ _ => rfl)) set_list (fun _ => rfl)))
        (pss_cons (ps_set (i := 4) nd rfl (Or.inl rfl) pe_bl)
        (pss_one (ps_while PassesOwn.never (pt_val (pv 4))
          (pss_one (ps_set (i := 4) nd rfl (Or.inl rfl) (pe_f (ok__law_proceed T) (hr.mono (by decide)) (by rfl) T.g__law_proceed T.d__law_proceed.kp (pa_cons (pv 2) (pa_cons (pe_ix (ixT K) (pv 3) pe_int (fun _ _ => rfl)) pa_nil))))))))))))))
      (pss_cons (ps_asg (pv 1) (pg_sub (pv 2) pe_str (set_dict hr.hu1) (fun _ => rfl)))
      (pss_one (ps_ret (pv 2)))))), ?_⟩
  refine ⟨_, rfl, c, mv, rfl, dmv, fit, fun x F1 S1 H1 s1 P1 => ?_⟩
  refine ⟨fun j σ H2 => ∃ mm F2 S2 z3 z4, LAt K c mv x mm F2 S2 H2 ∧ Same H F2 ∧ Good c none mm ∧ Runs c h j mm mE ∧ σ = [some mv, some (.int h), some (.ref x), z3, z4], ⟨k, _, _, _, none, none, P1, s1, fit.good, hrun, rfl⟩, ?_⟩
  rintro j σ H2 ⟨mm, F2, S2, z3, z4, P, sF, g, hr2, rfl⟩
  obtain ⟨o1, o2, er, h1⟩ := P.run
  obtain ⟨xs, ea, ga⟩ := P.rp.ag
  have hl := P.ok.liv _ _ ea
  have gl := ga.len
  refine ⟨_, rfl, _, _, rfl, DG h1 kv_agenda, Nat.zero_le _, fun e0 n0 => ?_⟩
  have s2 := same_upd n0 (o := .lst [])
  have P := P.same s2
  have h1 := s2 _ _ h1
  have hl := s2 _ _ hl
  refine ⟨_, _, _, rfl, rfl, SqL.of hl, SqL.of upd_same, _, rfl, ?_⟩
  cases hag : mm.agenda with
  | nil =>
    have hnil : (!xs.isEmpty) = false := by
      rw [hag] at gl
      cases xs with
      | nil => rfl
      | cons _ _ => cases gl
    refine ifN' hnil ?_
    have emE : mm = mE := by
      cases hr2 with
      | done _ => rfl
      | step hm _ _ _ => rw [hag] at hm; cases hm
    subst emE
    refine ifN' rfl ?_
    refine ⟨_, rfl, _, rfl, _, _, rfl, DP h1 "time" _, ?_⟩
    obtain ⟨S3, P3, X3⟩ := P.setTime er h
    exact ⟨_, rfl, q _ _ _ _ sF P3⟩
  | cons e1 l1 =>
    have hnil : (!xs.isEmpty) = true := by
      rw [hag] at gl
      cases xs with
      | nil => cases gl
      | cons _ _ => rfl
    refine ifB' hnil ?_
    refine ⟨_, rfl, _, _, rfl, DG h1 kv_agenda, _, _, e1, l1, rfl, SqL.of hl, dpa_same P.ok.sm (hag ▸ ga.dpa), fun i v hi hmi => ?_⟩
    obtain ⟨e, he⟩ : ∃ e, (e1 :: l1)[i]? = some e := by
      have h8 := (List.getElem?_eq_some_iff.mp hi).1
      rw [gl, hag] at h8
      exact ⟨_, List.getElem?_eq_getElem h8⟩
    have hmin : minEnt mm.agenda = some e := by rw [hag, hmi, he]
    have hie : mm.agenda[i]? = some e := by rw [hag]; exact he
    have dv := ga.get hi hie
    obtain ⟨fb, rfl, hfb⟩ := entI dv
    refine ⟨_, _, _, _, rfl, rfl, same_T P.ok.sm hfb, at0, _, rfl, _, _, rfl, rfl, _, rfl, ?_⟩
    cases hr2 with
    | done hd =>
      have := hd e hmin
      refine ifN' (decide_eq_false (by omega)) ?_
      refine ⟨_, rfl, _, rfl, _, _, rfl, DP h1 "time" _, ?_⟩
      obtain ⟨S3, P3, X3⟩ := P.setTime er h
      exact ⟨_, rfl, q _ _ _ _ sF P3⟩
    | @step ja j' _ m1 _ e' hm' hle hact hrest =>
      rw [hmin] at hm'
      obtain rfl := Option.some.inj hm'
      refine ifB' (decide_eq_true (by omega)) ?_
      have g1 : Good c none m1 := act_good hact (g.enter hmin (by omega)).1
      have gE := (g.enter hmin (by omega)).1
      have B := g.pre
      have hagl := B.ag
      have hlg := B.lg
      have hpn := (gE.ga.act _ rfl).1
      have honce : ents mm.agenda e.2.2 ≤ 1 := Nat.le_trans (g.ga.agC _ hpn) (allow_le _ _ _)
      refine ⟨fun σ H3 => ∃ mm F2 S2 z3 z4, LAt K c mv x mm F2 S2 H3 ∧ Same H F2 ∧ Good c none mm ∧ Runs c h j' mm mE ∧ σ = [some mv, some (.int h), some (.ref x), z3, z4], fun σ' H' w => ⟨j', Nat.lt_succ_self _, w⟩, ?_⟩
      refine ⟨_, rfl, _, _, rfl, DG h1 kv_agenda, _, _, e1, l1, rfl, SqL.of hl, dpa_same P.ok.sm (hag ▸ ga.dpa), fun i2 v2 hi2 hmi2 => ?_⟩
      have hie2 : mm.agenda[i2]? = some e := by rw [hag]; rw [hag] at hmin; exact hmi2.symm.trans hmin
      have dv2 := ga.get hi2 hie2
      obtain ⟨fb, rfl, hfb⟩ := entI dv2
      have honce2 := ent_once hie2 honce
      refine ⟨_, rfl, _, _, rfl, DG h1 kv_agenda, .inl ⟨rfl, _, SqL.of hl⟩, _, rfl, _, _, _, i2, mm.agenda.map entD, rfl, rfl, hl, hi2, dpa_same P.ok.sm ga.dpa, fun d hd => ?_, fun m d e' hm hd he' => ?_, ?_⟩
      · obtain ⟨y, _, rfl⟩ := List.mem_map.mp hd; exact entD_dep y
      · rw [List.getElem?_map] at hd he'
        rw [hie2] at he'
        cases hy : mm.agenda[m]? with
        | none => rw [hy] at hd; cases hd
        | some y =>
          rw [hy] at hd
          obtain rfl := Option.some.inj hd
          obtain rfl := Option.some.inj he'
          refine ⟨entD_alike _ _, ?_⟩
          rw [ent_eqv]
          have : y ≠ e := fun z => honce2.2 m hm (by rw [hy, z])
          simpa using this
      obtain ⟨S3, P3, X3⟩ := P.setAg ea (ga.rem hie2 honce)
      obtain ⟨o1, o2, er, h1⟩ := P3.run
      refine ⟨_, rfl, _, _, _, _, rfl, rfl, same_T P3.ok.sm hfb, at0, _, rfl, _, _, rfl, DP h1 "time" _, ?_⟩
      obtain ⟨S4, P4, X4⟩ := P3.setTime er e.1
      obtain ⟨o1, o2, er, h1⟩ := P4.run
      obtain ⟨f, es, ds⟩ := P4.rp.st
      refine ⟨_, rfl, _, _, rfl, DG h1 kv_states, _, rfl, _, _, _, _, rfl, rfl, same_T P4.ok.sm hfb, at2, _, _, _, _, rfl, rfl, SqL.of (P4.ok.liv _ _ es), tab_at hpn, (by show 1 ≤ sizeLine; decide), fun e5 n5 => ?_⟩
      have P5 := P4.frz n5 (.tup [V.str "asleep"])
      have u5 := P4.up n5 (.tup [V.str "asleep"])
      refine ⟨stsD (mm.states e.2.2), stsD .asleep, dp_same (u5.trans P5.ok.sm) (ds _ hpn), .tup (SqT.of upd_same) (.cons (.str _) .nil), sts_shaped _, sts_shaped _, _, rfl, ?_⟩
      rw [eqv_sts]
      refine iteS_k (fun H' => ∃ F6 S6, LAt K c mv x (mm.enter1 e) F6 S6 H' ∧ Same F2 F6) (fun hb D hD => ?_) (fun hb D hD => ?_) ?_
      · have hsl : mm.states e.2.2 = .asleep := of_decide_eq_true hb
        refine ⟨_, rfl, _, rfl, _, _, _, _, rfl, rfl, same_T (u5.trans P5.ok.sm) hfb, at2, Nat.zero_le _, fun e6 n6 => ?_⟩
        have P6 := P5.frz n6 (.tup [])
        have u6 := P5.up n6 (.tup [])
        refine ⟨c, mv, x, _, _, S4, e.2.2, .wake, [], e6, rfl, P6, .tup (SqT.of upd_same) .nil, by show mm.log.length ≤ 4000; omega, Nat.zero_le _, fun F7 S7 H7 s7 X7 P7 => ?_⟩
        refine hD _ ⟨F7, S7, ?_, u5.trans (u6.trans s7)⟩
        unfold M.enter1
        dsimp only
        rw [if_pos hsl]
        exact P7
      · have hsl : ¬ mm.states e.2.2 = .asleep := of_decide_eq_false hb
        refine hD _ ⟨_, S4, ?_, u5⟩
        unfold M.enter1
        dsimp only
        rw [if_neg hsl]
        exact P5
      rintro H6 ⟨F6, S6, P6, u6⟩
      refine ⟨(by show 1 ≤ sizeLine; decide), fun e7 n7 => ?_⟩
      have P7 := P6.frz n7 (.tup [V.str "ready"])
      have u7 := P6.up n7 (.tup [V.str "ready"])
      have v7 := u6.trans u7
      obtain ⟨o1, o2, er, h1⟩ := P7.run
      obtain ⟨f7, es7, ds7⟩ := P7.rp.st
      refine ⟨_, rfl, _, _, rfl, DG h1 kv_states, _, rfl, _, _, _, _, rfl, rfl, same_T (v7.trans P7.ok.sm) hfb, at2, _, _, _, e.2.2, rfl, rfl, P7.ok.liv _ _ es7, tab_ix hpn, ?_⟩
      obtain ⟨S8, P8, X8⟩ := P7.setSt es7 ds7 (p := e.2.2) (v := .ref e7) (s := .ready) (.tup (SqT.of upd_same) (.cons (.str _) .nil))
      rw [← enter_eq] at P8
      refine ⟨fun j σ H3 => ∃ mm F3 S3 b, LAt K c mv x mm F3 S3 H3 ∧ Same F2 F3 ∧ σ = [some mv, some (.int h), some (.ref x), some (.ref fb), some (.bl b)] ∧ ((b = true ∧ ∃ i, j = i + 1 ∧ Good c (some e.2.2) mm ∧ Act c e.2.2 i mm m1) ∨ (b = false ∧ mm = m1)), ⟨ja + 1, _, _, S8, true, P8, v7, rfl, .inl ⟨rfl, ja, rfl, gE, hact⟩⟩, ?_⟩
      rintro jj σ H9 ⟨m9, F9, S9, b, P9, s9, rfl, ⟨rfl, ii, rfl, g9, a9⟩ | ⟨rfl, rfl⟩⟩
      · refine ⟨_, rfl, _, rfl, ?_⟩
        refine ifB' rfl ?_
        cases a9 with
        | stop hst =>
          refine ⟨fun σ H3 => ∃ F3 S3, LAt K c mv x m1 F3 S3 H3 ∧ Same F2 F3 ∧ σ = [some mv, some (.int h), some (.ref x), some (.ref fb), some (.bl false)], fun σ' H' ⟨F3, S3, w1, w2, w3⟩ => ⟨0, Nat.succ_pos _, m1, F3, S3, false, w1, w2, w3, .inr ⟨rfl, rfl⟩⟩, ?_⟩
          refine ⟨_, rfl, _, rfl, _, _, _, _, rfl, rfl, same_T (s9.trans P9.ok.sm) hfb, at2, c, mv, x, m9, F9, S9, e.2.2, rfl, P9, g9.preL g9.pre, hpn, g9.headL, fun F10 S10 H10 s10 P10 => ?_⟩
          rw [hst] at P10 ⊢
          exact ⟨F10, S10, P10, s9.trans s10, rfl⟩
        | @go j' _ mm1 _ hgo ham =>
          have g1' := (g9.proceed hgo).1
          rw [if_pos rfl] at g1'
          refine ⟨fun σ H3 => ∃ F3 S3, LAt K c mv x mm1 F3 S3 H3 ∧ Same F2 F3 ∧ σ = [some mv, some (.int h), some (.ref x), some (.ref fb), some (.bl true)], fun σ' H' ⟨F3, S3, w1, w2, w3⟩ => ⟨j' + 1, Nat.lt_succ_self _, mm1, F3, S3, true, w1, w2, w3, .inl ⟨rfl, j', rfl, g1', ham⟩⟩, ?_⟩
          refine ⟨_, rfl, _, rfl, _, _, _, _, rfl, rfl, same_T (s9.trans P9.ok.sm) hfb, at2, c, mv, x, m9, F9, S9, e.2.2, rfl, P9, g9.preL g9.pre, hpn, g9.headL, fun F10 S10 H10 s10 P10 => ?_⟩
          rw [hgo] at P10 ⊢
          exact ⟨F10, S10, P10, s9.trans s10, rfl⟩
      · refine ⟨_, rfl, _, rfl, ?_⟩
        refine ifN' rfl ?_
        exact ⟨m9, F9, S9, _, _, P9, sF.trans s9, g1, hrest, rfl⟩
def sp__law_events (K : PySem.W.Frag) (A : Adr) : Sp0 := fun vs H Q => ∃ (c : Cfg) (mv : V) (h k : Nat) (mE : M), vs = [mv, .int h] ∧ Dp K H mv (cfgD c) ∧ Fit c ∧ h ≤ 60 ∧ Runs c h k (init c) mE ∧
  ∀ t H', Same H H' → Dp K H' (.ref t) (.tuple (mE.log.map evD)) → Q (.ref t) H'
theorem ok__law_events (T : Txt K mg w A) : Fn PP w K mg base 8 A._law_events (sp__law_events K A) := by
  refine T.d__law_events.go sc__law_events fun cdv Ar outer s H vs Q hr h => ?_
  have nd := sc__law_events.nd
  obtain ⟨c, mv, h, k, mE, rfl, dmv, fit, h60, hrun, q⟩ := h
  refine ⟨_, (pss_one (ps_ret (pe_callTy (tupOf K) (by rfl) T.b_tuple (by decide +kernel) (pa_cons (pe_dget hr.hu1 (pe_f (ok__law_run T) (hr.mono (by decide)) (by rfl) T.g__law_run T.d__law_run.kp (pa_cons (pv 0) (pa_cons (pv 1) pa_nil))) pe_str (fun _ _ => rfl)) pa_nil)))), ?_⟩
  refine ⟨_, rfl, _, rfl, c, mv, h, k, mE, rfl, dmv, fit, h60, hrun, fun x F1 S1 H1 s1 P => ?_⟩
  obtain ⟨o1, o2, er, h1⟩ := P.run
  obtain ⟨ys, elg, dlg⟩ := P.rp.lg
  refine ⟨_, _, rfl, DG h1 kv_log, _, _, rfl, .inl ⟨SqL.of (P.ok.liv _ _ elg), fun t nt => ?_⟩⟩
  have s4 := same_upd nt (o := .tup ys)
  exact q t _ (s1.trans (P.ok.sm.trans s4)) (.tup (SqT.of upd_same) (dpa_same (P.ok.sm.trans s4) dlg))
end Ev
/-! How long the texts of our data are. -/
namespace Ev
open PySem
mutual
/-- its ints are small -/
def smI : PyData → Bool
  | .int i => decide (i.natAbs < 10 ^ 12)
  | .list xs => smA xs
  | .tuple xs => smA xs
  | .dict _ => false
  | .none => true
  | .bool _ => true
  | .str _ => true
def smA : List PyData → Bool
  | [] => true
  | x :: xs => smI x && smA xs
end
mutual
theorem smI_both : ∀ d : PyData, smI d = true → d.intsShort 13 = true ∧ d.showable = true
  | .none, _ => ⟨rfl, rfl⟩
  | .bool _, _ => ⟨rfl, rfl⟩
  | .str _, _ => ⟨rfl, rfl⟩
  | .dict _, h => by simp only [smI] at h; exact nomatch h
  | .int i, h => by
    have h : i.natAbs < 10 ^ 12 := by simpa only [smI, decide_eq_true_eq] using h
    refine ⟨by simpa only [PyData.intsShort, decide_eq_true_eq] using PyData.shown_int_le h, ?_⟩
    simp only [PyData.showable, decide_eq_true_eq]
    have h2 : i.natAbs.log2 < 40 := by
      by_cases h0 : i.natAbs = 0
      · rw [h0]; decide
      · exact (Nat.log2_lt h0).mpr (Nat.lt_of_lt_of_le h (by decide))
    omega
  | .list xs, h => by
    have := smA_both xs (by simpa only [smI] using h)
    simpa only [PyData.intsShort, PyData.showable] using this
  | .tuple xs, h => by
    have := smA_both xs (by simpa only [smI] using h)
    simpa only [PyData.intsShort, PyData.showable] using this
theorem smA_both : ∀ xs : List PyData, smA xs = true → PyData.intsShortAll 13 xs = true ∧ PyData.showableAll xs = true
  | [], _ => ⟨rfl, rfl⟩
  | x :: xs, h => by
    have h : smI x = true ∧ smA xs = true := by simpa only [smA, Bool.and_eq_true] using h
    obtain ⟨a1, a2⟩ := smI_both x h.1
    obtain ⟨b1, b2⟩ := smA_both xs h.2
    simp only [PyData.intsShortAll, PyData.showableAll, a1, a2, b1, b2, Bool.and_self, and_self]
end
/-- what its text asks -/
structure Rp (d : PyData) : Prop where
  sh : d.showable = true
  nd : d.hasDict = false
  ln : d.shown.length ≤ sizeLine
  dp : d.depth ≤ 32
theorem rp_of {d : PyData} (h1 : d.canLay0 = true) (h2 : smI d = true) (h3 : d.weight ≤ 2 ^ 20) (h4 : d.depth ≤ 32) : Rp d :=
  ⟨(smI_both d h2).2, PyData.hasDict_of_canLay d h1, PyData.shown_fits (B := 13) (by decide) (by decide) (PyData.leavesShort_of_canLay0 13 d h1 (smI_both d h2).1) h3, h4⟩
theorem wt_int {n : Nat} (h : n ≤ 1000) : PyData.weight (.int (n : Nat)) ≤ 10 := by
  simp only [PyData.weight]
  split
  · omega
  · have h2 : (n : Int).natAbs.log2 < 10 := by
      by_cases h0 : (n : Int).natAbs = 0
      · rw [h0]; decide
      · exact (Nat.log2_lt h0).mpr (by show n < 1024; omega)
    omega
theorem sm_int {n : Nat} (h : n ≤ 1000) : smI (.int (n : Nat)) = true := by
  simp only [smI, decide_eq_true_eq]
  show n < 10 ^ 12
  omega
/-! the log -/
theorem ev_facts {e : Evt} {n : Nat} (h : EvtOk n e) (hn : n ≤ 4) : (evD e).canLay0 = true ∧ smI (evD e) = true ∧ (evD e).weight ≤ 60 ∧ (evD e).depth ≤ 1 := by
  obtain ⟨t, p, w, xs⟩ := e
  have ht : t ≤ 60 := h.t
  have hp : p < n := h.p
  have hx : ∀ x ∈ xs, x ≤ 100 := h.xs
  have hl : xs.length ≤ 1 := h.len
  have w1 := wt_int (n := t) (by omega)
  have w2 := wt_int (n := p) (by omega)
  have s1 := sm_int (n := t) (by omega)
  have s2 := sm_int (n := p) (by omega)
  have ww : (PyData.str (wdS w)).weight ≤ 10 := by cases w <;> (simp only [PyData.weight]; decide +kernel)
  have wc : (PyData.str (wdS w)).canLay0 = true := by cases w <;> (simp only [PyData.canLay0]; decide +kernel)
  have ws : smI (PyData.str (wdS w)) = true := by simp only [smI]
  match xs, hl, hx with
  | [], _, _ =>
    simp only [evD, List.map_nil, PyData.canLay0, PyData.canLayAll0, smI, smA, PyData.depth, PyData.depthAll, Bool.and_true, Bool.true_and] at *
    refine ⟨wc, by rw [s1, s2]; rfl, ?_, by decide⟩
    show PyData.weightAll _ ≤ 60
    simp only [PyData.weightAll]
    omega
  | [x], _, hx =>
    have w3 := wt_int (n := x) (by have := hx x (List.mem_singleton.mpr rfl); omega)
    have s3 := sm_int (n := x) (by have := hx x (List.mem_singleton.mpr rfl); omega)
    simp only [evD, List.map_cons, List.map_nil, PyData.canLay0, PyData.canLayAll0, smI, smA, PyData.depth, PyData.depthAll, Bool.and_true, Bool.true_and] at *
    refine ⟨wc, by rw [s1, s2, s3]; rfl, ?_, by decide⟩
    show PyData.weightAll _ ≤ 60
    simp only [PyData.weightAll]
    omega
theorem log_facts {n : Nat} (hn : n ≤ 4) : ∀ {l : List Evt}, (∀ e ∈ l, EvtOk n e) → PyData.canLayAll0 (l.map evD) = true ∧ smA (l.map evD) = true ∧ PyData.weightAll (l.map evD) ≤ 61 * l.length ∧ PyData.depthAll (l.map evD) ≤ 1
  | [], _ => ⟨rfl, rfl, by simp [PyData.weightAll], by simp [PyData.depthAll]⟩
  | e :: l, h => by
    obtain ⟨a1, a2, a3, a4⟩ := ev_facts (h e (List.mem_cons_self ..)) hn
    obtain ⟨b1, b2, b3, b4⟩ := log_facts hn fun x hx => h x (List.mem_cons_of_mem _ hx)
    simp only [List.map_cons, PyData.canLayAll0, smA, PyData.weightAll, PyData.depthAll, a1, a2, b1, b2, Bool.and_self, List.length_cons]
    exact ⟨trivial, trivial, by omega, by omega⟩
theorem rp_log {n : Nat} (hn : n ≤ 4) {l : List Evt} (h : ∀ e ∈ l, EvtOk n e) (hl : l.length ≤ 3000) : Rp (.tuple (l.map evD)) ∧ Rp (.list [.tuple (l.map evD), .tuple (l.map evD)]) := by
  obtain ⟨a1, a2, a3, a4⟩ := log_facts hn h
  refine ⟨rp_of ?_ ?_ ?_ ?_, rp_of ?_ ?_ ?_ ?_⟩
  · simpa only [PyData.canLay0] using a1
  · simpa only [smI] using a2
  · simp only [PyData.weight]; omega
  · simp only [PyData.depth]; omega
  · simp only [PyData.canLay0, PyData.canLayAll0, a1, Bool.and_self]
  · simp only [smI, smA, a2, Bool.and_self]
  · simp only [PyData.weight, PyData.weightAll]; omega
  · simp only [PyData.depth, PyData.depthAll]; omega
/-! the model -/
mutual
def nI : Ins → Nat
  | .rep _ b => 1 + nL b
  | .fev b => 1 + nL b
  | .wait _ => 1
  | .take _ _ => 1
  | .give _ => 1
  | .rouse _ => 1
def nL : List Ins → Nat
  | [] => 0
  | i :: l => nI i + nL l
end
theorem nL_append : ∀ xs ys : List Ins, nL (xs ++ ys) = nL xs + nL ys
  | [], ys => by simp [nL]
  | x :: xs, ys => by simp only [List.cons_append, nL, nL_append xs ys]; omega
mutual
/-- its numbers are small -/
def smN : Ins → Bool
  | .wait d => decide (d ≤ 1000)
  | .take r k => decide (r ≤ 1000) && decide (k ≤ 1000)
  | .give r => decide (r ≤ 1000)
  | .rouse p => decide (p ≤ 1000)
  | .rep n b => decide (n ≤ 1000) && smNs b
  | .fev b => smNs b
def smNs : List Ins → Bool
  | [] => true
  | i :: l => smN i && smNs l
end
theorem smNs_append : ∀ xs ys : List Ins, smNs (xs ++ ys) = (smNs xs && smNs ys)
  | [], ys => by simp [smNs]
  | x :: xs, ys => by simp only [List.cons_append, smNs, smNs_append xs ys, Bool.and_assoc]
mutual
theorem ins_facts : ∀ i : Ins, smN i = true → smI (insD i) = true ∧ (insD i).weight + 1 ≤ 41 * nI i
  | .wait d, h => by
    have h : d ≤ 1000 := by simpa only [smN, decide_eq_true_eq] using h
    simp only [insD, smI, smA, nI, PyData.weight, PyData.weightAll]
    have := wt_int h
    have s := sm_int h
    simp only [smI, PyData.weight] at this s
    rw [s]
    exact ⟨rfl, by have : (Str.ofString "wait").cps.size = 4 := by decide +kernel
                   omega⟩
  | .take r k, h => by
    have h : r ≤ 1000 ∧ k ≤ 1000 := by simpa only [smN, Bool.and_eq_true, decide_eq_true_eq] using h
    simp only [insD, smI, smA, nI, PyData.weight, PyData.weightAll]
    have w1 := wt_int h.1
    have s1 := sm_int h.1
    have w2 := wt_int h.2
    have s2 := sm_int h.2
    simp only [smI, PyData.weight] at w1 s1 w2 s2
    rw [s1, s2]
    exact ⟨rfl, by have : (Str.ofString "take").cps.size = 4 := by decide +kernel
                   omega⟩
  | .give d, h => by
    have h : d ≤ 1000 := by simpa only [smN, decide_eq_true_eq] using h
    simp only [insD, smI, smA, nI, PyData.weight, PyData.weightAll]
    have := wt_int h
    have s := sm_int h
    simp only [smI, PyData.weight] at this s
    rw [s]
    exact ⟨rfl, by have : (Str.ofString "give").cps.size = 4 := by decide +kernel
                   omega⟩
  | .rouse d, h => by
    have h : d ≤ 1000 := by simpa only [smN, decide_eq_true_eq] using h
    simp only [insD, smI, smA, nI, PyData.weight, PyData.weightAll]
    have := wt_int h
    have s := sm_int h
    simp only [smI, PyData.weight] at this s
    rw [s]
    exact ⟨rfl, by have : (Str.ofString "rouse").cps.size = 5 := by decide +kernel
                   omega⟩
  | .rep n b, h => by
    have h : n ≤ 1000 ∧ smNs b = true := by simpa only [smN, Bool.and_eq_true, decide_eq_true_eq] using h
    obtain ⟨a1, a2⟩ := inss_facts b h.2
    simp only [insD, smI, smA, nI, PyData.weight, PyData.weightAll]
    have w1 := wt_int h.1
    have s1 := sm_int h.1
    simp only [smI, PyData.weight] at w1 s1
    rw [s1, a1]
    exact ⟨rfl, by have : (Str.ofString "repeat").cps.size = 6 := by decide +kernel
                   omega⟩
  | .fev b, h => by
    have h : smNs b = true := by simpa only [smN] using h
    obtain ⟨a1, a2⟩ := inss_facts b h
    simp only [insD, smI, smA, nI, PyData.weight, PyData.weightAll]
    rw [a1]
    exact ⟨rfl, by have : (Str.ofString "forever").cps.size = 7 := by decide +kernel
                   omega⟩
theorem inss_facts : ∀ l : List Ins, smNs l = true → smA (insDs l) = true ∧ PyData.weightAll (insDs l) ≤ 41 * nL l
  | [], _ => ⟨rfl, by simp [insDs, PyData.weightAll]⟩
  | i :: l, h => by
    have h : smN i = true ∧ smNs l = true := by simpa only [smNs, Bool.and_eq_true] using h
    obtain ⟨a1, a2⟩ := ins_facts i h.1
    obtain ⟨b1, b2⟩ := inss_facts l h.2
    have hn : 1 ≤ nI i := by cases i <;> simp only [nI] <;> omega
    simp only [insDs, smA, PyData.weightAll, nL, a1, b1, Bool.and_self]
    exact ⟨trivial, by omega⟩
end
end Ev
/-! What the law's generator makes, in plain Lean. -/
namespace Ev
open PySem
inductive Part (nr n : Nat) : List Ins → Prop
  | take {r k d : Nat} : r < nr → k < 4 → d < 6 → Part nr n [.take r k, .wait d, .give r]
  | rouse {p : Nat} : p < n → Part nr n [.rouse p]
  | wait {d : Nat} : d ≤ 8 → Part nr n [.wait d]
inductive Body (nr n : Nat) : Nat → List Ins → Prop
  | nil : Body nr n 0 []
  | more {m : Nat} {l x : List Ins} : Body nr n m l → Part nr n x → Body nr n (m + 1) (l ++ x)
/-- a piece of a script that holds no more units at its end than at its begin; q bounds its size -/
structure Pl (nr n f q : Nat) (l : List Ins) : Prop where
  ok : l.all (insOk nr n f) = true
  bal : ∀ r, r < nr → ∀ c, runC r l c = some c
  len : l.length ≤ q
  wt : wL l ≤ q
  sz : nL l ≤ q
  sm : smNs l = true
section
variable {nr n f g q q' : Nat} {l l' : List Ins}
theorem Pl.nil : Pl nr n f 0 [] := ⟨rfl, fun _ _ _ => rfl, Nat.le_refl _, Nat.le_refl _, Nat.le_refl _, rfl⟩
theorem Pl.up (h : Pl nr n f q l) (hf : f ≤ g) (hq : q ≤ q') : Pl nr n g q' l := ⟨all_mono hf h.ok, h.bal, Nat.le_trans h.len hq, Nat.le_trans h.wt hq, Nat.le_trans h.sz hq, h.sm⟩
theorem Pl.append (h : Pl nr n f q l) (h' : Pl nr n f q' l') : Pl nr n f (q + q') (l ++ l') := by
  refine ⟨by rw [List.all_append, h.ok, h'.ok]; rfl, fun r hr c => ?_, ?_, ?_, ?_, ?_⟩
  · rw [runC_append, h.bal r hr, Option.bind_some]; exact h'.bal r hr c
  · rw [List.length_append]; have := h.len; have := h'.len; omega
  · rw [wL_append]; have := h.wt; have := h'.wt; omega
  · rw [nL_append]; have := h.sz; have := h'.sz; omega
  · rw [smNs_append, h.sm, h'.sm]; rfl
theorem Part.pl (h : Part nr n l) (hr : nr ≤ 100) (hn : n ≤ 100) : Pl nr n f 6 l ∧ l ≠ [] := by
  cases h with
  | @take r k d h1 h2 h3 =>
    refine ⟨⟨?_, fun q hq c => ?_, by show 3 ≤ 6; omega, by show 2 + (2 + (2 + 0)) ≤ 6; omega, by show 1 + (1 + (1 + 0)) ≤ 6; omega, ?_⟩, List.cons_ne_nil _ _⟩
    · cases f <;> simp [insOk] <;> omega
    · simp only [runC, runI, Option.bind_some]
      by_cases e : r = q
      · rw [if_pos e, if_pos e, if_neg (by omega)]; simp
      · rw [if_neg e, if_neg e]; simp
    · simp [smNs, smN]; omega
  | @rouse p h1 =>
    refine ⟨⟨?_, fun q hq c => rfl, by show 1 ≤ 6; omega, by show 1 + 0 ≤ 6; omega, by show 1 + 0 ≤ 6; omega, ?_⟩, List.cons_ne_nil _ _⟩
    · cases f <;> simp [insOk] <;> omega
    · simp [smNs, smN]; omega
  | @wait d h1 =>
    refine ⟨⟨?_, fun q hq c => rfl, by show 1 ≤ 6; omega, by show 2 + 0 ≤ 6; omega, by show 1 + 0 ≤ 6; omega, ?_⟩, List.cons_ne_nil _ _⟩
    · cases f <;> simp [insOk] <;> omega
    · simp [smNs, smN]; omega
theorem Body.pl {m : Nat} (h : Body nr n m l) (hr : nr ≤ 100) (hn : n ≤ 100) : Pl nr n f (6 * m) l := by
  induction h with
  | nil => exact Pl.nil
  | more _ hp ih => exact (ih.append (hp.pl hr hn).1).up (Nat.le_refl _) (by omega)
theorem Body.ne {m : Nat} (h : Body nr n m l) (hm : 1 ≤ m) (hr : nr ≤ 100) (hn : n ≤ 100) : l ≠ [] := by
  cases h with
  | nil => omega
  | more _ hp => exact fun e => (hp.pl (f := 0) hr hn).2 (List.append_eq_nil_iff.mp e).2
theorem Pl.rep {t : Nat} (h : Pl nr n f q l) (hl : l ≠ []) (ht : t ≤ 5) (hq : q ≤ 100) : Pl nr n (f + 1) (6 + 5 * q) [.rep t l] := by
  have hm : t * (wL l + 1) ≤ 5 * (q + 1) := Nat.mul_le_mul ht (by have := h.wt; omega)
  refine ⟨?_, fun r hr c => ?_, by show 1 ≤ _; omega, ?_, ?_, ?_⟩
  · have h1 := h.len
    have h2 := h.ok
    have h3 : l.isEmpty = false := by cases l with
      | nil => exact absurd rfl hl
      | cons _ _ => rfl
    simp only [List.all_cons, List.all_nil, Bool.and_true, insOk, h2, h3]
    simp; omega
  · simp only [runC, runI]
    rw [if_pos (h.bal r hr c)]; rfl
  · show 1 + t * (wL l + 1) + 0 ≤ _; omega
  · show 1 + nL l + 0 ≤ _; have := h.sz; omega
  · simp only [smNs, smN, h.sm, Bool.and_true, decide_eq_true_eq]; omega
/-- what a generated script is -/
structure ScG (nr n : Nat) (s : List Ins) : Prop where
  ok : ScOk nr n s
  cst : cost s 0 ≤ 700
  sz : nL s ≤ 700
  sm : smNs s = true
theorem Pl.sc (h : Pl nr n 3 q l) (hq : q ≤ 600) : ScG nr n l := by
  have h1 := h.len
  have h2 := h.wt
  have h3 := h.sz
  refine ⟨⟨?_, by omega, fun b hb => ?_, fun r hr => h.bal r hr 0⟩, ?_, by omega, h.sm⟩
  · have := RestOk.append (nr := nr) (np := n) h.ok .nil
    rwa [List.append_nil] at this
  · have := List.all_eq_true.mp h.ok _ hb
    rw [insOk_nofev] at this; cases this
  · have := cost_append (nr := nr) (np := n) [] 0 h.ok
    rw [List.append_nil] at this
    rw [this]
    show wL l + 1 ≤ 700
    omega
theorem Pl.fev (h : Pl nr n 3 q l) (hq : q ≤ 100) (h' : Pl nr n 2 8 l') (hp : 1 ≤ pwL l') : ScG nr n (l ++ [.fev l']) := by
  have h1 := h.len
  have h2 := h.wt
  have h3 := h.sz
  have g1 := h'.len
  have g2 := h'.wt
  have g3 := h'.sz
  refine ⟨⟨RestOk.append h.ok (.fev ⟨h'.ok, hp⟩), ?_, fun b hb => ?_, fun r hr => ?_⟩, ?_, ?_, ?_⟩
  · rw [List.length_append]; show l.length + 1 ≤ 1000; omega
  · rcases List.mem_append.mp hb with hb | hb
    · have := List.all_eq_true.mp h.ok _ hb
      rw [insOk_nofev] at this; cases this
    · have e := List.mem_singleton.mp hb
      injection e with e; subst e; omega
  · rw [runC_append, h.bal r hr, Option.bind_some]
    simp [runC, runI, h'.bal r hr 0]
  · rw [cost_append (nr := nr) (np := n) (f := 3) _ _ h.ok]
    show wL l + (61 - (0 + pwL l)) * (wL l' + 1) ≤ 700
    have : (61 - (0 + pwL l)) * (wL l' + 1) ≤ 61 * 9 := Nat.mul_le_mul (by omega) (by omega)
    omega
  · rw [nL_append]; show nL l + (1 + nL l' + 0) ≤ 700; omega
  · rw [smNs_append, h.sm]; simp only [smNs, smN, h'.sm]; rfl
theorem wait_pl {d : Nat} (h : d ≤ 100) : Pl nr n f 2 [.wait d] := by
  refine ⟨?_, fun q hq c => rfl, by show 1 ≤ 2; omega, by show 2 + 0 ≤ 2; omega, by show 1 + 0 ≤ 2; omega, ?_⟩
  · cases f <;> simp [insOk] <;> omega
  · simp [smNs, smN]; omega
theorem pwL_append : ∀ xs ys : List Ins, pwL (xs ++ ys) = pwL xs + pwL ys
  | [], ys => by simp [pwL]
  | x :: xs, ys => by simp only [List.cons_append, pwL, pwL_append xs ys]; omega
theorem two_pl {a b k1 k2 d1 d2 x y : Nat} (ha : a < nr) (hb : b < nr) (h1 : k1 ≤ 9) (h2 : k2 ≤ 9) (h3 : d1 ≤ 100) (h4 : d2 ≤ 100) (hr : nr ≤ 100) (hxy : (x = a ∧ y = b) ∨ (x = b ∧ y = a)) :
    Pl nr n f 12 [.take a k1, .wait d1, .take b k2, .wait d2, .give x, .give y] := by
  refine ⟨?_, fun q hq c => ?_, by show 6 ≤ 12; omega, by show 2 + (2 + (2 + (2 + (2 + (2 + 0))))) ≤ 12; omega, by show 1 + (1 + (1 + (1 + (1 + (1 + 0))))) ≤ 12; omega, ?_⟩
  · cases f <;> simp [insOk] <;> omega
  · simp only [runC, runI, Option.bind_some]
    rcases hxy with ⟨rfl, rfl⟩ | ⟨rfl, rfl⟩ <;> by_cases e : x = q <;> by_cases e2 : y = q <;> simp [e, e2]
  · simp [smNs, smN]; omega
end
/-- what a generated model is -/
structure CfG (c : Cfg) : Prop where
  n1 : 1 ≤ c.n
  nLe : c.n ≤ 4
  nr1 : 1 ≤ c.nr
  nrLe : c.nr ≤ 3
  units : ∀ x ∈ c.res, 1 ≤ x.2 ∧ x.2 ≤ 3
  sc : ∀ s ∈ c.scripts, ScG c.nr c.n s
theorem CfG.fit {c : Cfg} (h : CfG c) : Fit c := ⟨h.n1, h.nLe, h.nr1, h.nrLe, h.units, fun s hs => (h.sc s hs).ok.rest, fun s hs => (h.sc s hs).ok.bal, fun s hs => (h.sc s hs).cst⟩
theorem CfG.mod {c : Cfg} (h : CfG c) : ModOk c := ⟨h.n1, h.nLe, h.nrLe, h.units, fun s hs => (h.sc s hs).ok⟩
theorem scs_facts {nr n : Nat} : ∀ {l : List (List Ins)}, (∀ s ∈ l, ScG nr n s) → PyData.canLayAll0 (l.map restD) = true ∧ smA (l.map restD) = true ∧ PyData.weightAll (l.map restD) ≤ 29000 * l.length ∧ PyData.depthAll (l.map restD) ≤ 8
  | [], _ => ⟨rfl, rfl, by simp [PyData.weightAll], by simp [PyData.depthAll]⟩
  | s :: l, h => by
    have hs := h s (List.mem_cons_self ..)
    obtain ⟨b1, b2, b3, b4⟩ := scs_facts fun x hx => h x (List.mem_cons_of_mem _ hx)
    obtain ⟨a1, a2⟩ := rest_lay hs.ok.rest
    obtain ⟨c1, c2⟩ := inss_facts s hs.sm
    have := hs.sz
    simp only [List.map_cons, PyData.canLayAll0, smA, PyData.weightAll, PyData.depthAll, restD, PyData.canLay0, smI, PyData.weight, PyData.depth, a1, b1, c1, b2, Bool.and_self, List.length_cons]
    exact ⟨trivial, trivial, by omega, by omega⟩
theorem res_facts : ∀ {l : List (Bool × Nat)}, (∀ x ∈ l, 1 ≤ x.2 ∧ x.2 ≤ 3) → PyData.canLayAll0 (l.map resD) = true ∧ smA (l.map resD) = true ∧ PyData.weightAll (l.map resD) ≤ 40 * l.length ∧ PyData.depthAll (l.map resD) ≤ 1
  | [], _ => ⟨rfl, rfl, by simp [PyData.weightAll], by simp [PyData.depthAll]⟩
  | (b, u) :: l, h => by
    have hu : 1 ≤ u ∧ u ≤ 3 := h (b, u) (List.mem_cons_self ..)
    obtain ⟨b1, b2, b3, b4⟩ := res_facts fun x hx => h x (List.mem_cons_of_mem _ hx)
    have w1 := wt_int (n := u) (by omega)
    have s1 := sm_int (n := u) (by omega)
    have d1 : (discD b).canLay0 = true := by cases b <;> (simp only [discD, PyData.canLay0]; decide +kernel)
    have d2 : (discD b).weight ≤ 10 := by cases b <;> (simp only [discD, PyData.weight]; decide +kernel)
    have d3 : smI (discD b) = true := by simp only [discD, smI]
    have d4 : (discD b).depth = 0 := by simp only [discD, PyData.depth]
    have e1 : (resD (b, u)).canLay0 = true := by simp only [resD, PyData.canLay0, PyData.canLayAll0, d1, Bool.and_self]
    have e2 : smI (resD (b, u)) = true := by simp only [resD, smI, smA, d3, Bool.true_and, Bool.and_true]; simpa only [smI] using s1
    have e3 : (resD (b, u)).weight ≤ 30 := by simp only [resD, PyData.weight, PyData.weightAll]; simp only [PyData.weight] at w1; omega
    have e4 : (resD (b, u)).depth ≤ 1 := by simp only [resD, PyData.depth, PyData.depthAll, d4]; decide
    simp only [List.map_cons, PyData.canLayAll0, smA, PyData.weightAll, PyData.depthAll, e1, e2, b1, b2, Bool.and_self, List.length_cons]
    exact ⟨trivial, trivial, by omega, by omega⟩
theorem CfG.rp {c : Cfg} (h : CfG c) : Rp (cfgD c) := by
  obtain ⟨a1, a2, a3, a4⟩ := scs_facts h.sc
  obtain ⟨b1, b2, b3, b4⟩ := res_facts h.units
  have h1 : c.scripts.length ≤ 4 := h.nLe
  have h2 : c.res.length ≤ 3 := h.nrLe
  refine rp_of ?_ ?_ ?_ ?_
  · simp only [cfgD, PyData.canLay0, PyData.canLayAll0, a1, b1, Bool.and_self]
  · simp only [cfgD, smI, smA, a2, b2, Bool.and_self]
  · simp only [cfgD, PyData.weight, PyData.weightAll]; omega
  · simp only [cfgD, PyData.depth, PyData.depthAll]; omega
end Ev
namespace Ev
open PySem PySem.Spec PyProof.Rows L2
variable {w : World} {K : PySem.W.Frag} {mg : Str → Option Value} {base : Heap} {A : Adr}

/-- the law's pen lies at S.ad .ag -/
structure GS (F : Hp) (S : Sto) (H : Hp) : Prop where
  ok : SOk F S H
  pen : ∃ a b c : Int, S.ct .ag = some (.lst [.int a, .int b, .int c]) ∧ -(2 ^ 64) < b ∧ b < 2 ^ 64
structure FixG (S S' : Sto) : Prop where
  ad : ∀ x, S'.ad x = S.ad x
  ct : ∀ x, x ≠ .ag → S'.ct x = S.ct x
theorem FixG.refl (S : Sto) : FixG S S := ⟨fun _ => rfl, fun _ _ => rfl⟩
theorem FixG.trans {S S' S'' : Sto} (h : FixG S S') (k : FixG S' S'') : FixG S S'' := ⟨fun x => (k.ad x).trans (h.ad x), fun x hx => (k.ct x hx).trans (h.ct x hx)⟩
section
variable {F H H' : Hp} {S : Sto} {p : Addr}
theorem GS.same (g : GS F S H) (s : Same H H') : GS F S H' := ⟨g.ok.same s, g.pen⟩
theorem GS.frz (g : GS F S H) (n : H p = none) (o : HO) : GS (upd F p o) S (upd H p o) := ⟨g.ok.frz n o, g.pen⟩
theorem GS.up (g : GS F S H) (n : H p = none) (o : HO) : Same F (upd F p o) := same_upd (g.ok.fresh n)
theorem GS.put (g : GS F S H) {a b c : Int} (h1 : -(2 ^ 64) < b) (h2 : b < 2 ^ 64) : ∃ S', GS F S' (upd H (S.ad .ag) (.lst [.int a, .int b, .int c])) ∧ FixG S S' ∧ S'.ct .ag = some (.lst [.int a, .int b, .int c]) := by
  obtain ⟨_, _, _, e, _⟩ := g.pen
  exact ⟨S.put .ag (.lst [.int a, .int b, .int c]), ⟨g.ok.put e _, a, b, c, Sto.put_eq _ _ _, h1, h2⟩, ⟨fun _ => rfl, fun x hx => Sto.put_ne _ _ hx⟩, Sto.put_eq _ _ _⟩
theorem GS.cat (P : GS F S H) {x y : Addr} {xs ys : List V} {d1 d2 : List PyData} {Q : VK} (ha : SqT K F x xs) (hb : SqT K F y ys) (dx : DpAll K F xs d1) (dy : DpAll K F ys d2)
    (hz : xs.length + ys.length ≤ 10000) (q : ∀ v F' H', Same F F' → GS F' S H' → Dp K F' (.ref v) (.tuple (d1 ++ d2)) → Q (.ref v) H') : rCatA K (.ref x) (.ref y) H Q := by
  have big : (10000 : Nat) ≤ sizeLine := by decide
  refine ⟨x, y, xs, ys, rfl, rfl, same_T P.ok.sm ha, same_T P.ok.sm hb, by omega, fun h => ?_, fun h1 h2 => ?_, fun h1 h2 p hp => ?_⟩
  · subst h
    cases dx
    exact q _ _ _ (Same.refl _) P (.tup hb dy)
  · subst h2
    cases dy
    exact q _ _ _ (Same.refl _) P (.tup ha (by rw [List.append_nil]; exact dx))
  · exact q _ _ _ (P.up hp _) (P.frz hp _) (.tup (SqT.of upd_same) (dpa_append (dpa_same (P.up hp _) dx) (dpa_same (P.up hp _) dy)))
theorem GS.cat2 (P : GS F S H) {x y : Addr} {l1 l2 : List Ins} {Q : VK} (ha : Dp K F (.ref x) (.tuple (insDs l1))) (hb : Dp K F (.ref y) (.tuple (insDs l2)))
    (hz : l1.length + l2.length ≤ 10000) (q : ∀ v F' H', Same F F' → GS F' S H' → Dp K F' (.ref v) (.tuple (insDs (l1 ++ l2))) → Q (.ref v) H') : rCatA K (.ref x) (.ref y) H Q := by
  obtain ⟨_, xs, e, hs, hx⟩ := dp_tupI ha
  cases e
  obtain ⟨_, ys, e, hs2, hy⟩ := dp_tupI hb
  cases e
  refine P.cat hs hs2 hx hy (by rw [dpa_length hx, dpa_length hy, insDs_len, insDs_len]; exact hz) fun v F' H' s P' d => q v F' H' s P' ?_
  rw [insDs_append]; exact d
end
def sp__law_draw (K : PySem.W.Frag) (A : Adr) : Sp0 := fun vs H Q => ∃ (F : Hp) (S : Sto) (n : Nat), vs = [.ref (S.ad .ag), .int n] ∧ GS F S H ∧ 1 ≤ n ∧ n ≤ 10000 ∧
  ∀ (v : Nat) S' H', v < n → FixG S S' → GS F S' H' → Q (.int v) H'
theorem ok__law_draw (T : Txt K mg w A) : Fn PP w K mg base 1 A._law_draw (sp__law_draw K A) := by
  refine T.d__law_draw.go sc__law_draw fun cdv Ar outer s H vs Q hr h => ?_
  have nd := sc__law_draw.nd
  obtain ⟨F, S, n, rfl, P, hn1, hn2, q⟩ := h
  refine ⟨_, (pss_cons (ps_if (pt_cm op_gt (pe_ix (ixL K) (pv 0) pe_int (fun _ _ => rfl)) pe_int)
        (pss_cons (ps_set (i := 2) nd rfl (Or.inl rfl) (pe_op op_mod (pe_ix (ixL K) (pv 0) pe_int (fun _ _ => rfl)) (pv 1)))
        (pss_cons (ps_asg (pe_op op_fdiv (pe_ix (ixL K) (pv 0) pe_int (fun _ _ => rfl)) (pv 1)) (pg_sub (pv 0) pe_int set_list (fun _ => rfl)))
        (pss_one (ps_ret (pv 2)))))
        pss_nil)
      (pss_cons (ps_asg (pe_op op_add (pe_ix (ixL K) (pv 0) pe_int (fun _ _ => rfl)) pe_int) (pg_sub (pv 0) pe_int set_list (fun _ => rfl)))
      (pss_cons (ps_asg (pe_op op_mod (pe_op op_add (pe_op op_add (pe_op op_mul (pe_ix (ixL K) (pv 0) pe_int (fun _ _ => rfl)) pe_int) (pe_op op_mul pe_int (pe_ix (ixL K) (pv 0) pe_int (fun _ _ => rfl)))) pe_int) pe_int) (pg_sub (pv 0) pe_int set_list (fun _ => rfl)))
      (pss_cons (ps_set (i := 3) nd rfl (Or.inl rfl) (pe_op op_mod (pe_op op_add (pe_op op_add (pe_op op_mul (pe_ix (ixL K) (pv 0) pe_int (fun _ _ => rfl)) (pe_ix (ixL K) (pv 0) pe_int (fun _ _ => rfl))) (pe_op op_mul pe_int (pe_ix (ixL K) (pv 0) pe_int (fun _ _ => rfl)))) pe_int) pe_int))
      (pss_cons (ps_set (i := 3) nd rfl (Or.inl rfl) (pe_op op_mod (pe_op op_add (pe_op op_mul (pv 3) (pv 3)) (pe_op op_mul pe_int (pv 3))) pe_int))
      (pss_one (ps_ret (pe_op op_mod (pe_op op_fdiv (pv 3) pe_int) (pv 1))))))))), ?_⟩
  obtain ⟨a, b, c, ep, hb1, hb2⟩ := P.pen
  have hp := P.ok.liv _ _ ep
  have hn0 : (0 : Int) < (n : Int) := by omega
  have fin : ∀ (x : Int) S' H', FixG S S' → GS F S' H' → Q (.int (x % (n : Int))) H' := fun x S' H' X G => by
    have h0 : 0 ≤ x % (n : Int) := Int.emod_nonneg _ (by omega)
    have h1 : x % (n : Int) < n := Int.emod_lt_of_pos _ hn0
    have e : x % (n : Int) = ((x % (n : Int)).toNat : Nat) := by omega
    rw [e]
    exact q _ S' H' (by omega) X G
  refine ⟨_, rfl, _, _, _, _, rfl, rfl, SqL.of hp, at0, _, _, rfl, rfl, _, rfl, ?_⟩
  refine ifB (fun ha => ?_) fun ha => ?_
  · refine ⟨_, rfl, _, _, _, _, rfl, rfl, SqL.of hp, at0, _, rfl, _, _, rfl, rfl, hn0, ?_⟩
    refine ⟨_, rfl, _, _, _, _, rfl, rfl, SqL.of hp, at0, _, rfl, _, _, rfl, rfl, ⟨hn0, by omega⟩, _, rfl, _, _, _, 0, rfl, rfl, hp, rfl, ?_⟩
    obtain ⟨S1, P1, X1, _⟩ := P.put (a := a / n) (c := c) hb1 hb2
    exact ⟨_, rfl, fin a _ _ X1 P1⟩
  · refine ⟨_, rfl, _, _, _, _, rfl, rfl, SqL.of hp, at2, _, _, rfl, rfl, _, rfl, _, _, _, 2, rfl, rfl, hp, rfl, ?_⟩
    obtain ⟨S1, P1, X1, e1⟩ := P.put (a := a) (c := c + 1) hb1 hb2
    have hp1 := P1.ok.liv _ _ e1
    rw [X1.ad] at hp1
    refine ⟨_, rfl, _, _, _, _, rfl, rfl, SqL.of hp1, at1, _, _, rfl, rfl, .inr ⟨by decide, by decide⟩, _, rfl, _, _, _, _, rfl, rfl, SqL.of hp1, at2, _, _, rfl, rfl, .inl ⟨by decide, by decide⟩, _, _, rfl, rfl, _, _, rfl, rfl, _, _, rfl, rfl, (by show (0 : Int) < 2147483647; decide), _, rfl, _, _, _, 1, rfl, rfl, hp1, rfl, ?_⟩
    have hm0 : 0 ≤ (b * 48271 + 1009 * (c + 1) + 7) % 2147483647 := Int.emod_nonneg _ (by decide)
    have hm1 : (b * 48271 + 1009 * (c + 1) + 7) % 2147483647 < 2147483647 := Int.emod_lt_of_pos _ (by decide)
    obtain ⟨S2, P2, X2, e2⟩ := P1.put (a := a) (b := (b * 48271 + 1009 * (c + 1) + 7) % 2147483647) (c := c + 1) (by omega) (by omega)
    have hp2 := P2.ok.liv _ _ e2
    simp only [X2.ad, X1.ad] at hp2 P2
    obtain ⟨b2, eb2⟩ : ∃ b2, b2 = (b * 48271 + 1009 * (c + 1) + 7) % 2147483647 := ⟨_, rfl⟩
    rw [← eb2] at hm0 hm1 hp2
    have hp3 : upd (upd H (S.ad .ag) (.lst [.int a, .int b, .int (c + 1)])) (S.ad .ag) (.lst [.int a, .int ((b * 48271 + 1009 * (c + 1) + 7) % 2147483647), .int (c + 1)]) (S.ad .ag) = some (.lst [.int a, .int b2, .int (c + 1)]) := by rw [eb2]; exact upd_same
    have n1 : 0 ≤ (b2 * b2 + 69621 * b2 + 11) % 2147483629 := Int.emod_nonneg _ (by decide)
    have n2 : (b2 * b2 + 69621 * b2 + 11) % 2147483629 < 2147483629 := Int.emod_lt_of_pos _ (by decide)
    refine ⟨_, rfl, _, _, _, _, rfl, rfl, SqL.of hp3, at1, _, rfl, _, _, _, _, rfl, rfl, SqL.of hp3, at1, _, _, rfl, rfl, .inl ⟨by omega, by omega⟩, _, rfl, _, _, _, _, rfl, rfl, SqL.of hp3, at1, _, _, rfl, rfl, .inl ⟨by decide, by decide⟩, _, _, rfl, rfl, _, _, rfl, rfl, _, _, rfl, rfl, (by show (0 : Int) < 2147483629; decide), ?_⟩
    refine ⟨_, rfl, _, rfl, _, _, rfl, rfl, .inl ⟨by omega, by omega⟩, _, rfl, _, _, rfl, rfl, .inl ⟨by decide, by decide⟩, _, _, rfl, rfl, _, _, rfl, rfl, (by show (0 : Int) < 2147483587; decide), ?_⟩
    exact ⟨_, rfl, _, _, rfl, rfl, ⟨by decide, by decide⟩, _, rfl, _, _, rfl, rfl, hn0, fin _ _ _ (X1.trans X2) P2⟩
def sp__law_pick (K : PySem.W.Frag) (A : Adr) : Sp0 := fun vs H Q => ∃ (F : Hp) (S : Sto) (l : Addr) (xs : List V), vs = [.ref (S.ad .ag), .ref l] ∧ GS F S H ∧ SqL K F l xs ∧ 1 ≤ xs.length ∧ xs.length ≤ 1000 ∧
  ∀ v S' H', v ∈ xs → FixG S S' → GS F S' H' → Q v H'
/-- _law_pick -/
theorem ok__law_pick (T : Txt K mg w A) : Fn PP w K mg base 2 A._law_pick (sp__law_pick K A) := by
  refine T.d__law_pick.go sc__law_pick fun cdv Ar outer s H vs Q hr h => ?_
  have nd := sc__law_pick.nd
  obtain ⟨F, S, l, xs, rfl, P, hl, h1, h2, q⟩ := h
  refine ⟨_, (pss_one (ps_ret (pe_ix (ixL K) (pv 1) (pe_f (ok__law_draw T) (hr.mono (by decide)) (by rfl) T.g__law_draw T.d__law_draw.kp (pa_cons (pv 0) (pa_cons (pe_callB (lenK K) (by rfl) T.b_len (by decide +kernel) (pa_cons (pv 1) pa_nil)) pa_nil))) (fun _ _ => rfl)))), ?_⟩
  refine ⟨_, rfl, _, rfl, _, rfl, _, _, rfl, .inl (P.ok.sm.seq hl), F, S, xs.length, rfl, P, h1, by omega, fun v S' H' hv X P' => ?_⟩
  exact ⟨_, _, _, _, rfl, rfl, P'.ok.sm.seq hl, atI_nat (List.getElem?_eq_getElem hv), q _ _ _ (List.getElem_mem hv) X P'⟩
theorem ins_dp {H : Hp} {v : V} {i : Ins} {xs : List PyData} {a : Addr} {vs : List V} (h : insD i = .tuple xs) (hs : SqT K H a vs) (hx : DpAll K H vs xs) : Dp K H (.ref a) (insD i) := by rw [h]; exact .tup hs hx
def wordsV : List V := [.str "take", .str "take", .str "take", .str "wait", .str "rouse"]
structure Env4 (K : PySem.W.Frag) (F : Hp) (cn wl : Addr) (nr n : Nat) : Prop where
  cnt : SqT K F cn [.int nr, .int 0, .int 0, .int n]
  wds : SqL K F wl wordsV
  nr1 : 1 ≤ nr
  nr3 : nr ≤ 3
  n1 : 1 ≤ n
  n4 : n ≤ 4
theorem Env4.up {F F' : Hp} {cn wl : Addr} {nr n : Nat} (h : Env4 K F cn wl nr n) (s : Same F F') : Env4 K F' cn wl nr n := ⟨same_T s h.cnt, s.seq h.wds, h.nr1, h.nr3, h.n1, h.n4⟩
def sp__law_part (K : PySem.W.Frag) (A : Adr) : Sp0 := fun vs H Q => ∃ (F : Hp) (S : Sto) (cn wl : Addr) (nr n : Nat), vs = [.ref (S.ad .ag), .ref cn, .ref wl] ∧ GS F S H ∧ Env4 K F cn wl nr n ∧
  ∀ v l F' S' H', Part nr n l → Same F F' → FixG S S' → GS F' S' H' → Dp K F' (.ref v) (.tuple (insDs l)) → Q (.ref v) H'
/-- _law_part -/
theorem ok__law_part (T : Txt K mg w A) : Fn PP w K mg base 3 A._law_part (sp__law_part K A) := by
  refine T.d__law_part.go sc__law_part fun cdv Ar outer s H vs Q hr h => ?_
  have nd := sc__law_part.nd
  obtain ⟨F, S, cn, wl, nr, n, rfl, P, E, q⟩ := h
  refine ⟨_, (pss_cons (ps_asg (pv 1) (pgT K (n := 4) rfl (pgs_cons (pg_name (i := 3) nd rfl (Or.inl rfl)) (pgs_cons (pg_name (i := 4) nd rfl (Or.inl rfl)) (pgs_cons (pg_name (i := 5) nd rfl (Or.inl rfl)) (pgs_cons (pg_name (i := 6) nd rfl (Or.inl rfl)) pgs_nil))))))
      (pss_cons (ps_set (i := 7) nd rfl (Or.inl rfl) (pe_f (ok__law_pick T) (hr.mono (by decide)) (by rfl) T.g__law_pick T.d__law_pick.kp (pa_cons (pv 0) (pa_cons (pv 2) pa_nil))))
      (pss_cons (ps_if (PW.pt (pw_and (pt_cm op_eq (pv 7) pe_str) (pw_and1 (pt_cm op_gt (pv 3) pe_int))))
        (pss_cons (ps_par (i := 8) (j := 9) rfl nd rfl rfl (by decide) rfl rfl (pa_cons (pe_f (ok__law_draw T) (hr.mono (by decide)) (by rfl) T.g__law_draw T.d__law_draw.kp (pa_cons (pv 0) (pa_cons (pv 3) pa_nil))) (pa_cons (pe_f (ok__law_draw T) (hr.mono (by decide)) (by rfl) T.g__law_draw T.d__law_draw.kp (pa_cons (pv 0) (pa_cons pe_int pa_nil))) pa_nil)) rfl)
        (pss_one (ps_ret (pe_tup (pa_cons (pe_tup (pa_cons pe_str (pa_cons (pv 8) (pa_cons (pv 9) pa_nil)))) (pa_cons (pe_tup (pa_cons pe_str (pa_cons (pe_f (ok__law_draw T) (hr.mono (by decide)) (by rfl) T.g__law_draw T.d__law_draw.kp (pa_cons (pv 0) (pa_cons pe_int pa_nil))) pa_nil))) (pa_cons (pe_tup (pa_cons pe_str (pa_cons (pv 8) pa_nil))) pa_nil)))))))
        pss_nil)
      (pss_cons (ps_if (PW.pt (pw_and (pt_cm op_eq (pv 7) pe_str) (pw_and1 (pt_cm op_gt (pv 4) pe_int))))
        (pss_one (ps_ret (pe_tup (pa_cons (pe_tup (pa_cons pe_str (pa_cons (pe_f (ok__law_draw T) (hr.mono (by decide)) (by rfl) T.g__law_draw T.d__law_draw.kp (pa_cons (pv 0) (pa_cons (pv 4) pa_nil))) (pa_cons (pe_f (ok__law_draw T) (hr.mono (by decide)) (by rfl) T.g__law_draw T.d__law_draw.kp (pa_cons (pv 0) (pa_cons pe_int pa_nil))) pa_nil)))) pa_nil))))
        pss_nil)
      (pss_cons (ps_if (PW.pt (pw_and (pt_cm op_eq (pv 7) pe_str) (pw_and1 (pt_cm op_gt (pv 4) pe_int))))
        (pss_one (ps_ret (pe_tup (pa_cons (pe_tup (pa_cons pe_str (pa_cons (pe_f (ok__law_draw T) (hr.mono (by decide)) (by rfl) T.g__law_draw T.d__law_draw.kp (pa_cons (pv 0) (pa_cons (pv 4) pa_nil))) pa_nil))) pa_nil))))
        pss_nil)
      (pss_cons (ps_if (PW.pt (pw_and (pt_cm (opIn K) (pv 7) (pe_tup (pa_cons pe_str (pa_cons pe_str (pa_cons pe_str pa_nil))))) (pw_and1 (pt_cm op_gt (pv 5) pe_int))))
        (pss_one (ps_ret (pe_tup (pa_cons (pe_tup (pa_cons (pv 7) (pa_cons (pe_f (ok__law_draw T) (hr.mono (by decide)) (by rfl) T.g__law_draw T.d__law_draw.kp (pa_cons (pv 0) (pa_cons (pv 5) pa_nil))) pa_nil))) pa_nil))))
        pss_nil)
      (pss_cons (ps_if (pt_cm op_eq (pv 7) pe_str)
        (pss_one (ps_ret (pe_tup (pa_cons (pe_tup (pa_cons pe_str (pa_cons (pe_f (ok__law_draw T) (hr.mono (by decide)) (by rfl) T.g__law_draw T.d__law_draw.kp (pa_cons (pv 0) (pa_cons (pv 6) pa_nil))) pa_nil))) pa_nil))))
        pss_nil)
      (pss_cons (ps_if (pt_cm op_eq (pv 7) pe_str)
        (pss_one (ps_ret (pe_tup (pa_cons (pe_tup (pa_cons pe_str (pa_cons (pe_f (ok__law_draw T) (hr.mono (by decide)) (by rfl) T.g__law_draw T.d__law_draw.kp (pa_cons (pv 0) (pa_cons pe_int pa_nil))) pa_nil))) pa_nil))))
        pss_nil)
      (pss_one (ps_ret (pe_tup (pa_cons (pe_tup (pa_cons pe_str (pa_cons (pe_f (ok__law_pick T) (hr.mono (by decide)) (by rfl) T.g__law_pick T.d__law_pick.kp (pa_cons (pv 0) (pa_cons (pe_lst (pa_cons pe_int (pa_cons pe_int (pa_cons pe_int (pa_cons pe_int (pa_cons pe_int (pa_cons pe_int (pa_cons pe_int pa_nil)))))))) pa_nil))) pa_nil))) pa_nil)))))))))))), ?_⟩
  have e1 := E.nr1
  have e2 := E.nr3
  have e3 := E.n1
  have e4 := E.n4
  refine ⟨_, rfl, cn, _, rfl, same_T P.ok.sm E.cnt, rfl, _, _, rfl, _, _, rfl, _, _, rfl, _, _, rfl, rfl, ?_⟩
  refine ⟨_, rfl, _, rfl, F, S, wl, wordsV, rfl, P, E.wds, by decide, by decide, fun v S1 H1 hv X1 P1 => ?_⟩
  have hv3 : v = .str "take" ∨ v = .str "wait" ∨ v = .str "rouse" := by
    have : v ∈ [V.str "take", .str "take", .str "take", .str "wait", .str "rouse"] := hv
    simp only [List.mem_cons, List.not_mem_nil, or_false] at this
    rcases this with h | h | h | h | h
    · exact .inl h
    · exact .inl h
    · exact .inl h
    · exact .inr (.inl h)
    · exact .inr (.inr h)
  rcases hv3 with rfl | rfl | rfl
  · skip
    refine ⟨_, rfl, rfl, _, rfl, ?_⟩
    refine ifB' (by rw [dstr]; decide) ?_
    refine ⟨_, rfl, _, _, rfl, rfl, _, rfl, ?_⟩
    refine ifB' (decide_eq_true (by omega)) ?_
    refine ⟨_, rfl, _, rfl, F, S1, nr, by rw [X1.ad], P1, e1, by omega, fun r S2 H2 hr2 X2 P2 => ?_⟩
    refine ⟨_, rfl, F, S2, 4, by rw [X2.ad, X1.ad]; rfl, P2, by decide, by decide, fun k S3 H3 hk3 X3 P3 => ?_⟩
    refine ⟨_, _, rfl, ?_⟩
    refine ⟨_, rfl, _, rfl, (by show 3 ≤ sizeLine; decide), fun e5 n5 => ?_⟩
    have P5 := P3.frz n5 (.tup [V.str "take", V.int r, V.int k])
    have u5 := P3.up n5 (.tup [V.str "take", V.int r, V.int k])
    refine ⟨_, rfl, _, S3, 6, by rw [X3.ad, X2.ad, X1.ad]; rfl, P5, by decide, by decide, fun d S6 H6 hd6 X6 P6 => ?_⟩
    refine ⟨(by show 2 ≤ sizeLine; decide), fun e7 n7 => ?_⟩
    have P7 := P6.frz n7 (.tup [V.str "wait", V.int d])
    have u7 := P6.up n7 (.tup [V.str "wait", V.int d])
    refine ⟨_, rfl, (by show 2 ≤ sizeLine; decide), fun e8 n8 => ?_⟩
    have P8 := P7.frz n8 (.tup [V.str "give", V.int r])
    have u8 := P7.up n8 (.tup [V.str "give", V.int r])
    refine ⟨(by show 3 ≤ sizeLine; decide), fun e9 n9 => ?_⟩
    have P9 := P8.frz n9 (.tup [V.ref e5, V.ref e7, V.ref e8])
    have u9 := P8.up n9 (.tup [V.ref e5, V.ref e7, V.ref e8])
    refine q _ _ _ _ _ (.take hr2 hk3 hd6) (u5.trans (u7.trans (u8.trans u9))) (X1.trans (X2.trans (X3.trans X6))) P9 (.tup (SqT.of upd_same) ?_)
    simp only [insDs]
    refine .cons (dp_same (u7.trans (u8.trans u9)) ?_) (.cons (dp_same (u8.trans u9) ?_) (.cons (dp_same u9 ?_) .nil))
    · simp only [insD]; exact .tup (SqT.of upd_same) (.cons (.str _) (.cons (.int _) (.cons (.int _) .nil)))
    · simp only [insD]; exact .tup (SqT.of upd_same) (.cons (.str _) (.cons (.int _) .nil))
    · simp only [insD]; exact .tup (SqT.of upd_same) (.cons (.str _) (.cons (.int _) .nil))
  · skip
    refine ⟨_, rfl, rfl, _, rfl, ?_⟩
    refine ifN' (by rw [dstr]; decide) ?_
    refine ifN' rfl ?_
    refine ⟨_, rfl, rfl, _, rfl, ?_⟩
    refine ifN' (by rw [dstr]; decide) ?_
    refine ifN' rfl ?_
    refine ⟨_, rfl, rfl, _, rfl, ?_⟩
    refine ifN' (by rw [dstr]; decide) ?_
    refine ifN' rfl ?_
    refine ⟨_, rfl, (by show 3 ≤ sizeLine; decide), fun e5 n5 => ?_⟩
    have P1 := P1.same (same_upd n5 (o := .tup [V.str "pass", V.str "open", V.str "shut"]))
    refine ⟨_, _, rfl, .inr (SqT.of upd_same), rfl, rfl, _, rfl, ?_⟩
    refine ifN' (by decide) ?_
    refine ifN' rfl ?_
    refine ⟨_, rfl, rfl, _, rfl, ?_⟩
    refine ifN' (by rw [dstr]; decide) ?_
    refine ⟨_, rfl, rfl, _, rfl, ?_⟩
    refine ifN' (by rw [dstr]; decide) ?_
    refine ⟨_, rfl, (by show 7 ≤ sizeLine; decide), fun l6 n6 => ?_⟩
    have P6 := P1.frz n6 (.lst [V.int 0, V.int 1, V.int 1, V.int 2, V.int 3, V.int 5, V.int 8])
    have u6 := P1.up n6 (.lst [V.int 0, V.int 1, V.int 1, V.int 2, V.int 3, V.int 5, V.int 8])
    refine ⟨_, S1, l6, _, by rw [X1.ad], P6, SqL.of upd_same, by show 1 ≤ 7; decide, by show 7 ≤ 1000; decide, fun v S7 H7 hv7 X7 P7 => ?_⟩
    obtain ⟨d, rfl, hd⟩ : ∃ d : Nat, v = .int (d : Nat) ∧ d ≤ 8 := by
      simp only [List.mem_cons, List.not_mem_nil, or_false] at hv7
      rcases hv7 with h | h | h | h | h | h | h
      · exact ⟨0, h, by omega⟩
      · exact ⟨1, h, by omega⟩
      · exact ⟨1, h, by omega⟩
      · exact ⟨2, h, by omega⟩
      · exact ⟨3, h, by omega⟩
      · exact ⟨5, h, by omega⟩
      · exact ⟨8, h, by omega⟩
    refine ⟨(by show 2 ≤ sizeLine; decide), fun e8 n8 => ⟨(by show 1 ≤ sizeLine; decide), fun e9 n9 => ?_⟩⟩
    have P8 := P7.frz n8 (.tup [V.str "wait", V.int d])
    have u8 := P7.up n8 (.tup [V.str "wait", V.int d])
    have P9 := P8.frz n9 (.tup [V.ref e8])
    have u9 := P8.up n9 (.tup [V.ref e8])
    refine q _ _ _ _ _ (.wait hd) (u6.trans (u8.trans u9)) (X1.trans X7) P9 (.tup (SqT.of upd_same) ?_)
    simp only [insDs]
    refine .cons (dp_same u9 ?_) .nil
    simp only [insD]; exact .tup (SqT.of upd_same) (.cons (.str _) (.cons (.int _) .nil))
  · skip
    refine ⟨_, rfl, rfl, _, rfl, ?_⟩
    refine ifN' (by rw [dstr]; decide) ?_
    refine ifN' rfl ?_
    refine ⟨_, rfl, rfl, _, rfl, ?_⟩
    refine ifN' (by rw [dstr]; decide) ?_
    refine ifN' rfl ?_
    refine ⟨_, rfl, rfl, _, rfl, ?_⟩
    refine ifN' (by rw [dstr]; decide) ?_
    refine ifN' rfl ?_
    refine ⟨_, rfl, (by show 3 ≤ sizeLine; decide), fun e5 n5 => ?_⟩
    have P1 := P1.same (same_upd n5 (o := .tup [V.str "pass", V.str "open", V.str "shut"]))
    refine ⟨_, _, rfl, .inr (SqT.of upd_same), rfl, rfl, _, rfl, ?_⟩
    refine ifN' (by decide) ?_
    refine ifN' rfl ?_
    refine ⟨_, rfl, rfl, _, rfl, ?_⟩
    refine ifB' (by rw [dstr]; decide) ?_
    refine ⟨_, rfl, _, rfl, F, S1, n, by rw [X1.ad], P1, e3, by omega, fun p S7 H7 hp7 X7 P7 => ?_⟩
    refine ⟨(by show 2 ≤ sizeLine; decide), fun e8 n8 => ⟨(by show 1 ≤ sizeLine; decide), fun e9 n9 => ?_⟩⟩
    have P8 := P7.frz n8 (.tup [V.str "rouse", V.int p])
    have u8 := P7.up n8 (.tup [V.str "rouse", V.int p])
    have P9 := P8.frz n9 (.tup [V.ref e8])
    have u9 := P8.up n9 (.tup [V.ref e8])
    refine q _ _ _ _ _ (.rouse hp7) (u8.trans u9) (X1.trans X7) P9 (.tup (SqT.of upd_same) ?_)
    simp only [insDs]
    refine .cons (dp_same u9 ?_) .nil
    simp only [insD]; exact .tup (SqT.of upd_same) (.cons (.str _) (.cons (.int _) .nil))
def sp__law_body (K : PySem.W.Frag) (A : Adr) : Sp0 := fun vs H Q => ∃ (F : Hp) (S : Sto) (cn wl : Addr) (nr n m : Nat), vs = [.ref (S.ad .ag), .ref cn, .ref wl, .int m] ∧ GS F S H ∧ Env4 K F cn wl nr n ∧ m ≤ 10 ∧
  ∀ v l F' S' H', Body nr n m l → Same F F' → FixG S S' → GS F' S' H' → Dp K F' (.ref v) (.tuple (insDs l)) → Q (.ref v) H'
/-- _law_body -/
theorem ok__law_body (T : Txt K mg w A) : Fn PP w K mg base 4 A._law_body (sp__law_body K A) := by
  refine T.d__law_body.go sc__law_body fun cdv Ar outer s H vs Q hr h => ?_
  have nd := sc__law_body.nd
  obtain ⟨F, S, cn, wl, nr, n, m, rfl, P, E, hm, q⟩ := h
  refine ⟨_, (pss_cons (ps_set (i := 4) nd rfl (Or.inl rfl) (pe_tup pa_nil))
      (pss_cons (ps_for PassesOwn.never rfl (pi_range1 (by rfl) T.b_range (pa_cons (pv 3) pa_nil)) (pg_name (i := 5) nd rfl (Or.inl rfl))
        (pss_one (ps_set (i := 4) nd rfl (Or.inl rfl) (pe_op (catA K) (pv 4) (pe_f (ok__law_part T) (hr.mono (by decide)) (by rfl) T.g__law_part T.d__law_part.kp (pa_cons (pv 0) (pa_cons (pv 1) (pa_cons (pv 2) pa_nil))))))))
      (pss_one (ps_ret (pv 4))))), ?_⟩
  have e2 := E.nr3
  have e4 := E.n4
  refine ⟨Nat.zero_le _, fun e5 n5 => ?_⟩
  have P5 := P.frz n5 (.tup [])
  have u5 := P.up n5 (.tup [])
  refine ⟨_, rfl, _, rfl, by omega, by omega, ?_⟩
  have ejn : ((m : Nat) : Int).toNat = m := by omega
  rw [ejn]
  refine for_range (lo := 0) (n := m) (fun i σ H2 => ∃ F1 S1 l a z, GS F1 S1 H2 ∧ Same F F1 ∧ FixG S S1 ∧ Body nr n i l ∧ Dp K F1 (.ref a) (.tuple (insDs l)) ∧ σ = [some (.ref (S.ad .ag)), some (.ref cn), some (.ref wl), some (.int m), some (.ref a), z]) ⟨_, S, [], e5, none, P5, u5, FixG.refl S, .nil, .tup (SqT.of upd_same) .nil, rfl⟩ ?_ ?_
  · rintro i σ H1 hi ⟨F1, S1, l, a, z, P1, s1, X1, hB, dl, rfl⟩
    refine ⟨_, rfl, _, rfl, _, rfl, _, rfl, F1, S1, cn, wl, nr, n, by rw [X1.ad], P1, E.up s1, fun v x F2 S2 H2 hx s2 X2 P2 dx => ?_⟩
    have hl1 := (hB.pl (f := 0) (by omega) (by omega)).len
    have hl2 := (hx.pl (f := 0) (by omega) (by omega)).1.len
    refine P2.cat2 (dp_same s2 dl) dx (by omega) fun v3 F3 H3 s3 P3 d3 => ?_
    exact ⟨F3, S2, _, v3, _, P3, s1.trans (s2.trans s3), X1.trans X2, hB.more hx, d3, rfl⟩
  · rintro σ H1 ⟨F1, S1, l, a, z, P1, s1, X1, hB, dl, rfl⟩
    exact ⟨_, rfl, q _ _ _ _ _ hB s1 X1 P1 dl⟩
end Ev
namespace Ev
open PySem PySem.Spec PyProof.Rows L2
variable {w : World} {K : PySem.W.Frag} {mg : Str → Option Value} {base : Heap} {A : Adr}

theorem GS.one {F H : Hp} {S : Sto} {i : Ins} {v : V} (G : GS F S H) (d : Dp K F v (insD i)) {e : Addr} (n : H e = none) : GS (upd F e (.tup [v])) S (upd H e (.tup [v])) ∧ Same F (upd F e (.tup [v])) ∧ Dp K (upd F e (.tup [v])) (.ref e) (.tuple (insDs [i])) := by
  refine ⟨G.frz n _, G.up n _, .tup (SqT.of upd_same) ?_⟩
  simp only [insDs]
  exact .cons (dp_same (G.up n _) d) .nil
theorem GS.two {F H : Hp} {S : Sto} {i j : Ins} {v w : V} (G : GS F S H) (d : Dp K F v (insD i)) (d2 : Dp K F w (insD j)) {e : Addr} (n : H e = none) : GS (upd F e (.tup [v, w])) S (upd H e (.tup [v, w])) ∧ Same F (upd F e (.tup [v, w])) ∧ Dp K (upd F e (.tup [v, w])) (.ref e) (.tuple (insDs [i, j])) := by
  refine ⟨G.frz n _, G.up n _, .tup (SqT.of upd_same) ?_⟩
  simp only [insDs]
  exact .cons (dp_same (G.up n _) d) (.cons (dp_same (G.up n _) d2) .nil)
theorem GS.mk2 {F H : Hp} {S : Sto} {i : Ins} {s : Str} {x : V} {d : PyData} (G : GS F S H) (hi : insD i = .tuple [.str s, d]) (hx : Dp K F x d) {e : Addr} (n : H e = none) : GS (upd F e (.tup [.str s, x])) S (upd H e (.tup [.str s, x])) ∧ Same F (upd F e (.tup [.str s, x])) ∧ Dp K (upd F e (.tup [.str s, x])) (.ref e) (insD i) := by
  refine ⟨G.frz n _, G.up n _, ?_⟩
  rw [hi]
  exact .tup (SqT.of upd_same) (.cons (.str _) (.cons (dp_same (G.up n _) hx) .nil))
theorem GS.mk3 {F H : Hp} {S : Sto} {i : Ins} {s : Str} {x y : V} {d d' : PyData} (G : GS F S H) (hi : insD i = .tuple [.str s, d, d']) (hx : Dp K F x d) (hy : Dp K F y d') {e : Addr} (n : H e = none) : GS (upd F e (.tup [.str s, x, y])) S (upd H e (.tup [.str s, x, y])) ∧ Same F (upd F e (.tup [.str s, x, y])) ∧ Dp K (upd F e (.tup [.str s, x, y])) (.ref e) (insD i) := by
  refine ⟨G.frz n _, G.up n _, ?_⟩
  rw [hi]
  exact .tup (SqT.of upd_same) (.cons (.str _) (.cons (dp_same (G.up n _) hx) (.cons (dp_same (G.up n _) hy) .nil)))
theorem z1 : 1 ≤ sizeLine := by decide
theorem z2 : 2 ≤ sizeLine := by decide
theorem z3 : 3 ≤ sizeLine := by decide
theorem oneplus (j : Nat) : (1 : Int) + (j : Nat) = ((1 + j : Nat) : Int) := rfl
def sp__law_script (K : PySem.W.Frag) (A : Adr) : Sp0 := fun vs H Q => ∃ (F : Hp) (S : Sto) (cn wl : Addr) (nr n : Nat), vs = [.ref (S.ad .ag), .ref cn, .ref wl] ∧ GS F S H ∧ Env4 K F cn wl nr n ∧
  ∀ v s F' S' H', ScG nr n s → Same F F' → FixG S S' → GS F' S' H' → Dp K F' (.ref v) (restD s) → Q (.ref v) H'
/-- _law_script -/
theorem ok__law_script (T : Txt K mg w A) : Fn PP w K mg base 5 A._law_script (sp__law_script K A) := by
  refine T.d__law_script.go sc__law_script fun cdv Ar outer s H vs Q hr h => ?_
  have nd := sc__law_script.nd
  obtain ⟨F, S, cn, wl, nr, n, rfl, P, E, q⟩ := h
  refine ⟨_, (pss_cons (ps_set (i := 3) nd rfl (Or.inl rfl) (pe_f (ok__law_body T) (hr.mono (by decide)) (by rfl) T.g__law_body T.d__law_body.kp (pa_cons (pv 0) (pa_cons (pv 1) (pa_cons (pv 2) (pa_cons (pe_f (ok__law_draw T) (hr.mono (by decide)) (by rfl) T.g__law_draw T.d__law_draw.kp (pa_cons (pv 0) (pa_cons pe_int pa_nil))) pa_nil))))))
      (pss_cons (ps_set (i := 4) nd rfl (Or.inl rfl) (pe_f (ok__law_draw T) (hr.mono (by decide)) (by rfl) T.g__law_draw T.d__law_draw.kp (pa_cons (pv 0) (pa_cons pe_int pa_nil))))
      (pss_cons (ps_if (pt_cm op_eq (pv 4) pe_int)
        (pss_cons (ps_par (i := 5) (j := 6) rfl nd rfl rfl (by decide) rfl rfl (pa_cons (pe_f (ok__law_draw T) (hr.mono (by decide)) (by rfl) T.g__law_draw T.d__law_draw.kp (pa_cons (pv 0) (pa_cons pe_int pa_nil))) (pa_cons (pe_f (ok__law_body T) (hr.mono (by decide)) (by rfl) T.g__law_body T.d__law_body.kp (pa_cons (pv 0) (pa_cons (pv 1) (pa_cons (pv 2) (pa_cons (pe_op op_add pe_int (pe_f (ok__law_draw T) (hr.mono (by decide)) (by rfl) T.g__law_draw T.d__law_draw.kp (pa_cons (pv 0) (pa_cons pe_int pa_nil)))) pa_nil))))) pa_nil)) rfl)
        (pss_one (ps_set (i := 3) nd rfl (Or.inl rfl) (pe_op (catA K) (pv 3) (pe_tup (pa_cons (pe_tup (pa_cons pe_str (pa_cons (pv 5) (pa_cons (pv 6) pa_nil)))) pa_nil))))))
        pss_nil)
      (pss_cons (ps_if (pt_cm op_eq (pv 4) pe_int)
        (pss_cons (ps_set (i := 7) nd rfl (Or.inl rfl) (pe_tup (pa_cons pe_str (pa_cons (pe_f (ok__law_draw T) (hr.mono (by decide)) (by rfl) T.g__law_draw T.d__law_draw.kp (pa_cons (pv 0) (pa_cons pe_int pa_nil))) (pa_cons (pe_f (ok__law_body T) (hr.mono (by decide)) (by rfl) T.g__law_body T.d__law_body.kp (pa_cons (pv 0) (pa_cons (pv 1) (pa_cons (pv 2) (pa_cons pe_int pa_nil))))) pa_nil)))))
        (pss_cons (ps_set (i := 6) nd rfl (Or.inl rfl) (pe_op (catA K) (pe_tup (pa_cons (pv 7) pa_nil)) (pe_f (ok__law_body T) (hr.mono (by decide)) (by rfl) T.g__law_body T.d__law_body.kp (pa_cons (pv 0) (pa_cons (pv 1) (pa_cons (pv 2) (pa_cons pe_int pa_nil)))))))
        (pss_one (ps_set (i := 3) nd rfl (Or.inl rfl) (pe_op (catA K) (pv 3) (pe_tup (pa_cons (pe_tup (pa_cons pe_str (pa_cons (pe_op op_add pe_int (pe_f (ok__law_draw T) (hr.mono (by decide)) (by rfl) T.g__law_draw T.d__law_draw.kp (pa_cons (pv 0) (pa_cons pe_int pa_nil)))) (pa_cons (pv 6) pa_nil)))) pa_nil)))))))
        pss_nil)
      (pss_cons (ps_if (pt_cm op_eq (pv 4) pe_int)
        (pss_cons (ps_set (i := 6) nd rfl (Or.inl rfl) (pe_op (catA K) (pe_f (ok__law_body T) (hr.mono (by decide)) (by rfl) T.g__law_body T.d__law_body.kp (pa_cons (pv 0) (pa_cons (pv 1) (pa_cons (pv 2) (pa_cons pe_int pa_nil))))) (pe_tup (pa_cons (pe_tup (pa_cons pe_str (pa_cons (pe_op op_add pe_int (pe_f (ok__law_draw T) (hr.mono (by decide)) (by rfl) T.g__law_draw T.d__law_draw.kp (pa_cons (pv 0) (pa_cons pe_int pa_nil)))) pa_nil))) pa_nil))))
        (pss_one (ps_set (i := 3) nd rfl (Or.inl rfl) (pe_op (catA K) (pv 3) (pe_tup (pa_cons (pe_tup (pa_cons pe_str (pa_cons (pv 6) pa_nil))) pa_nil))))))
        pss_nil)
      (pss_cons (ps_if (PW.pt (pw_and (pt_cm op_eq (pv 4) pe_int) (pw_and (pt_cm op_gt (pe_ix (ixT K) (pv 1) pe_int (fun _ _ => rfl)) pe_int) (pw_and1 (pt_cm (opIn K) pe_str (pv 2))))))
        (pss_cons (ps_par (i := 8) (j := 9) rfl nd rfl rfl (by decide) rfl rfl (pa_cons (pe_f (ok__law_draw T) (hr.mono (by decide)) (by rfl) T.g__law_draw T.d__law_draw.kp (pa_cons (pv 0) (pa_cons (pe_ix (ixT K) (pv 1) pe_int (fun _ _ => rfl)) pa_nil))) (pa_cons (pe_f (ok__law_draw T) (hr.mono (by decide)) (by rfl) T.g__law_draw T.d__law_draw.kp (pa_cons (pv 0) (pa_cons (pe_ix (ixT K) (pv 1) pe_int (fun _ _ => rfl)) pa_nil))) pa_nil)) rfl)
        (pss_cons (ps_set (i := 3) nd rfl (Or.inl rfl) (pe_op (catA K) (pv 3) (pe_tup (pa_cons (pe_tup (pa_cons pe_str (pa_cons (pv 8) (pa_cons (pe_f (ok__law_draw T) (hr.mono (by decide)) (by rfl) T.g__law_draw T.d__law_draw.kp (pa_cons (pv 0) (pa_cons pe_int pa_nil))) pa_nil)))) (pa_cons (pe_tup (pa_cons pe_str (pa_cons (pe_f (ok__law_draw T) (hr.mono (by decide)) (by rfl) T.g__law_draw T.d__law_draw.kp (pa_cons (pv 0) (pa_cons pe_int pa_nil))) pa_nil))) pa_nil)))))
        (pss_cons (ps_set (i := 3) nd rfl (Or.inl rfl) (pe_op (catA K) (pv 3) (pe_tup (pa_cons (pe_tup (pa_cons pe_str (pa_cons (pv 9) (pa_cons (pe_f (ok__law_draw T) (hr.mono (by decide)) (by rfl) T.g__law_draw T.d__law_draw.kp (pa_cons (pv 0) (pa_cons pe_int pa_nil))) pa_nil)))) (pa_cons (pe_tup (pa_cons pe_str (pa_cons (pe_op op_add pe_int (pe_f (ok__law_draw T) (hr.mono (by decide)) (by rfl) T.g__law_draw T.d__law_draw.kp (pa_cons (pv 0) (pa_cons pe_int pa_nil)))) pa_nil))) pa_nil)))))
        (pss_cons (ps_if (pt_cm op_eq (pe_f (ok__law_draw T) (hr.mono (by decide)) (by rfl) T.g__law_draw T.d__law_draw.kp (pa_cons (pv 0) (pa_cons pe_int pa_nil))) pe_int)
          (pss_one (ps_par (i := 8) (j := 9) rfl nd rfl rfl (by decide) rfl rfl (pa_cons (pv 9) (pa_cons (pv 8) pa_nil)) rfl))
          pss_nil)
        (pss_one (ps_set (i := 3) nd rfl (Or.inl rfl) (pe_op (catA K) (pv 3) (pe_tup (pa_cons (pe_tup (pa_cons pe_str (pa_cons (pv 8) pa_nil))) (pa_cons (pe_tup (pa_cons pe_str (pa_cons (pv 9) pa_nil))) pa_nil))))))))))
        pss_nil)
      (pss_one (ps_ret (pv 3))))))))), ?_⟩
  have e1 := E.nr1
  have e2 := E.nr3
  have e4 := E.n4
  have en := E.n1
  refine ⟨_, rfl, _, rfl, _, rfl, _, rfl, F, S, 3, rfl, P, by decide, by decide, fun m S1 H1 hm X1 P1 => ?_⟩
  refine ⟨F, S1, cn, wl, nr, n, m, (congrArg (fun z => V.ref z :: _) (X1.ad .ag).symm), P1, E, by omega, fun v0 l0 F2 S2 H2 hB s2 x2 P2 d2 => ?_⟩
  have X2 := X1.trans x2
  have hl0 := (hB.pl (f := 3) (by omega) (by omega))
  have hl0n := hl0.len
  have E2 := E.up s2
  refine ⟨_, rfl, F2, S2, 5, (congrArg (fun z => V.ref z :: _) (X2.ad .ag).symm), P2, by decide, by decide, fun w S3 H3 hw x3 P3 => ?_⟩
  have X3 := X2.trans x3
  have hw5 : w = 0 ∨ w = 1 ∨ w = 2 ∨ w = 3 ∨ w = 4 := by omega
  rcases hw5 with rfl | rfl | rfl | rfl | rfl
  · refine ⟨_, rfl, rfl, _, rfl, ?_⟩
    refine ifN' (by decide) ?_
    refine ⟨_, rfl, rfl, _, rfl, ?_⟩
    refine ifN' (by decide) ?_
    refine ⟨_, rfl, rfl, _, rfl, ?_⟩
    refine ifN' (by decide) ?_
    refine ⟨_, rfl, rfl, _, rfl, ?_⟩
    refine ifN' (by decide) ?_
    refine ifN' rfl ?_
    exact ⟨_, rfl, q _ _ _ _ _ (hl0.sc (by omega)) s2 X3 P3 d2⟩
  · refine ⟨_, rfl, rfl, _, rfl, ?_⟩
    refine ifB' (by decide) ?_
    refine ⟨_, rfl, F2, S3, 4, (congrArg (fun z => V.ref z :: _) (X3.ad .ag).symm), P3, by decide, by decide, fun t S4 H4 ht x4 P4 => ?_⟩
    have X4 := X3.trans x4
    refine ⟨_, rfl, _, rfl, _, rfl, _, rfl, F2, S4, 2, (congrArg (fun z => V.ref z :: _) (X4.ad .ag).symm), P4, by decide, by decide, fun j S5 H5 hj x5 P5 => ?_⟩
    have X5 := X4.trans x5
    refine ⟨_, _, rfl, rfl, F2, S5, cn, wl, nr, n, 1 + j, (congrArg (fun z => V.ref z :: _) (X5.ad .ag).symm), P5, E2, by omega, fun v6 l6 F6 S6 H6 hB6 s6 x6 P6 d6 => ?_⟩
    have X6 := X5.trans x6
    refine ⟨_, _, rfl, ?_⟩
    refine ⟨_, rfl, _, rfl, _, rfl, z3, fun e7 n7 => ?_⟩
    obtain ⟨P7, s7, d7⟩ := P6.mk3 (i := .rep t l6) (s := "repeat") (x := .int (t : Nat)) (y := .ref v6) (by simp only [insD]) (.int _) d6 n7
    refine ⟨z1, fun e8 n8 => ?_⟩
    obtain ⟨P8, s8, d8⟩ := P7.one d7 n8
    have S8 := s6.trans (s7.trans s8)
    refine P8.cat2 (dp_same S8 d2) d8 (by show l0.length + 1 ≤ 10000; omega) fun v9 F9 H9 s9 P9 d9 => ?_
    refine ⟨_, rfl, rfl, _, rfl, ?_⟩
    refine ifN' (by decide) ?_
    refine ⟨_, rfl, rfl, _, rfl, ?_⟩
    refine ifN' (by decide) ?_
    refine ⟨_, rfl, rfl, _, rfl, ?_⟩
    refine ifN' (by decide) ?_
    refine ifN' rfl ?_
    have h6 := (hB6.pl (f := 2) (by omega) (by omega))
    exact ⟨_, rfl, q _ _ _ _ _ ((hl0.append (h6.rep (hB6.ne (by omega) (by omega) (by omega)) (t := t) (by omega) (by omega))).sc (by omega)) (s2.trans (S8.trans s9)) X6 P9 d9⟩
  · refine ⟨_, rfl, rfl, _, rfl, ?_⟩
    refine ifN' (by decide) ?_
    refine ⟨_, rfl, rfl, _, rfl, ?_⟩
    refine ifB' (by decide) ?_
    refine ⟨_, rfl, F2, S3, 3, (congrArg (fun z => V.ref z :: _) (X3.ad .ag).symm), P3, by decide, by decide, fun t S4 H4 ht x4 P4 => ?_⟩
    have X4 := X3.trans x4
    refine ⟨_, rfl, _, rfl, _, rfl, F2, S4, cn, wl, nr, n, 1, (congrArg (fun z => V.ref z :: _) (X4.ad .ag).symm), P4, E2, by omega, fun v6 l6 F6 S6 H6 hB6 s6 x6 P6 d6 => ?_⟩
    have X6 := X4.trans x6
    refine ⟨z3, fun e7 n7 => ?_⟩
    obtain ⟨P7, s7, d7⟩ := P6.mk3 (i := .rep t l6) (s := "repeat") (x := .int (t : Nat)) (y := .ref v6) (by simp only [insD]) (.int _) d6 n7
    refine ⟨_, rfl, z1, fun e8 n8 => ?_⟩
    obtain ⟨P8, s8, d8⟩ := P7.one d7 n8
    have S8 := s6.trans (s7.trans s8)
    refine ⟨_, rfl, _, rfl, _, rfl, _, S6, cn, wl, nr, n, 1, (congrArg (fun z => V.ref z :: _) (X6.ad .ag).symm), P8, E2.up S8, by omega, fun v9 l9 F9 S9 H9 hB9 s9 x9 P9 d9 => ?_⟩
    have X9 := X6.trans x9
    have h6 := (hB6.pl (f := 1) (by omega) (by omega))
    have h9 := (hB9.pl (f := 2) (by omega) (by omega))
    have h9n := h9.len
    refine P9.cat2 (dp_same s9 d8) d9 (by show 1 + l9.length ≤ 10000; omega) fun v10 F10 H10 s10 P10 d10 => ?_
    refine ⟨_, rfl, _, rfl, F10, S9, 2, (congrArg (fun z => V.ref z :: _) (X9.ad .ag).symm), P10, by decide, by decide, fun j S11 H11 hj x11 P11 => ?_⟩
    have X11 := X9.trans x11
    refine ⟨_, _, rfl, rfl, _, rfl, z3, fun e12 n12 => ?_⟩
    obtain ⟨P12, s12, d12⟩ := P11.mk3 (i := .rep (1 + j) ([.rep t l6] ++ l9)) (s := "repeat") (x := .int ((1 + j : Nat) : Int)) (y := .ref v10) (by simp only [insD]) (.int _) d10 n12
    refine ⟨z1, fun e13 n13 => ?_⟩
    obtain ⟨P13, s13, d13⟩ := P12.one d12 n13
    have S13 := S8.trans (s9.trans (s10.trans (s12.trans s13)))
    refine P13.cat2 (dp_same S13 d2) d13 (by show l0.length + 1 ≤ 10000; omega) fun v14 F14 H14 s14 P14 d14 => ?_
    refine ⟨_, rfl, rfl, _, rfl, ?_⟩
    refine ifN' (by decide) ?_
    refine ⟨_, rfl, rfl, _, rfl, ?_⟩
    refine ifN' (by decide) ?_
    refine ifN' rfl ?_
    have hin := (h6.rep (hB6.ne (by omega) (by omega) (by omega)) (t := t) (by omega) (by omega)).append h9
    exact ⟨_, rfl, q _ _ _ _ _ ((hl0.append (hin.rep (List.cons_ne_nil _ _) (t := 1 + j) (by omega) (by omega))).sc (by omega)) (s2.trans (S13.trans s14)) X11 P14 d14⟩
  · refine ⟨_, rfl, rfl, _, rfl, ?_⟩
    refine ifN' (by decide) ?_
    refine ⟨_, rfl, rfl, _, rfl, ?_⟩
    refine ifN' (by decide) ?_
    refine ⟨_, rfl, rfl, _, rfl, ?_⟩
    refine ifB' (by decide) ?_
    refine ⟨_, rfl, _, rfl, _, rfl, F2, S3, cn, wl, nr, n, 1, (congrArg (fun z => V.ref z :: _) (X3.ad .ag).symm), P3, E2, by omega, fun v6 l6 F6 S6 H6 hB6 s6 x6 P6 d6 => ?_⟩
    have X6 := X3.trans x6
    refine ⟨_, rfl, F6, S6, 4, (congrArg (fun z => V.ref z :: _) (X6.ad .ag).symm), P6, by decide, by decide, fun j S7 H7 hj x7 P7 => ?_⟩
    have X7 := X6.trans x7
    refine ⟨_, _, rfl, rfl, z2, fun e8 n8 => ?_⟩
    obtain ⟨P8, s8, d8⟩ := P7.mk2 (i := .wait (1 + j)) (s := "wait") (x := .int ((1 + j : Nat) : Int)) (by simp only [insD]) (.int _) n8
    refine ⟨z1, fun e9 n9 => ?_⟩
    obtain ⟨P9, s9, d9⟩ := P8.one d8 n9
    have h6 := (hB6.pl (f := 2) (by omega) (by omega))
    have h6n := h6.len
    refine P9.cat2 (dp_same (s8.trans s9) d6) d9 (by show l6.length + 1 ≤ 10000; omega) fun v10 F10 H10 s10 P10 d10 => ?_
    refine ⟨_, rfl, _, rfl, z2, fun e11 n11 => ?_⟩
    obtain ⟨P11, s11, d11⟩ := P10.mk2 (i := .fev (l6 ++ [.wait (1 + j)])) (s := "forever") (x := .ref v10) (by simp only [insD]) d10 n11
    refine ⟨z1, fun e12 n12 => ?_⟩
    obtain ⟨P12, s12, d12⟩ := P11.one d11 n12
    have S12 := s6.trans (s8.trans (s9.trans (s10.trans (s11.trans s12))))
    refine P12.cat2 (dp_same S12 d2) d12 (by show l0.length + 1 ≤ 10000; omega) fun v14 F14 H14 s14 P14 d14 => ?_
    refine ⟨_, rfl, rfl, _, rfl, ?_⟩
    refine ifN' (by decide) ?_
    refine ifN' rfl ?_
    have hw : Pl nr n 2 8 (l6 ++ [.wait (1 + j)]) := (h6.append (wait_pl (by omega))).up (Nat.le_refl _) (by omega)
    have hpw : 1 ≤ pwL (l6 ++ [.wait (1 + j)]) := by
      rw [pwL_append, Nat.add_comm 1 j]
      show 1 ≤ _ + (1 + 0)
      omega
    exact ⟨_, rfl, q _ _ _ _ _ (hl0.fev (by omega) hw hpw) (s2.trans (S12.trans s14)) X7 P14 d14⟩
  · refine ⟨_, rfl, rfl, _, rfl, ?_⟩
    refine ifN' (by decide) ?_
    refine ⟨_, rfl, rfl, _, rfl, ?_⟩
    refine ifN' (by decide) ?_
    refine ⟨_, rfl, rfl, _, rfl, ?_⟩
    refine ifN' (by decide) ?_
    refine ⟨_, rfl, rfl, _, rfl, ?_⟩
    refine ifB' (by decide) ?_
    refine ⟨_, rfl, _, _, _, _, rfl, rfl, same_T P3.ok.sm E2.cnt, at0, _, _, rfl, rfl, _, rfl, ?_⟩
    refine ifB' (decide_eq_true (by omega)) ?_
    refine ⟨_, rfl, _, _, rfl, .inl (P3.ok.sm.seq E2.wds), rfl, rfl, _, rfl, ?_⟩
    refine ifB' (by decide) ?_
    refine ⟨_, rfl, _, rfl, _, _, _, _, rfl, rfl, same_T P3.ok.sm E2.cnt, at0, F2, S3, nr, (congrArg (fun z => V.ref z :: _) (X3.ad .ag).symm), P3, by omega, by omega, fun o S4 H4 ho x4 P4 => ?_⟩
    have X4 := X3.trans x4
    refine ⟨_, rfl, _, rfl, _, _, _, _, rfl, rfl, same_T P4.ok.sm E2.cnt, at0, F2, S4, nr, (congrArg (fun z => V.ref z :: _) (X4.ad .ag).symm), P4, by omega, by omega, fun o2 S5 H5 ho2 x5 P5 => ?_⟩
    have X5 := X4.trans x5
    refine ⟨_, _, rfl, ?_⟩
    refine ⟨_, rfl, _, rfl, _, rfl, F2, S5, 10, (congrArg (fun z => V.ref z :: _) (X5.ad .ag).symm), P5, by decide, by decide, fun k1 S6 H6 hk1 x6 P6 => ?_⟩
    have X6 := X5.trans x6
    refine ⟨z3, fun e7 n7 => ?_⟩
    obtain ⟨P7, s7, d7⟩ := P6.mk3 (i := .take o k1) (s := "take") (x := .int (o : Nat)) (y := .int (k1 : Nat)) (by simp only [insD]) (.int _) (.int _) n7
    refine ⟨_, rfl, _, S6, 3, (congrArg (fun z => V.ref z :: _) (X6.ad .ag).symm), P7, by decide, by decide, fun w1 S8 H8 hw1 x8 P8 => ?_⟩
    have X8 := X6.trans x8
    refine ⟨z2, fun e9 n9 => ?_⟩
    obtain ⟨P9, s9, d9⟩ := P8.mk2 (i := .wait w1) (s := "wait") (x := .int (w1 : Nat)) (by simp only [insD]) (.int _) n9
    refine ⟨z2, fun e10 n10 => ?_⟩
    obtain ⟨P10, s10, d10⟩ := P9.two (dp_same s9 d7) d9 n10
    have S10 := s7.trans (s9.trans s10)
    refine P10.cat2 (dp_same S10 d2) d10 (by show l0.length + 2 ≤ 10000; omega) fun v11 F11 H11 s11 P11 d11 => ?_
    refine ⟨_, rfl, _, rfl, _, rfl, _, S8, 10, (congrArg (fun z => V.ref z :: _) (X8.ad .ag).symm), P11, by decide, by decide, fun k2 S12 H12 hk2 x12 P12 => ?_⟩
    have X12 := X8.trans x12
    refine ⟨z3, fun e13 n13 => ?_⟩
    obtain ⟨P13, s13, d13⟩ := P12.mk3 (i := .take o2 k2) (s := "take") (x := .int (o2 : Nat)) (y := .int (k2 : Nat)) (by simp only [insD]) (.int _) (.int _) n13
    refine ⟨_, rfl, _, S12, 9, (congrArg (fun z => V.ref z :: _) (X12.ad .ag).symm), P13, by decide, by decide, fun w2 S14 H14 hw2 x14 P14 => ?_⟩
    have X14 := X12.trans x14
    refine ⟨_, _, rfl, rfl, z2, fun e15 n15 => ?_⟩
    obtain ⟨P15, s15, d15⟩ := P14.mk2 (i := .wait (1 + w2)) (s := "wait") (x := .int ((1 + w2 : Nat) : Int)) (by simp only [insD]) (.int _) n15
    refine ⟨z2, fun e16 n16 => ?_⟩
    obtain ⟨P16, s16, d16⟩ := P15.two (dp_same s15 d13) d15 n16
    have S16 := s13.trans (s15.trans s16)
    refine P16.cat2 (dp_same S16 d11) d16 (by rw [List.length_append]; show l0.length + 2 + 2 ≤ 10000; omega) fun v17 F17 H17 s17 P17 d17 => ?_
    have S17 := S10.trans (s11.trans (S16.trans s17))
    refine ⟨_, rfl, _, S14, 2, (congrArg (fun z => V.ref z :: _) (X14.ad .ag).symm), P17, by decide, by decide, fun bb S18 H18 hbb x18 P18 => ?_⟩
    have X18 := X14.trans x18
    refine ⟨rfl, _, rfl, ?_⟩
    refine ifB (fun hb => ?_) fun hb => ?_
    · refine ⟨_, rfl, _, rfl, _, _, rfl, ?_⟩
      refine ⟨_, rfl, _, rfl, z2, fun e19 n19 => ?_⟩
      obtain ⟨P19, s19, d19⟩ := P18.mk2 (i := .give o2) (s := "give") (x := .int (o2 : Nat)) (by simp only [insD]) (.int _) n19
      refine ⟨_, rfl, z2, fun e20 n20 => ?_⟩
      obtain ⟨P20, s20, d20⟩ := P19.mk2 (i := .give o) (s := "give") (x := .int (o : Nat)) (by simp only [insD]) (.int _) n20
      refine ⟨z2, fun e21 n21 => ?_⟩
      obtain ⟨P21, s21, d21⟩ := P20.two (dp_same s20 d19) d20 n21
      have S21 := s19.trans (s20.trans s21)
      refine P21.cat2 (dp_same S21 d17) d21 (by rw [List.length_append, List.length_append]; show l0.length + 2 + 2 + 2 ≤ 10000; omega) fun v22 F22 H22 s22 P22 d22 => ?_
      have hsc : ScG nr n (l0 ++ [.take o k1, .wait w1] ++ [.take o2 k2, .wait (1 + w2)] ++ [.give o2, .give o]) := by
        have := (hl0.append (two_pl (f := 3) (n := n) ho ho2 (k1 := k1) (k2 := k2) (d1 := w1) (d2 := 1 + w2) (by omega) (by omega) (by omega) (by omega) (by omega) (x := o2) (y := o) (.inr ⟨rfl, rfl⟩))).sc (by omega)
        simpa only [List.append_assoc, List.cons_append, List.nil_append] using this
      exact ⟨_, rfl, q _ _ _ _ _ hsc (s2.trans (S17.trans (S21.trans s22))) X18 P22 d22⟩
    · skip
      refine ⟨_, rfl, _, rfl, z2, fun e19 n19 => ?_⟩
      obtain ⟨P19, s19, d19⟩ := P18.mk2 (i := .give o) (s := "give") (x := .int (o : Nat)) (by simp only [insD]) (.int _) n19
      refine ⟨_, rfl, z2, fun e20 n20 => ?_⟩
      obtain ⟨P20, s20, d20⟩ := P19.mk2 (i := .give o2) (s := "give") (x := .int (o2 : Nat)) (by simp only [insD]) (.int _) n20
      refine ⟨z2, fun e21 n21 => ?_⟩
      obtain ⟨P21, s21, d21⟩ := P20.two (dp_same s20 d19) d20 n21
      have S21 := s19.trans (s20.trans s21)
      refine P21.cat2 (dp_same S21 d17) d21 (by rw [List.length_append, List.length_append]; show l0.length + 2 + 2 + 2 ≤ 10000; omega) fun v22 F22 H22 s22 P22 d22 => ?_
      have hsc : ScG nr n (l0 ++ [.take o k1, .wait w1] ++ [.take o2 k2, .wait (1 + w2)] ++ [.give o, .give o2]) := by
        have := (hl0.append (two_pl (f := 3) (n := n) ho ho2 (k1 := k1) (k2 := k2) (d1 := w1) (d2 := 1 + w2) (by omega) (by omega) (by omega) (by omega) (by omega) (x := o) (y := o2) (.inl ⟨rfl, rfl⟩))).sc (by omega)
        simpa only [List.append_assoc, List.cons_append, List.nil_append] using this
      exact ⟨_, rfl, q _ _ _ _ _ hsc (s2.trans (S17.trans (S21.trans s22))) X18 P22 d22⟩
end Ev
namespace Ev
open PySem PySem.Spec PyProof.Rows L2
variable {w : World} {K : PySem.W.Frag} {mg : Str → Option Value} {base : Heap} {A : Adr}

def discV : List V := [.str "preempt", .str "preempt", .str "rank"]
theorem intcast2 (a b : Nat) : ((a : Int) + (b : Int)) = ((a + b : Nat) : Int) := rfl
def sp__law_model (K : PySem.W.Frag) (A : Adr) : Sp0 := fun vs H Q => ∃ (F : Hp) (S : Sto) (wl dl : Addr), vs = [.ref (S.ad .ag), .ref wl, .ref dl, .int 4] ∧ GS F S H ∧ SqL K F wl wordsV ∧ SqL K F dl discV ∧
  ∀ v c F' S' H', CfG c → Same F F' → S'.ad .ag = S.ad .ag → GS F' S' H' → Dp K F' (.ref v) (cfgD c) → Q (.ref v) H'
theorem ok__law_model (T : Txt K mg w A) : Fn PP w K mg base 6 A._law_model (sp__law_model K A) := by
  refine T.d__law_model.go sc__law_model fun cdv Ar outer s H vs Q hr h => ?_
  have nd := sc__law_model.nd
  obtain ⟨F, S, wl, dl, rfl, P, hwl, hdl, q⟩ := h
  refine ⟨_, (pss_cons (ps_set (i := 4) nd rfl (Or.inl rfl) (pe_op op_add pe_int (pe_f (ok__law_draw T) (hr.mono (by decide)) (by rfl) T.g__law_draw T.d__law_draw.kp (pa_cons (pv 0) (pa_cons (pv 3) pa_nil)))))
      (pss_cons (ps_asg (pe_tup (pa_cons (pe_tup pa_nil) (pa_cons (pe_tup pa_nil) (pa_cons (pe_tup pa_nil) pa_nil)))) (pgT K (n := 3) rfl (pgs_cons (pg_name (i := 5) nd rfl (Or.inl rfl)) (pgs_cons (pg_name (i := 6) nd rfl (Or.inl rfl)) (pgs_cons (pg_name (i := 7) nd rfl (Or.inl rfl)) pgs_nil)))))
      (pss_cons (ps_if (pt_cm (opIn K) pe_str (pv 1))
        (pss_one (ps_for PassesOwn.never rfl (pi_range1 (by rfl) T.b_range (pa_cons (pe_op op_add pe_int (pe_f (ok__law_draw T) (hr.mono (by decide)) (by rfl) T.g__law_draw T.d__law_draw.kp (pa_cons (pv 0) (pa_cons pe_int pa_nil)))) pa_nil)) (pg_name (i := 8) nd rfl (Or.inl rfl))
          (pss_one (ps_set (i := 5) nd rfl (Or.inl rfl) (pe_op (catA K) (pv 5) (pe_tup (pa_cons (pe_tup (pa_cons (pe_f (ok__law_pick T) (hr.mono (by decide)) (by rfl) T.g__law_pick T.d__law_pick.kp (pa_cons (pv 0) (pa_cons (pv 2) pa_nil))) (pa_cons (pe_f (ok__law_pick T) (hr.mono (by decide)) (by rfl) T.g__law_pick T.d__law_pick.kp (pa_cons (pv 0) (pa_cons (pe_lst (pa_cons pe_int (pa_cons pe_int (pa_cons pe_int (pa_cons pe_int (pa_cons pe_int pa_nil)))))) pa_nil))) pa_nil))) pa_nil)))))))
        pss_nil)
      (pss_cons (ps_if (pt_cm (opIn K) pe_str (pv 1))
        (pss_one (ps_for PassesOwn.never rfl (pi_range1 (by rfl) T.b_range (pa_cons (pe_op op_add pe_int (pe_f (ok__law_draw T) (hr.mono (by decide)) (by rfl) T.g__law_draw T.d__law_draw.kp (pa_cons (pv 0) (pa_cons pe_int pa_nil)))) pa_nil)) (pg_name (i := 8) nd rfl (Or.inl rfl))
          (pss_cons (ps_set (i := 9) nd rfl (Or.inl rfl) (pe_op op_add pe_int (pe_f (ok__law_draw T) (hr.mono (by decide)) (by rfl) T.g__law_draw T.d__law_draw.kp (pa_cons (pv 0) (pa_cons pe_int pa_nil)))))
          (pss_cons (ps_setLc (i := 10) (hy := rfl) (hyl := rfl) (hsw := sw_true rfl rfl rfl (by decide +kernel)) (own := [("_law_item", 13)]) (g := gName 13) (tt := tYes) rfl nd (pi_range1 (by rfl) T.b_range (pa_cons (pe_f (ok__law_draw T) (hr.mono (by decide)) (by rfl) T.g__law_draw T.d__law_draw.kp (pa_cons (pv 0) (pa_cons (pe_op op_add (pv 9) pe_int) pa_nil))) pa_nil)) (blkOk_by (own := [("_law_item", 13)]) (N := N__law_model) (sc := defScope s__law_model) (by decide +kernel))
        (fun _ _ _ _ _ => (pg_name (i := 13) nd rfl (Or.inl rfl))) (fun _ _ _ _ _ => pts_nil)
        (fun _ _ _ _ _ => (pe_f (ok__law_draw T) (hr.mono (by decide)) (by rfl) T.g__law_draw T.d__law_draw.kp (pa_cons (pv 0) (pa_cons pe_int pa_nil)))))
          (pss_one (ps_set (i := 6) nd rfl (Or.inl rfl) (pe_op (catA K) (pv 6) (pe_tup (pa_cons (pe_tup (pa_cons (pv 9) (pa_cons (pe_callTy (tupOf K) (by rfl) T.b_tuple (by decide +kernel) (pa_cons (pv 10) pa_nil)) pa_nil))) pa_nil)))))))))
        pss_nil)
      (pss_cons (ps_if (pt_cm (opIn K) pe_str (pv 1))
        (pss_one (ps_set (i := 7) nd rfl (Or.inl rfl) (pe_callTy (tupOf K) (by rfl) T.b_tuple (by decide +kernel) (pa_cons (pe_lc (own := [("_law_lap", 8)]) (g := gName 8) (tt := tYes) rfl nd (pi_range1 (by rfl) T.b_range (pa_cons (pe_op op_add pe_int (pe_f (ok__law_draw T) (hr.mono (by decide)) (by rfl) T.g__law_draw T.d__law_draw.kp (pa_cons (pv 0) (pa_cons pe_int pa_nil)))) pa_nil)) (blkOk_by (own := [("_law_lap", 8)]) (N := N__law_model) (sc := defScope s__law_model) (by decide +kernel))
        (fun _ _ _ _ _ => (pg_name (i := 8) nd rfl (Or.inl rfl))) (fun _ _ _ _ _ => pts_nil)
        (fun _ _ _ _ _ => (pe_f (ok__law_pick T) (hr.mono (by decide)) (by rfl) T.g__law_pick T.d__law_pick.kp (pa_cons (pv 0) (pa_cons (pe_lst (pa_cons pe_str (pa_cons pe_str pa_nil))) pa_nil))))) pa_nil))))
        pss_nil)
      (pss_cons (ps_set (i := 11) nd rfl (Or.inr rfl) (pe_tup (pa_cons (pe_callB (lenK K) (by rfl) T.b_len (by decide +kernel) (pa_cons (pv 5) pa_nil)) (pa_cons (pe_callB (lenK K) (by rfl) T.b_len (by decide +kernel) (pa_cons (pv 6) pa_nil)) (pa_cons (pe_callB (lenK K) (by rfl) T.b_len (by decide +kernel) (pa_cons (pv 7) pa_nil)) (pa_cons (pv 4) pa_nil))))))
      (pss_cons (ps_setLc (i := 12) (hy := rfl) (hyl := rfl) (hsw := sw_true rfl rfl rfl (by decide +kernel)) (own := [("_law_process", 14)]) (g := gName 14) (tt := tYes) rfl nd (pi_range1 (by rfl) T.b_range (pa_cons (pv 4) pa_nil)) (blkOk_by (own := [("_law_process", 14)]) (N := N__law_model) (sc := defScope s__law_model) (by decide +kernel))
        (fun _ _ _ _ _ => (pg_name (i := 14) nd rfl (Or.inl rfl))) (fun _ _ _ _ _ => pts_nil)
        (fun _ _ _ _ _ => (pe_f (ok__law_script T) (hr.mono (by decide)) (by rfl) T.g__law_script T.d__law_script.kp (pa_cons (pv 0) (pa_cons (pv 11) (pa_cons (pv 1) pa_nil))))))
      (pss_one (ps_ret (pe_tup (pa_cons (pv 5) (pa_cons (pv 6) (pa_cons (pv 7) (pa_cons (pe_callTy (tupOf K) (by rfl) T.b_tuple (by decide +kernel) (pa_cons (pv 12) pa_nil)) pa_nil)))))))))))))), ?_⟩
  refine ⟨_, rfl, _, rfl, F, S, 4, rfl, P, by decide, by decide, fun m S1 H1 hm X1 P1 => ?_⟩
  refine ⟨_, _, rfl, rfl, ?_⟩
  refine ⟨Nat.zero_le _, fun e2 n2 => ⟨Nat.zero_le _, fun e3 n3 => ⟨Nat.zero_le _, fun e4 n4 => ?_⟩⟩⟩
  have P2 := P1.frz n2 (.tup [])
  have u2 := P1.up n2 (.tup [])
  have P3 := P2.frz n3 (.tup [])
  have u3 := P2.up n3 (.tup [])
  have P4 := P3.frz n4 (.tup [])
  have u4 := P3.up n4 (.tup [])
  have u := u2.trans (u3.trans u4)
  have t2 : SqT K (upd (upd (upd F e2 (.tup [])) e3 (.tup [])) e4 (.tup [])) e2 [] := same_T (u3.trans u4) (SqT.of upd_same)
  have t3 : SqT K (upd (upd (upd F e2 (.tup [])) e3 (.tup [])) e4 (.tup [])) e3 [] := same_T u4 (SqT.of upd_same)
  have t4 : SqT K (upd (upd (upd F e2 (.tup [])) e3 (.tup [])) e4 (.tup [])) e4 [] := SqT.of upd_same
  generalize upd (upd (upd F e2 (.tup [])) e3 (.tup [])) e4 (.tup []) = F4 at *
  have hwl := u.seq hwl
  have hdl := u.seq hdl
  refine ⟨z3, fun e5 n5 => ⟨_, _, rfl, SqT.of upd_same, rfl, _, _, rfl, _, _, rfl, _, _, rfl, rfl, ?_⟩⟩
  have P4 := P4.same (same_upd n5 (o := .tup [V.ref e2, V.ref e3, V.ref e4]))
  refine ⟨_, rfl, _, _, rfl, .inl (P4.ok.sm.seq hwl), rfl, rfl, _, rfl, ?_⟩
  refine ifB' (by decide) ?_
  refine ⟨_, rfl, F4, S1, 3, (congrArg (fun z => V.ref z :: _) (X1.ad .ag).symm), P4, by decide, by decide, fun j S5 H5 hj x5 P5 => ?_⟩
  have X5 := X1.trans x5
  refine ⟨_, _, rfl, rfl, _, rfl, by omega, by omega, ?_⟩
  have ejn : ((1 : Int) + (j : Nat)).toNat = 1 + j := by omega
  rw [ejn]
  refine for_range (lo := 0) (n := 1 + j) (fun i σ H2 => ∃ F1 S2 a res z, GS F1 S2 H2 ∧ Same F4 F1 ∧ FixG S S2 ∧ res.length = i ∧ (∀ x ∈ res, 1 ≤ x.2 ∧ x.2 ≤ 3) ∧ Dp K F1 (.ref a) (.tuple (res.map resD)) ∧
    σ = [some (.ref (S.ad .ag)), some (.ref wl), some (.ref dl), some (.int 4), some (.int (1 + (m : Nat))), some (.ref a), some (.ref e3), some (.ref e4), z, none, none, none, none, none, none]) ⟨_, S5, e2, [], none, P5, Same.refl _, X5, rfl, fun _ h => (nomatch h), .tup t2 .nil, rfl⟩ ?_ ?_
  · rintro i σ H6 hi ⟨F6, S6, a, res, z, P6, s6, X6, hlen, hun, dres, rfl⟩
    refine ⟨_, rfl, _, rfl, _, rfl, F6, S6, dl, discV, (congrArg (fun z => V.ref z :: _) (X6.ad .ag).symm), P6, s6.seq hdl, by decide, by decide, fun v S7 H7 hv x7 P7 => ?_⟩
    have X7 := X6.trans x7
    obtain ⟨b, rfl⟩ : ∃ b : Bool, v = .str (if b then "preempt" else "rank") := by
      have : v ∈ [V.str "preempt", .str "preempt", .str "rank"] := hv
      simp only [List.mem_cons, List.not_mem_nil, or_false] at this
      rcases this with h | h | h
      · exact ⟨true, h⟩
      · exact ⟨true, h⟩
      · exact ⟨false, h⟩
    refine ⟨_, rfl, (by show 5 ≤ sizeLine; decide), fun l8 n8 => ?_⟩
    have P8 := P7.frz n8 (.lst [V.int 1, V.int 1, V.int 1, V.int 2, V.int 3])
    have u8 := P7.up n8 (.lst [V.int 1, V.int 1, V.int 1, V.int 2, V.int 3])
    refine ⟨_, S7, l8, _, (congrArg (fun z => V.ref z :: _) (X7.ad .ag).symm), P8, SqL.of upd_same, by show 1 ≤ 5; decide, by show 5 ≤ 1000; decide, fun v9 S9 H9 hv9 x9 P9 => ?_⟩
    have X9 := X7.trans x9
    obtain ⟨un, rfl, hu⟩ : ∃ d : Nat, v9 = .int (d : Nat) ∧ 1 ≤ d ∧ d ≤ 3 := by
      simp only [List.mem_cons, List.not_mem_nil, or_false] at hv9
      rcases hv9 with h | h | h | h | h
      · exact ⟨1, h, by omega⟩
      · exact ⟨1, h, by omega⟩
      · exact ⟨1, h, by omega⟩
      · exact ⟨2, h, by omega⟩
      · exact ⟨3, h, by omega⟩
    refine ⟨z2, fun e10 n10 => ⟨z1, fun e11 n11 => ?_⟩⟩
    have P10 := P9.frz n10 (.tup [V.str (if b then "preempt" else "rank"), V.int un])
    have u10 := P9.up n10 (.tup [V.str (if b then "preempt" else "rank"), V.int un])
    have P11 := P10.frz n11 (.tup [V.ref e10])
    have u11 := P10.up n11 (.tup [V.ref e10])
    have U := u8.trans (u10.trans u11)
    obtain ⟨_, xs, e, hxs, hdx⟩ := dp_tupI dres
    cases e
    have hxl : xs.length = res.length := by rw [dpa_length hdx, List.length_map]
    refine P11.cat (same_T U hxs) (SqT.of upd_same) (dpa_same U hdx) (d2 := [resD (b, un)]) (.cons (.tup (same_T u11 (SqT.of upd_same)) (.cons (.str _) (.cons (.int _) .nil))) .nil) (by show xs.length + 1 ≤ 10000; omega) fun v12 F12 H12 s12 P12 d12 => ?_
    refine ⟨F12, S9, v12, res ++ [(b, un)], _, P12, s6.trans (U.trans s12), X9, ?_, fun x hx => ?_, ?_, rfl⟩
    · rw [List.length_append, hlen]; rfl
    · rcases List.mem_append.mp hx with hx | hx
      · exact hun x hx
      · rw [List.mem_singleton.mp hx]; exact hu
    · rw [List.map_append]; exact d12
  · rintro σ H6 ⟨F6, S6, a, res, z, P6, s6, X6, hlen, hun, dres, rfl⟩
    have hwl6 := s6.seq hwl
    refine ⟨_, rfl, _, _, rfl, .inl (P6.ok.sm.seq hwl6), rfl, rfl, _, rfl, ?_⟩
    refine ifN' (by decide) ?_
    refine ⟨_, rfl, _, _, rfl, .inl (P6.ok.sm.seq hwl6), rfl, rfl, _, rfl, ?_⟩
    refine ifN' (by decide) ?_
    obtain ⟨_, xs, e, hxs, hdx⟩ := dp_tupI dres
    cases e
    have hxl : xs.length = res.length := by rw [dpa_length hdx, List.length_map]
    have t3' := same_T s6 t3
    have t4' := same_T s6 t4
    refine ⟨_, rfl, _, _, rfl, .inr (same_T P6.ok.sm hxs), _, rfl, _, _, rfl, .inr (same_T P6.ok.sm t3'), _, rfl, _, _, rfl, .inr (same_T P6.ok.sm t4'), _, rfl, (by show 4 ≤ sizeLine; decide), fun cn ncn => ?_⟩
    rw [hxl]
    have P7 := P6.frz ncn (.tup [V.int (res.length : Nat), V.int (([] : List V).length : Nat), V.int (([] : List V).length : Nat), V.int (1 + (m : Nat))])
    have u7 := P6.up ncn (.tup [V.int (res.length : Nat), V.int (([] : List V).length : Nat), V.int (([] : List V).length : Nat), V.int (1 + (m : Nat))])
    have E7 : Env4 K _ cn wl res.length (1 + m) := ⟨SqT.of (upd_same (o := .tup [V.int (res.length : Nat), V.int (([] : List V).length : Nat), V.int (([] : List V).length : Nat), V.int (1 + (m : Nat))])), u7.seq hwl6, by omega, by omega, by omega, by omega⟩
    generalize upd F6 cn (.tup [V.int (res.length : Nat), V.int (([] : List V).length : Nat), V.int (([] : List V).length : Nat), V.int (1 + (m : Nat))]) = F7 at *
    refine ⟨_, rfl, _, rfl, by omega, by omega, fun D nD => ?_⟩
    have emn : ((1 : Int) + (m : Nat)).toNat = 1 + m := by omega
    rw [emn]
    have big3 := big3
    refine lc_it (walk_range (lo := 0) (n := 1 + m)) (fun i H2 => ∃ (F1 : Hp) (S2 : Sto) (vs : List V) (ss : List (List Ins)), GS F1 S2 H2 ∧ Same F7 F1 ∧ S2.ad .ag = S.ad .ag ∧ S2.ad .lg = D ∧ S2.ct .lg = some (.lst vs) ∧ DpAll K F1 vs (ss.map restD) ∧ ss.length = i ∧ ∀ s ∈ ss, ScG res.length (1 + m) s)
      ?_ (fun _ _ _ _ => trivial) ?_ ?_
    · refine ⟨F7, S6.new .lg D (.lst []), [], [], ⟨P7.ok.made nD _, ?_⟩, Same.refl _, ?_, Sto.new_ad_eq _ _ _ _, Sto.new_eq _ _ _ _, .nil, rfl, fun _ h => nomatch h⟩
      · obtain ⟨a1, b1, c1, e1, h1, h2⟩ := P7.pen
        exact ⟨a1, b1, c1, (Sto.new_ne _ _ _ (by intro z; cases z)).trans e1, h1, h2⟩
      · exact (Sto.new_ad _ _ _ (by intro z; cases z)).trans (X6.ad _)
    · rintro i x H8 H9 hi ⟨F8, S8, vs8, ss8, P8, s8, a8, l8, c8, d8, n8, g8⟩ ⟨rfl, rfl⟩
      refine ⟨rfl, _, rfl, _, rfl, _, rfl, F8, S8, cn, wl, res.length, 1 + m, by rw [a8], P8, E7.up s8, fun v s F9 S9 H9 hs s9 X9 P9 d9 => ?_⟩
      have c9 : S9.ct .lg = some (.lst vs8) := (X9.ct _ (by intro z; cases z)).trans c8
      have a9 : S9.ad .lg = D := (X9.ad _).trans l8
      have hD := P9.ok.liv _ _ c9
      rw [a9] at hD
      have k9 := P9.ok.put c9 (.lst (vs8 ++ [.ref v]))
      rw [a9] at k9
      have hvl : vs8.length = i := by rw [dpa_length d8, List.length_map, n8]
      refine ⟨_, hD, by omega, F9, S9.put .lg (.lst (vs8 ++ [.ref v])), vs8 ++ [.ref v], ss8 ++ [s], ⟨k9, ?_⟩, s8.trans s9, (X9.ad _).trans a8, a9, Sto.put_eq _ _ _, ?_, ?_, fun t ht => ?_⟩
      · obtain ⟨a1, b1, c1, e1, h1, h2⟩ := P9.pen
        exact ⟨a1, b1, c1, (Sto.put_ne _ _ (by intro z; cases z)).trans e1, h1, h2⟩
      · rw [List.map_append]; exact dpa_append (dpa_same s9 d8) (.cons d9 .nil)
      · rw [List.length_append, n8]; rfl
      · rcases List.mem_append.mp ht with ht | ht
        · exact g8 t ht
        · rw [List.mem_singleton.mp ht]; exact hs
    · rintro H8 ⟨F8, S8, vs8, ss8, P8, s8, a8, l8, c8, d8, n8, g8⟩
      have hD := P8.ok.liv _ _ c8
      rw [l8] at hD
      refine ⟨_, rfl, _, rfl, _, rfl, _, rfl, _, _, rfl, .inl ⟨SqL.of hD, fun t nt => ?_⟩⟩
      have P9 := P8.frz nt (.tup vs8)
      have u9 := P8.up nt (.tup vs8)
      refine ⟨(by show 4 ≤ sizeLine; omega), fun e10 n10 => ?_⟩
      have P10 := P9.frz n10 (.tup [V.ref a, V.ref e3, V.ref e4, V.ref t])
      have u10 := P9.up n10 (.tup [V.ref a, V.ref e3, V.ref e4, V.ref t])
      have U7 : Same F7 _ := s8.trans (u9.trans u10)
      have U6 : Same F6 _ := u7.trans U7
      refine q _ ⟨res, ss8⟩ _ _ _ ⟨?_, ?_, ?_, ?_, hun, fun s hs => ?_⟩ (u.trans (s6.trans U6)) a8 P10 (.tup (SqT.of upd_same) (.cons (.tup (same_T U6 hxs) (dpa_same U6 hdx)) (.cons (.tup (same_T U6 t3') .nil) (.cons (.tup (same_T U6 t4') .nil) (.cons (.tup (same_T u10 (SqT.of upd_same)) (dpa_same (u9.trans u10) d8)) .nil)))))
      · show 1 ≤ ss8.length; omega
      · show ss8.length ≤ 4; omega
      · show 1 ≤ res.length; omega
      · show res.length ≤ 3; omega
      · show ScG res.length ss8.length s
        rw [n8]; exact g8 s hs
def sp__law_cell_at (K : PySem.W.Frag) (A : Adr) : Sp0 := fun vs H Q => ∃ (l : Addr) (xs : List Int), vs = [.ref l, .int 0] ∧ SqL K H l (xs.map V.int) ∧ ∀ i : Int, Q (.int i) H
/-- _law_cell_at -/
theorem ok__law_cell_at (T : Txt K mg w A) : Fn PP w K mg base 1 A._law_cell_at (sp__law_cell_at K A) := by
  refine T.d__law_cell_at.go sc__law_cell_at fun cdv Ar outer s H vs Q hr h => ?_
  have nd := sc__law_cell_at.nd
  obtain ⟨l, xs, rfl, hl, q⟩ := h
  refine ⟨_, (pss_cons (ps_if (pt_cm op_lt (pv 1) (pe_callB (lenK K) (by rfl) T.b_len (by decide +kernel) (pa_cons (pv 0) pa_nil)))
        (pss_one (ps_ret (pe_ix (ixL K) (pv 0) (pv 1) (fun _ _ => rfl))))
        pss_nil)
      (pss_one (ps_ret pe_int))), ?_⟩
  refine ⟨_, rfl, _, rfl, _, _, rfl, .inl hl, _, _, rfl, rfl, _, rfl, ?_⟩
  cases xs with
  | nil =>
    refine ifN' (by decide) ?_
    exact q 0
  | cons x r =>
    refine ifB' (decide_eq_true (by rw [List.map_cons, List.length_cons]; omega)) ?_
    exact ⟨_, rfl, _, rfl, _, _, _, _, rfl, rfl, hl, at0, q x⟩
def sp__law_pen (K : PySem.W.Frag) (A : Adr) : Sp0 := fun vs H Q => ∃ i : Int, vs = [.int i] ∧ ∀ (a b : Int) p, H p = none → -(2 ^ 64) < b → b < 2 ^ 64 → Q (.ref p) (upd H p (.lst [.int a, .int b, .int 0]))
/-- _law_pen -/
theorem ok__law_pen (T : Txt K mg w A) : Fn PP w K mg base 1 A._law_pen (sp__law_pen K A) := by
  refine T.d__law_pen.go sc__law_pen fun cdv Ar outer s H vs Q hr h => ?_
  have nd := sc__law_pen.nd
  obtain ⟨i, rfl, q⟩ := h
  refine ⟨_, (pss_one (ps_ret (pe_lst (pa_cons (pe_callB (call_max2 rfl) (by rfl) T.b_max (by decide +kernel) (pa_cons pe_int (pa_cons (pe_op op_sub (pv 0) (pe_op op_pow pe_int pe_int)) pa_nil))) (pa_cons (pe_op op_add (pe_op op_mod (pv 0) pe_int) pe_int) (pa_cons pe_int pa_nil)))))), ?_⟩
  have h0 : 0 ≤ i % 2147483629 := Int.emod_nonneg _ (by decide)
  have h1 : i % 2147483629 < 2147483629 := Int.emod_lt_of_pos _ (by decide)
  refine ⟨_, rfl, _, _, rfl, rfl, ⟨by decide, by decide, by decide⟩, _, _, rfl, rfl, _, _, rfl, _, rfl, _, _, rfl, rfl, (by show (0 : Int) < 2147483629; decide), _, _, rfl, rfl, z3, fun p np => ?_⟩
  exact q _ _ p np (by omega) (by omega)
end Ev
namespace Ev
open PySem PySem.Spec PyProof.Rows L2
variable {w : World} {K : PySem.W.Frag} {mg : Str → Option Value} {base : Heap} {A : Adr}

mutual
/-- it holds no lists -/
def noL : PyData → Bool
  | .list _ => false
  | .tuple xs => noLs xs
  | .dict _ => true
  | .int _ => true
  | .none => true
  | .bool _ => true
  | .str _ => true
def noLs : List PyData → Bool
  | [] => true
  | x :: xs => noL x && noLs xs
end
mutual
theorem dp_noL {H H' : Hp} (ht : ∀ b o, H b = some o → (∀ xs, o ≠ .lst xs) → H' b = some o) : ∀ (d : PyData) (v : V), noL d = true → Dp K H v d → Dp K H' v d
  | .none, _, _, h => by cases h; exact .non
  | .bool _, _, _, h => by cases h; exact .bl _
  | .int _, _, _, h => by cases h; exact .int _
  | .str _, _, _, h => by cases h; exact .str _
  | .list _, _, n, _ => by simp only [noL] at n; exact nomatch n
  | .dict _, _, _, h => nomatch h
  | .tuple ds, _, n, h => by
    cases h with
    | tup hs hx =>
      refine .tup ?_ (dpa_noL ht ds _ (by simpa only [noL] using n) hx)
      rcases hs with (hs | ⟨o, hs⟩) | hs
      · exact .inl (.inl (ht _ _ hs fun _ z => by cases z))
      · exact .inl (.inr ⟨o, ht _ _ hs fun _ z => by cases z⟩)
      · exact .inr hs
theorem dpa_noL {H H' : Hp} (ht : ∀ b o, H b = some o → (∀ xs, o ≠ .lst xs) → H' b = some o) : ∀ (ds : List PyData) (vs : List V), noLs ds = true → DpAll K H vs ds → DpAll K H' vs ds
  | [], _, _, h => by cases h; exact .nil
  | d :: ds, _, n, h => by
    have n : noL d = true ∧ noLs ds = true := by simpa only [noLs, Bool.and_eq_true] using n
    cases h with
    | cons h1 h2 => exact .cons (dp_noL ht d _ n.1 h1) (dpa_noL ht ds _ n.2 h2)
end
theorem noL_log : ∀ l : List Evt, noLs (l.map evD) = true
  | [] => rfl
  | e :: l => by
    have h : ∀ xs : List Nat, noLs (xs.map fun (x : Nat) => PyData.int x) = true := fun xs => by
      induction xs with
      | nil => rfl
      | cons x xs ih => simp only [List.map_cons, noLs, noL, ih, Bool.and_self]
    simp only [List.map_cons, noLs, noL_log l, evD, noL, h, Bool.and_self]
def sp__law_same (K : PySem.W.Frag) (A : Adr) : Sp0 := fun vs H Q => ∃ (a b : Addr) (d : PyData), vs = [.ref a, .ref b] ∧ Dp K H (.ref a) d ∧ Dp K H (.ref b) d ∧ Rp d ∧ Q (.bl true) H
/-- _law_same -/
theorem ok__law_same (T : Txt K mg w A) : Fn PP w K mg base 1 A._law_same (sp__law_same K A) := by
  refine T.d__law_same.go sc__law_same fun cdv Ar outer s H vs Q hr h => ?_
  have nd := sc__law_same.nd
  obtain ⟨a, b, d, rfl, ha, hb, R, q⟩ := h
  refine ⟨_, (pss_one (ps_ret (pe_cm op_eq (pe_callB (cr_repr hr.gd hr.hu) (by rfl) T.b_repr (by decide +kernel) (pa_cons (pv 0) pa_nil)) (pe_callB (cr_repr hr.gd hr.hu) (by rfl) T.b_repr (by decide +kernel) (pa_cons (pv 1) pa_nil))))), ?_⟩
  refine ⟨_, rfl, a, d, rfl, ha, R.sh, R.nd, R.ln, R.dp, _, rfl, b, d, rfl, hb, R.sh, R.nd, R.ln, R.dp, rfl, ?_⟩
  rw [decide_eq_true rfl]
  exact q
def sp__law_traces_agree (K : PySem.W.Frag) (A : Adr) : Sp0 := fun vs H Q => ∃ (a : Addr) (c : Cfg) (h : Nat), vs = [.ref a, .int h] ∧ Dp K H (.ref a) (cfgD c) ∧ CfG c ∧ h ≤ 60 ∧ ∀ H', Same H H' → Q (.bl true) H'
/-- _law_traces_agree -/
theorem ok__law_traces_agree (T : Txt K mg w A) : Fn PP w K mg base 16 A._law_traces_agree (sp__law_traces_agree K A) := by
  refine T.d__law_traces_agree.go sc__law_traces_agree fun cdv Ar outer s H vs Q hr h => ?_
  have nd := sc__law_traces_agree.nd
  obtain ⟨a, c, h, rfl, hd, C, h60, q⟩ := h
  refine ⟨_, (pss_cons (ps_par (i := 2) (j := 3) rfl nd rfl rfl (by decide) rfl rfl (pa_cons (pe_callB (cr_repr hr.gd hr.hu) (by rfl) T.b_repr (by decide +kernel) (pa_cons (pv 0) pa_nil)) (pa_cons (pe_f (ok__law_events T) (hr.mono (by decide)) (by rfl) T.g__law_events T.d__law_events.kp (pa_cons (pv 0) (pa_cons (pv 1) pa_nil))) pa_nil)) rfl)
      (pss_cons (ps_if (pt_not (pt_val (pe_f (ok__law_same T) (hr.mono (by decide)) (by rfl) T.g__law_same T.d__law_same.kp (pa_cons (pe_lc (own := [("_law_look", 6)]) (g := gName 6) (tt := tYes) rfl nd (pi_range1 (by rfl) T.b_range (pa_cons pe_int pa_nil)) (blkOk_by (own := [("_law_look", 6)]) (N := N__law_traces_agree) (sc := defScope s__law_traces_agree) (by decide +kernel))
        (fun _ _ _ _ _ => (pg_name (i := 6) nd rfl (Or.inl rfl))) (fun _ _ _ _ _ => pts_nil)
        (fun _ _ _ _ _ => (pe_f (ok_trace T) (hr.mono (by decide)) (by rfl) T.g_trace T.d_trace.kp (pa_cons (pv 0) (pa_cons (pv 1) pa_nil))))) (pa_cons (pe_lst (pa_cons (pv 3) (pa_cons (pv 3) pa_nil))) pa_nil)))))
        (pss_one (ps_ret pe_bl))
        pss_nil)
      (pss_cons (ps_for PassesOwn.never rfl (pi_range1 (by rfl) T.b_range (pa_cons (pe_callB (lenK K) (by rfl) T.b_len (by decide +kernel) (pa_cons (pe_ix (ixT K) (pv 0) pe_int (fun _ _ => rfl)) pa_nil)) pa_nil)) (pg_name (i := 4) nd rfl (Or.inr rfl))
        (pss_cons (ps_set (i := 5) nd rfl (Or.inl rfl) (pe_callTy (tupOf K) (by rfl) T.b_tuple (by decide +kernel) (pa_cons (pe_lc (own := [("_law_event", 7)]) (g := gName 7) (tt := _) rfl nd (pi_tup (pv 3)) (blkOk_by (own := [("_law_event", 7)]) (N := N__law_traces_agree) (sc := defScope s__law_traces_agree) (by decide +kernel))
        (fun _ _ _ _ _ => (pg_name (i := 7) nd rfl (Or.inl rfl))) (fun _ _ _ _ _ => (pts_one (pt_cm op_eq (pe_ix (ixT K) (pv 7) pe_int (fun _ _ => rfl)) (pv 4))))
        (fun _ _ _ _ _ => (pv 7))) pa_nil)))
        (pss_one (ps_if (pt_not (pt_val (pe_f (ok__law_same T) (hr.mono (by decide)) (by rfl) T.g__law_same T.d__law_same.kp (pa_cons (pe_f (ok_own_trace T) (hr.mono (by decide)) (by rfl) T.g_own_trace T.d_own_trace.kp (pa_cons (pv 0) (pa_cons (pv 4) (pa_cons (pv 1) pa_nil)))) (pa_cons (pv 5) pa_nil)))))
          (pss_one (ps_ret pe_bl))
          pss_nil))))
      (pss_one (ps_ret (pe_cm op_eq (pe_callB (cr_repr hr.gd hr.hu) (by rfl) T.b_repr (by decide +kernel) (pa_cons (pv 0) pa_nil)) (pv 2))))))), ?_⟩
  obtain ⟨k, mE, hR, gE⟩ := C.fit.runs h60
  have R := C.rp
  have hpot := gE.gc.pot
  have hlen : mE.log.length ≤ 3000 := by omega
  have RL := rp_log (n := c.n) C.nLe gE.gc.evs hlen
  refine ⟨_, rfl, a, _, rfl, hd, R.sh, R.nd, R.ln, R.dp, _, rfl, _, rfl, c, .ref a, h, k, mE, rfl, hd, C.fit, h60, hR, fun t H1 s1 d1 => ?_⟩
  refine ⟨_, _, rfl, ?_⟩
  have hd1 := dp_same s1 hd
  have big3 := big3
  refine ⟨_, rfl, by omega, by omega, fun D nD => ?_⟩
  refine lc_it (walk_range (lo := 0) (n := 2)) (fun i H2 => Same H1 H2 ∧ ∃ vs : List V, H2 D = some (.lst vs) ∧ vs.length = i ∧ DpAll K H2 vs (List.replicate i (.tuple (mE.log.map evD)))) ⟨same_upd nD, [], upd_same, rfl, .nil⟩ (fun _ _ _ _ => trivial) ?_ ?_
  · rintro i x H2 H3 hi ⟨s2, vs2, hD, n2, d2⟩ ⟨rfl, rfl⟩
    refine ⟨rfl, _, rfl, _, rfl, a, c, h, k, mE, rfl, dp_same s2 hd1, C.mod, C.fit, h60, hR, fun t3 H4 s3 d3 => ?_⟩
    have s4 := s2.trans s3
    have hD4 := s3 _ _ hD
    refine ⟨vs2, hD4, by omega, fun b o e => ?_, vs2 ++ [.ref t3], upd_same, by rw [List.length_append, n2]; rfl, ?_⟩
    · rw [upd_ne (ne_of_none e nD)]; exact s4 _ _ e
    · have hne : ∀ b o, H4 b = some o → (∀ xs, o ≠ .lst xs) → upd H4 D (.lst (vs2 ++ [.ref t3])) b = some o := fun b o e h9 => by
        rw [upd_ne (fun z => by rw [z, hD4] at e; exact h9 _ (Option.some.inj e).symm)]; exact e
      have nl : noL (.tuple (mE.log.map evD)) = true := by simpa only [noL] using noL_log mE.log
      have nls : noLs (List.replicate i (.tuple (mE.log.map evD))) = true := by
        clear d2 n2
        induction i with
        | zero => rfl
        | succ i ih => rw [List.replicate_succ]; simp only [noLs, nl, ih (by omega), Bool.and_self]
      rw [List.replicate_succ']
      exact dpa_append (dpa_noL hne _ _ nls (dpa_same s3 d2)) (.cons (dp_noL hne _ _ nl d3) .nil)
  · rintro H2 ⟨s2, vs2, hD, n2, d2⟩
    refine ⟨_, rfl, _, rfl, z2, fun l3 n3 => ?_⟩
    have s3 := s2.trans (same_upd n3 (o := .lst [V.ref t, V.ref t]))
    refine ⟨D, l3, .list [.tuple (mE.log.map evD), .tuple (mE.log.map evD)], rfl, ?_, ?_, RL.2, ?_⟩
    · exact .lst (SqL.of (same_upd n3 _ _ hD)) (dpa_same (same_upd n3) d2)
    · exact .lst (SqL.of upd_same) (.cons (dp_same s3 d1) (.cons (dp_same s3 d1) .nil))
    refine ⟨_, rfl, ?_⟩
    refine ifN' rfl ?_
    obtain ⟨bq, w1, w2, w3, w4, e, hs0, dd1, dd2, dd3, dd4⟩ := dp_tup4 hd1
    cases e
    obtain ⟨b4, r4, rfl, hs4, dr4⟩ := dp_tupI dd4
    have hr4 : r4.length = c.n := by rw [dpa_length dr4, List.length_map]; rfl
    have hn4 := C.nLe
    refine ⟨_, rfl, _, _, _, _, rfl, rfl, same_T s3 hs0, at3, _, _, rfl, .inr (same_T s3 hs4), _, rfl, by omega, by omega, ?_⟩
    rw [hr4]
    have ejn : ((c.n : Nat) : Int).toNat = c.n := by omega
    rw [ejn]
    refine for_range (lo := 0) (n := c.n) (fun i σ H4 => Same H1 H4 ∧ ∃ z1 z2, σ = [some (.ref a), some (.int h), some (.str (cfgD c).shown), some (.ref t), z1, z2, none, none]) ⟨s3, none, none, rfl⟩ ?_ ?_
    · rintro i σ H4 hi ⟨s4, z1, z2', rfl⟩
      have e0 : (0 : Int) + ((i : Nat) : Int) = (i : Nat) := by omega
      obtain ⟨_, xs, e, hs, hx⟩ := dp_tupI (dp_same s4 d1)
      cases e
      obtain ⟨zs, rfl, ez, hz⟩ := pairs_of hx
      have lz : zs.length = mE.log.length := by rw [ez, List.length_map]
      refine ⟨_, rfl, t, rfl, ⟨_, hs⟩, fun D5 nD5 => lc_T (l := zs) (h := (·.1)) (fun z => z.2.p == i) (·.1) nD5 hs (by omega) (fun z hz' H5 s5 Y N hY hN => ?_) fun H5 s5 eD => ?_⟩
      · obtain ⟨b, r, eb, hb⟩ := evt_own (dp_same s5 (hz z hz'))
        refine ⟨rfl, _, by rw [eb]; rfl, _, _, _, _, rfl, rfl, hb, at1, _, rfl, rfl, _, rfl, ?_⟩
        by_cases e : z.2.p = i
        · exact ifB' (by rw [e0, dint, decide_eq_true e]) ⟨_, rfl, hY (by simpa using e) _ (Same.refl _)⟩
        · exact ifN' (by rw [e0, dint, decide_eq_false e]) (hN (by simpa using e) _ (Same.refl _))
      · refine ⟨_, _, rfl, .inl ⟨SqL.of eD, fun t6 n6 => ?_⟩⟩
        have s6 := same_upd n6 (o := .tup ((zs.filter fun z => z.2.p == i).map (·.1)))
        have d6 : Dp K (upd H5 t6 (.tup ((zs.filter fun z => z.2.p == i).map (·.1)))) (.ref t6) (.tuple ((mE.log.filter fun e => e.p == i).map evD)) := by
          refine .tup (SqT.of upd_same) ?_
          have hall : ∀ z ∈ zs.filter fun z => z.2.p == i, Dp K (upd H5 t6 (.tup ((zs.filter fun z => z.2.p == i).map (·.1)))) z.1 (evD z.2) := fun z hm => dp_same (s5.trans s6) (hz z (List.mem_filter.mp hm).1)
          have := dpa_pairs hall
          rw [ez, List.filter_map]
          exact this
        have s7 := s4.trans (s5.trans s6)
        refine ⟨_, rfl, _, rfl, _, rfl, a, c, i, h, k, mE, by rw [e0], dp_same s7 hd1, C.mod, C.fit, hi, h60, by omega, hR, fun t8 H8 s8 d8 => ?_⟩
        have R8 := (rp_log (n := c.n) C.nLe (l := mE.log.filter fun e => e.p == i) (fun e he => gE.gc.evs e (List.mem_filter.mp he).1) (Nat.le_trans (List.length_filter_le ..) hlen)).1
        refine ⟨_, rfl, t8, t6, _, rfl, d8, dp_same s8 d6, R8, ?_⟩
        refine ⟨_, rfl, ?_⟩
        refine ifN' rfl ?_
        exact ⟨s7.trans s8, _, _, rfl⟩
    · rintro σ H4 ⟨s4, z1, z2', rfl⟩
      refine ⟨_, rfl, a, _, rfl, dp_same s4 hd1, R.sh, R.nd, R.ln, R.dp, _, rfl, rfl, ?_⟩
      rw [decide_eq_true rfl]
      exact q _ (s1.trans s4)
end Ev
namespace Ev
open PySem PySem.Spec PyProof.Rows L2
variable {w : World} {K : PySem.W.Frag} {mg : Str → Option Value} {base : Heap} {A : Adr}

def stoP (p : Addr) (o : HO) : Sto := ⟨fun _ => p, fun r => if r = .ag then some o else none⟩
theorem GS.zero {H : Hp} {p : Addr} {a b c : Int} (n : H p = none) (h1 : -(2 ^ 64) < b) (h2 : b < 2 ^ 64) : GS H (stoP p (.lst [.int a, .int b, .int c])) (upd H p (.lst [.int a, .int b, .int c])) := by
  have one : ∀ r o, (stoP p (.lst [.int a, .int b, .int c])).ct r = some o → r = .ag := fun r o e => by
    by_cases h : r = .ag
    · exact h
    · have e : (if r = .ag then some (HO.lst [.int a, .int b, .int c]) else none) = some o := e
      rw [if_neg h] at e; cases e
  refine ⟨⟨same_upd n, fun r o e => ?_, fun _ _ _ => n, fun r r' o o' e e' _ => by rw [one r o e, one r' o' e']⟩, a, b, c, rfl, h1, h2⟩
  obtain rfl := one r o e
  have e : some (HO.lst [.int a, .int b, .int c]) = some o := e
  rw [← e]; exact upd_same
theorem cut_ints {xs : List Int} {lo hi : Option Int} : ∀ v ∈ cutV (xs.map V.int) lo hi, ∃ i : Int, v = .int i := fun v hv => by
  unfold cutV at hv
  obtain ⟨i, _, e⟩ := List.mem_map.mp (List.mem_of_mem_drop (List.mem_of_mem_take hv))
  exact ⟨i, e.symm⟩
def sp_law (K : PySem.W.Frag) (A : Adr) : Sp0 := fun vs H Q => ∃ (l : Addr) (xs : List Int), vs = [.ref l] ∧ SqL K H l (xs.map V.int) ∧ xs.length ≤ 1000 ∧ ∀ H', Q (.bl true) H'
/-- law -/
theorem ok_law (T : Txt K mg w A) : Fn PP w K mg base 17 A.law (sp_law K A) := by
  refine T.d_law.go sc_law fun cdv Ar outer s H vs Q hr h => ?_
  have nd := sc_law.nd
  obtain ⟨l, xs, rfl, hl, hxl, q⟩ := h
  refine ⟨_, (pss_cons (ps_for PassesOwn.never rfl (pi_list (pe_op op_cat (pe_lst (pa_cons (pe_f (ok__law_cell_at T) (hr.mono (by decide)) (by rfl) T.g__law_cell_at T.d__law_cell_at.kp (pa_cons (pv 0) (pa_cons pe_int pa_nil))) pa_nil)) (pe_slice (slL K) (pv 0) (po_some pe_int) (po_some pe_int)))) (pg_name (i := 1) nd rfl (Or.inl rfl))
        (pss_cons (ps_set (i := 2) nd rfl (Or.inl rfl) (pe_f (ok__law_pen T) (hr.mono (by decide)) (by rfl) T.g__law_pen T.d__law_pen.kp (pa_cons (pv 1) pa_nil)))
        (pss_one (ps_for PassesOwn.never rfl (pi_range1 (by rfl) T.b_range (pa_cons pe_int pa_nil)) (pg_name (i := 3) nd rfl (Or.inl rfl))
          (pss_cons (ps_set (i := 4) nd rfl (Or.inl rfl) (pe_f (ok__law_model T) (hr.mono (by decide)) (by rfl) T.g__law_model T.d__law_model.kp (pa_cons (pv 2) (pa_cons (pe_lst (pa_cons pe_str (pa_cons pe_str (pa_cons pe_str (pa_cons pe_str (pa_cons pe_str pa_nil)))))) (pa_cons (pe_lst (pa_cons pe_str (pa_cons pe_str (pa_cons pe_str pa_nil)))) (pa_cons pe_int pa_nil))))))
          (pss_one (ps_if (pt_not (pt_val (pe_f (ok__law_traces_agree T) (hr.mono (by decide)) (by rfl) T.g__law_traces_agree T.d__law_traces_agree.kp (pa_cons (pv 4) (pa_cons (pe_f (ok__law_pick T) (hr.mono (by decide)) (by rfl) T.g__law_pick T.d__law_pick.kp (pa_cons (pv 2) (pa_cons (pe_lst (pa_cons pe_int (pa_cons pe_int (pa_cons pe_int (pa_cons pe_int (pa_cons pe_int (pa_cons pe_int pa_nil))))))) pa_nil))) pa_nil)))))
            (pss_one (ps_ret pe_bl))
            pss_nil)))))))
      (pss_one (ps_ret pe_bl))), ?_⟩
  have big3 := big3
  have hcl := cutV_length (xs.map V.int) (some 1) (some 3)
  rw [List.length_map] at hcl
  have hci := cut_ints (xs := xs) (lo := some 1) (hi := some 3)
  refine ⟨_, rfl, l, xs, rfl, hl, fun x0 => ⟨z1, fun l1 n1 => ?_⟩⟩
  have s1 := same_upd n1 (o := .lst [V.int x0])
  refine ⟨_, rfl, _, rfl, _, rfl, l, _, rfl, s1.seq hl, fun l2 n2 => ?_⟩
  have s2 := same_upd n2 (o := .lst (cutV (xs.map V.int) (some 1) (some 3)))
  refine ⟨l1, l2, [V.int x0], cutV (xs.map V.int) (some 1) (some 3), rfl, rfl, s2 _ _ upd_same, upd_same, by show 1 + _ ≤ sizeLine; omega, fun l3 n3 => ?_⟩
  have hcs : ∀ v ∈ [V.int x0] ++ cutV (xs.map V.int) (some 1) (some 3), ∃ i : Int, v = .int i := fun v hv => by
    rcases List.mem_append.mp hv with hv | hv
    · exact ⟨x0, List.mem_singleton.mp hv⟩
    · exact hci v hv
  generalize [V.int x0] ++ cutV (xs.map V.int) (some 1) (some 3) = cs at *
  have hcl3 := upd_same (H := upd (upd H l1 (.lst [V.int x0])) l2 (.lst (cutV (xs.map V.int) (some 1) (some 3)))) (a := l3) (o := .lst cs)
  generalize upd (upd (upd H l1 (.lst [V.int x0])) l2 (.lst (cutV (xs.map V.int) (some 1) (some 3)))) l3 (.lst cs) = H3 at *
  refine ⟨_, rfl, ⟨_, SqL.of hcl3⟩, for_it (walk_list (xs := cs)) (fun i σ H4 => Same H3 H4 ∧ ∃ y1 y2 y3 y4, σ = [some (.ref l), y1, y2, y3, y4]) ⟨Same.refl _, none, none, none, none, rfl⟩ (fun i σ H4 _ h => h.1.seq (SqL.of hcl3)) ?_ ?_⟩
  · rintro i v σ H4 H5 hi ⟨s4, y1, y2, y3, y4, rfl⟩ ⟨rfl, hv⟩
    obtain ⟨ce, rfl⟩ := hcs v (List.mem_of_getElem? hv)
    refine ⟨_, rfl, ce, rfl, fun a b pn npn hb1 hb2 => ?_⟩
    have P0 := GS.zero (a := a) (b := b) (c := 0) npn hb1 hb2
    refine ⟨_, rfl, by omega, by omega, ?_⟩
    refine for_range (lo := 0) (n := 3) (fun j σ H6 => ∃ F1 S1, GS F1 S1 H6 ∧ Same H5 F1 ∧ S1.ad .ag = pn ∧ ∃ y3 y4, σ = [some (.ref l), some (.int ce), some (.ref pn), y3, y4]) ⟨H5, _, P0, Same.refl _, rfl, _, _, rfl⟩ ?_ ?_
    · rintro j σ H6 hj ⟨F1, S1, P1, sF, eA, y3, y4, rfl⟩
      refine ⟨_, rfl, (by show 5 ≤ sizeLine; omega), fun wl nwl => ⟨(by show 3 ≤ sizeLine; omega), fun dl ndl => ?_⟩⟩
      have P2 := P1.frz nwl (.lst wordsV)
      have u2 := P1.up nwl (.lst wordsV)
      have P3 := P2.frz ndl (.lst discV)
      have u3 := P2.up ndl (.lst discV)
      refine ⟨_, S1, wl, dl, by rw [eA], P3, u3.seq (SqL.of upd_same), SqL.of upd_same, fun v c F4 S4 H7 hC s5 a5 P4 d4 => ?_⟩
      refine ⟨_, rfl, _, rfl, (by show 6 ≤ sizeLine; omega), fun hl nhl => ?_⟩
      have P5 := P4.frz nhl (.lst [V.int 0, V.int 1, V.int 7, V.int 20, V.int 40, V.int 60])
      have u5 := P4.up nhl (.lst [V.int 0, V.int 1, V.int 7, V.int 20, V.int 40, V.int 60])
      refine ⟨_, S4, hl, _, by rw [a5, eA], P5, SqL.of upd_same, by show 1 ≤ 6; decide, by show 6 ≤ 1000; decide, fun v6 S6 H8 hv6 X6 P6 => ?_⟩
      obtain ⟨h, rfl, hh⟩ : ∃ d : Nat, v6 = .int (d : Nat) ∧ d ≤ 60 := by
        simp only [List.mem_cons, List.not_mem_nil, or_false] at hv6
        rcases hv6 with h | h | h | h | h | h
        · exact ⟨0, h, by omega⟩
        · exact ⟨1, h, by omega⟩
        · exact ⟨7, h, by omega⟩
        · exact ⟨20, h, by omega⟩
        · exact ⟨40, h, by omega⟩
        · exact ⟨60, h, by omega⟩
      refine ⟨v, c, h, rfl, dp_same (u5.trans P6.ok.sm) d4, hC, hh, fun H9 s9 => ?_⟩
      refine ⟨_, rfl, ?_⟩
      refine ifN' rfl ?_
      exact ⟨_, S6, P6.same s9, sF.trans (u2.trans (u3.trans (s5.trans u5))), (X6.ad _).trans (a5.trans eA), _, _, rfl⟩
    · rintro σ H6 ⟨F1, S1, P1, sF, eA, y3, y4, rfl⟩
      exact ⟨s4.trans (sF.trans P1.ok.sm), _, _, _, _, rfl⟩
  · rintro σ H4 ⟨s4, y1, y2, y3, y4, rfl⟩
    exact q H4
end Ev
/-! The call of the law from the outside, by a promise of this proof's kind. -/
namespace Ev
open PySem PySem.Spec PyProof.Rows L2
/-- the abstract heap at the call: the script alone, or nothing -/
def scriptHp (t : Option (Addr × Obj × List V)) : Hp := fun b => match t with
  | none => none
  | some (a, o, xs) => if b = a then some (.frz o (.lst xs)) else none
theorem scriptHp_inv {t : Option (Addr × Obj × List V)} {b : Addr} {u : HO} (h : scriptHp t b = some u) : ∃ a o xs, t = some (a, o, xs) ∧ b = a ∧ u = .frz o (.lst xs) := by
  cases t with
  | none => cases h
  | some q =>
    obtain ⟨a, o, xs⟩ := q
    have h : (if b = a then some (HO.frz o (.lst xs)) else none) = some u := h
    by_cases e : b = a
    · rw [if_pos e] at h; cases h; exact ⟨a, o, xs, rfl, e, rfl⟩
    · rw [if_neg e] at h; cases h
section
variable {P : Program} {w : World} {K : PySem.W.Frag} {mg mb : Str → Option Value} {k : Nat} {fa sa : Addr} {sp : Sp0} {st : Shared} {lv : List Value} {li : List Int} {so : Obj}
theorem law_go (inK : K.In st.heap) (nm : st.heap.Ns mainGlobals mg) (nb : st.heap.Ns builtinsNs mb) (bi : ∀ y : Str, y ≠ "__name__" → mb y = bootBuiltins y) (nl : st.heap.NoLimit) (ng : st.gens = #[])
    (at_ : st.heap.get? sa = some so) (hso : so = { cls := .type "list", data := .seq lv.toArray }) (rm : Rm k callerA) (F : ∀ base : Heap, K.In base → base.Ns mainGlobals mg → Fn P w K mg base k fa sp)
    (t : Option (Addr × Obj × List V)) (only : ∀ a o xs, t = some (a, o, xs) → a = sa ∧ K.lookup sa = none ∧ HOk P w (scriptHp t) st.heap) (ok0 : HOk P w (scriptHp t) st.heap) (say : sp [.ref sa] (scriptHp t) fun v _ => v = .bl true) :
    codeAny (model P w) callerA (.call (.ref fa) ⟨[.ref sa], []⟩) (fun r s' => r = .ok (.ret (.bool true)) ∧ OldK st.heap s'.heap ∧ s'.os = st.os ∧ AllBare s'.gens) st := by
  have free : ∀ b, b ≠ sa → scriptHp t b = none := fun b hb => by
    cases q : scriptHp t b with
    | none => rfl
    | some u =>
      obtain ⟨a, o, xs, e, eb, _⟩ := scriptHp_inv q
      exact absurd (eb.trans (only a o xs e).1) hb
  have dfree : ∀ {b : Addr} {o : Obj} {es : Array DictEntry} {ep : Nat}, st.heap.get? b = some o → o.data = .dict es ep → scriptHp t b = none := fun {b o es ep} e d => free b fun z => by
    subst z
    rw [at_] at e
    cases e
    rw [hso] at d
    cases d
  have hid : ∀ {b : Addr} {m : Str → Option Value}, st.heap.Ns b m → (hidT st.heap (scriptHp t)).Ns b m := by
    intro b m hm
    obtain ⟨o, es, ep, e, d, r⟩ := hm
    exact ⟨o, es, ep, hidT_get e (dfree e d), d, r⟩
  have inB : K.In (hidT st.heap (scriptHp t)) := by
    intro b o e
    refine hidT_get (inK b o e) ?_
    cases q : scriptHp t b with
    | none => rfl
    | some u =>
      obtain ⟨a, o', xs, e', eb, _⟩ := scriptHp_inv q
      obtain ⟨e1, e2, _⟩ := only a o' xs e'
      rw [eb, e1, e2] at e
      cases e
  have md : Mod K mg (hidT st.heap (scriptHp t)) := by
    refine ⟨inB, hid nm, ⟨mb, hid nb, bi⟩, ?_⟩
    obtain ⟨mc, q1, q2⟩ := nl
    exact ⟨mc, hid q1, q2⟩
  have env : Env0 P w K mg (hidT st.heap (scriptHp t)) callerA [] st (scriptHp t) := by
    refine ⟨rfl, md, fun b o e => of_hidT e, ?_, trivial, fun b hb => ?_, ok0, .of_eq ng⟩
    · exact Nat.le_of_eq (hidT_size _ _)
    · exact absurd (show b ∈ ([] : List Addr) from hb) List.not_mem_nil
  refine codeAny_mono (F _ inB (hid nm) callerA [] st (scriptHp t) [.ref sa] [.ref sa] _ rm env (.cons rfl .nil) say) ?_
  intro r s' hq
  match r, hq with
  | .error e, hq => exact hq.elim
  | .ok .next, hq => exact hq.elim
  | .ok .brk, hq => exact hq.elim
  | .ok .cont, hq => exact hq.elim
  | .ok (.ret u), hq =>
    obtain ⟨v, H2, hos, hba, hun, hok, hrel, hv⟩ := hq
    obtain rfl : v = .bl true := hv
    obtain rfl : u = Value.bool true := hrel
    refine ⟨rfl, ?_, hos, hba⟩
    refine OldK.of_keep fun b o e => ?_
    cases q : scriptHp t b with
    | none => exact hun.keep b o e q (fun z => absurd (show b ∈ ([] : List Addr) from z) List.not_mem_nil) List.not_mem_nil
    | some u =>
      obtain ⟨a, o', xs, _, _, eu⟩ := scriptHp_inv q
      subst eu
      have g1 := (ok0 b _ q).1
      have g2 := (hok b _ (hun.frzs b o' _ q)).1
      rw [e] at g1
      cases g1
      exact g2
theorem law_enter (inK : K.In st.heap) (nm : st.heap.Ns mainGlobals mg) (nb : st.heap.Ns builtinsNs mb) (bi : ∀ y : Str, y ≠ "__name__" → mb y = bootBuiltins y) (nl : st.heap.NoLimit) (ng : st.gens = #[])
    (at_ : st.heap.get? sa = some { cls := .type "list", data := .seq lv.toArray }) (iar : IntsAre lv li) (sz : li.length ≤ sizeLine) (rm : Rm k callerA) (F : ∀ base : Heap, K.In base → base.Ns mainGlobals mg → Fn P w K mg base k fa sp)
    (say : ∀ H : Hp, SqL K H sa (li.map V.int) → sp [.ref sa] H fun v _ => v = .bl true) :
    codeAny (model P w) callerA (.call (.ref fa) ⟨[.ref sa], []⟩) (fun r s' => r = .ok (.ret (.bool true)) ∧ OldK st.heap s'.heap ∧ s'.os = st.os ∧ AllBare s'.gens) st := by
  have rel := vals_ints iar
  have len := iar.length
  cases hk : K.lookup sa with
  | some o =>
    have e := inK sa o hk
    rw [at_] at e
    cases e
    refine law_go inK nm nb bi nl ng at_ rfl rm F none (fun _ _ _ z => nomatch z) (fun b u z => nomatch (show (none : Option HO) = some u from z)) (say _ ?_)
    refine .inr ⟨_, lv.toArray, _, hk, rfl, rfl, rfl, ?_, by simpa using rel⟩
    rw [List.size_toArray, len]; exact sz
  | none =>
    have hok : HOk P w (scriptHp (some (sa, { cls := .type "list", data := .seq lv.toArray }, li.map V.int))) st.heap := by
      intro b u z
      obtain ⟨a, o, xs, e, eb, eu⟩ := scriptHp_inv z
      cases e
      subst eb eu
      exact ⟨at_, by rw [List.length_map]; exact sz, lv, _, rel, at_⟩
    refine law_go inK nm nb bi nl ng at_ rfl rm F (some (sa, { cls := .type "list", data := .seq lv.toArray }, li.map V.int)) (fun a o xs z => ?_) hok (say _ ?_)
    · cases z; exact ⟨rfl, hk, hok⟩
    · exact .inl (.inr ⟨_, if_pos rfl⟩)
end
end Ev
open PySem PySem.W PySem.Calls PyProof.Rows
theorem PySem.Challenge.cw_eventsim_k22_whole_traces_of_preemption_holds : PySem.Challenge.rw_eventsim_k22_whole_traces_of_preemption.Holds := by
  w_on; o_law
  refine HandSHeadRun.head_any (r := OpenLaw.row PySem.Challenge.rw_eventsim_k22_whole_traces_of_preemption) (q := Ev.qv) (H := Ev.hookEv) (ob := Ev.obEv) (M := 6500) (loose := Ev.names) (d := HandSHeadRun.topDef (OpenLaw.row PySem.Challenge.rw_eventsim_k22_whole_traces_of_preemption).prog 89) (kwd := []) Ev.obEv_eq
    (by kernel_rfl) (fun s => by kernel_rfl) Ev.run (by kernel_rfl) (by kernel_rfl) (by kernel_rfl) (by rfl) (by first | assumption | decide +kernel) (by decide +kernel) ⟨rfl, rfl, rfl, rfl, rfl, by decide +kernel⟩ ?hw ?hc
  case hw => w_witness2
  case hc =>
    refine Att.attach_call (l := PySem.Challenge.rw_eventsim_k22_whole_traces_of_preemption) (n := 63) rfl (by kernel_rfl) ?_
    intro w s₀ s₁ mg mb fa o pm cd doc a vs ns G Y ho hd hcd hmg hobj hints hlen hg
    obtain ⟨K, KX, c⟩ := Y
    have hmg2 : mg ("law" : PySem.Str) = some (.ref fa) := by
      have e : (HandSHeadRun.topDef (OpenLaw.row PySem.Challenge.rw_eventsim_k22_whole_traces_of_preemption).prog 89).name = ("law" : PySem.Str) := by kernel_rfl
      rw [← e]
      exact hmg
    have T := Ev.to_txt KX G.T.g c
    have e := hmg2.symm.trans (He.glo_ok (x := "law") KX G.T.g (Ev.said_fa c 45))
    cases e
    refine Ev.law_enter (k := 17) (sp := Ev.sp_law K (Ev.adr K)) KX G.T.g G.T.b G.T.builtins G.T.nolimit hg hobj hints (Nat.le_trans hlen (by decide)) ⟨⟨rfl, by decide, by decide⟩, rfl⟩ (fun base _ _ => Ev.ok_law T) ?_
    intro H hS
    exact ⟨a, ns, rfl, hS, Nat.le_trans hlen (by decide), fun _ => rfl⟩
