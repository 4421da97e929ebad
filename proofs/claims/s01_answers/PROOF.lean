import PyProof.Rows.All
import Wide.All
import OpenK.AllK
import Wide.FinOn
import Open.SpecLaws
import KE.OsGo
import HandS.ForSpec
import HandS.Comp
import HandS.Iter
import HandS.Evl
import HandS.Walk
import PySem.Challenge.RW_courttable_s01_answers
set_option Elab.async false
set_option linter.all false
set_option maxRecDepth 100000
set_option maxHeartbeats 4000000
/-! The program as plain functions over plain records: one function a def. -/
namespace Ct

structure Pl where
  number : Int
  points : Int
  personal : Int
  technical : Int
  heavy : Int
  sentOff : Bool
  onCourt : Bool

structure Tm where
  players : List Pl
  fouls : Int
  timeouts : Int

structure Gm where
  a : Tm
  b : Tm
  period : Int
  left : Int
  shot : Int
  many : Int
  side : Int
  behind : Int
  ball : Int
  arrow : Int
  missed : Int
  ring : Int
  winner : Int

def b2i (b : Bool) : Int := if b = true then 1 else 0

/-! ### players -/
def Pl.fresh (n : Int) (c : Bool) : Pl := ⟨n, 0, 0, 0, 0, false, c⟩
def Pl.isOut (p : Pl) : Bool := (p.sentOff || decide (2 ≤ p.technical + p.heavy)) || decide (5 ≤ p.personal + p.technical + p.heavy)
def Pl.isBench (p : Pl) : Bool := !p.onCourt && !p.isOut
def Pl.counted (p : Pl) (k : Int) : Pl :=
  if k = 0 then { p with personal := p.personal + 1 } else if k = 1 then { p with technical := p.technical + 1 } else { p with heavy := p.heavy + 1 }
def Pl.sent (p : Pl) (k : Int) : Pl := if k = 3 then { p with sentOff := true } else p
def Pl.left (p : Pl) : Pl := if p.isOut = true then { p with onCourt := false } else p
def Pl.noted (p : Pl) (k : Int) : Pl := ((p.counted k).sent k).left
def Pl.written (p : Pl) : List Int := [p.number, p.points, p.personal, p.technical, p.heavy, b2i p.isOut, b2i p.onCourt]

/-! ### words -/
def isSide (n : Int) : Bool := decide (n = 0) || decide (n = 1)
def isNumber (n : Int) : Bool := decide (0 ≤ n) && decide (n ≤ 99)

/-! ### teams -/
def freshFrom : Nat → List Int → List Pl
  | _, [] => []
  | i, n :: r => Pl.fresh n (decide (i < 5)) :: freshFrom (i + 1) r
def Tm.fresh (ns : List Int) : Tm := ⟨freshFrom 0 ns, 0, 0⟩
/-- from a place on: every number is right and none of those ahead of it -/
def goodFrom : List Int → List Int → Bool
  | _, [] => true
  | pre, n :: r => isNumber n && !pre.contains n && goodFrom (pre ++ [n]) r
def arePlayers (ns : List Int) : Bool := decide (5 ≤ ns.length) && decide (ns.length ≤ 12) && goodFrom [] ns
def Tm.points (t : Tm) : Int := (t.players.map fun p => p.points).sum
def onC (n : Int) (p : Pl) : Bool := decide (p.number = n) && p.onCourt
def onB (n : Int) (p : Pl) : Bool := decide (p.number = n) && p.isBench
def Tm.findC (t : Tm) (n : Int) : Option Nat := t.players.findIdx? (onC n)
def Tm.findB (t : Tm) (n : Int) : Option Nat := t.players.findIdx? (onB n)
def Tm.many (t : Tm) : Int := ((t.players.filter fun p => p.onCourt).length : Nat)
def Tm.short (t : Tm) : Bool := decide (t.many < 5) && t.players.any fun p => p.isBench
def Tm.sheet (t : Tm) : List Int := [t.points, t.fouls, t.timeouts] ++ t.players.flatMap fun p => p.written
def Tm.at (t : Tm) (i : Nat) (f : Pl → Pl) : Tm := { t with players := t.players.modify i f }

/-! ### the game -/
def Gm.fresh (x y : List Int) : Gm := ⟨Tm.fresh x, Tm.fresh y, 0, 0, 0, 0, 0, 0, -1, 0, 0, 0, -1⟩
def Gm.team (m : Gm) (s : Int) : Tm := if s = 0 then m.a else m.b
def Gm.put (m : Gm) (s : Int) (t : Tm) : Gm := if s = 0 then { m with a := t } else { m with b := t }
def Gm.stands (m : Gm) : List Int := [m.a.points, m.b.points, m.period, m.left, m.shot, m.ball, m.arrow, m.many, m.winner]
def standsO : Option Gm → List Int
  | none => [0, 0, 0, 0, 0, -1, 0, 0, -1]
  | some m => m.stands
def isPlayed : Option Gm → Bool
  | none => false
  | some m => decide (0 < m.period) && decide (m.winner = -1)
def refusal (g : Option Gm) (right : Bool) : Int := if right = false then -1 else if isPlayed g = false then -2 else 0
def Gm.anyShort (m : Gm) : Bool := m.a.short || m.b.short
def Gm.stop (m : Gm) : Int := if 0 < m.many then -3 else if m.anyShort = true then -6 else 0
def refusalP (g : Option Gm) (right : Bool) : Int :=
  if refusal g right = 0 then (match g with | none => 0 | some m => m.stop) else refusal g right
def Gm.give (m : Gm) (s t : Int) : Gm := { m with ball := s, shot := t }
def Gm.missBy (m : Gm) (s r : Int) : Gm := { m with ball := -1, missed := s, ring := r }
def Gm.over (m : Gm) (s : Int) : Gm := { m with winner := s, ball := -1, many := 0 }
def Gm.turn (m : Gm) : Gm := { m with arrow := 1 - m.arrow }
def Tm.anew (t : Tm) (p : Int) : Tm :=
  { t with fouls := if p ≤ 4 then 0 else t.fouls, timeouts := if p = 3 ∨ 4 < p then 0 else t.timeouts }
def Gm.nextP (m : Gm) : Gm :=
  let p := m.period + 1
  (({ m with period := p, left := if p ≤ 4 then 6000 else 3000, a := m.a.anew p, b := m.b.anew p } : Gm).give m.arrow 240).turn
def Gm.endP (m : Gm) : Gm :=
  if 4 ≤ m.period ∧ m.b.points < m.a.points then m.over 0 else if 4 ≤ m.period ∧ m.a.points < m.b.points then m.over 1 else m.nextP

/-! ### fouls -/
def Gm.throwsFor (m : Gm) (s n b : Int) : Gm := { m with many := n, side := s, behind := b }
def Gm.bring (m : Gm) (s k shot : Int) : Gm :=
  if k = 1 then m.throwsFor (1 - s) 1 0
  else if k ≠ 0 then m.throwsFor (1 - s) (if 0 < shot then shot else 2) 1
  else if 0 < shot then m.throwsFor (1 - s) shot 2
  else if m.ball = s then m.give (1 - s) 240
  else if 5 ≤ (m.team s).fouls then m.throwsFor (1 - s) 2 2
  else if m.ball = 1 - s then m.give (1 - s) (if m.shot < 140 then 140 else m.shot)
  else m.give (1 - s) 240
def rightFoul (s n k shot : Int) : Bool := isSide s && (isNumber n && ((decide (0 ≤ k) && decide (k ≤ 3)) && (decide (0 ≤ shot) && decide (shot ≤ 3))))
def Gm.strange (m : Gm) (s k shot : Int) : Bool := (decide (0 < shot) && decide (k = 1)) || (decide (1 < shot) && decide (m.ball = s))
def Gm.fouled (m : Gm) (s : Int) (i : Nat) (k shot : Int) : Gm :=
  let t := { ((m.team s).at i fun p => p.noted k) with fouls := (m.team s).fouls + 1 }
  let u := m.put s t
  if t.many < 2 then u.over (1 - s) else u.bring s k shot
def Gm.behindLast (m : Gm) (good : Int) : Gm :=
  if m.behind = 1 then m.give m.side 140
  else if m.behind = 2 ∧ good = 1 then m.give (1 - m.side) 240
  else if m.behind = 2 then m.missBy m.side 1
  else m
def Gm.thrown (m : Gm) (i : Nat) (good : Int) : Gm :=
  let u := { (m.put m.side ((m.team m.side).at i fun p => { p with points := p.points + good })) with many := m.many - 1 }
  if u.many = 0 then u.behindLast good else u

/-! ### play -/
def Gm.toStop (m : Gm) : Int := if m.ball ≠ -1 ∧ m.shot < m.left then m.shot else m.left
def Gm.letRun (m : Gm) (t : Int) : Gm :=
  let u := { m with left := m.left - t, shot := if m.ball ≠ -1 then m.shot - t else m.shot }
  if u.left = 0 then u.endP else if u.ball ≠ -1 ∧ u.shot = 0 then u.give (1 - u.ball) 240 else u
def Gm.shotBehind (m : Gm) (s : Int) : Int := if s ≠ m.missed then 240 else if m.ring = 1 then 140 else m.shot

/-! ### the calls: the game behind it, the answer -/
abbrev Rs := Option Gm × List Int
def told (m : Gm) (z : Int) : Rs := (some m, z :: m.stands)
def playP (g : Option Gm) (right : Bool) (f : Gm → Rs) : Rs := if refusalP g right = 0 then (match g with | none => (none, [0]) | some m => f m) else (g, [refusalP g right])
def playR (g : Option Gm) (right : Bool) (f : Gm → Rs) : Rs := if refusal g right = 0 then (match g with | none => (none, [0]) | some m => f m) else (g, [refusal g right])
def tip (g : Option Gm) (s : Int) : Rs :=
  if isSide s = false then (g, [-1]) else match g with
  | none => (none, [-2])
  | some m => if 0 < m.period then (some m, [-2]) else told ({ m with arrow := s } : Gm).nextP 0
def run (g : Option Gm) (t : Int) : Rs := playP g (decide (1 ≤ t) && decide (t ≤ 100000)) fun m =>
  let r := if m.toStop < t then m.toStop else t
  told (m.letRun r) r
def basket (g : Option Gm) (n p : Int) : Rs := playP g (isNumber n && (decide (2 ≤ p) && decide (p ≤ 3))) fun m =>
  if m.ball = -1 then (some m, [-4]) else match (m.team m.ball).findC n with
  | none => (some m, [-5])
  | some i =>
    let t := (m.team m.ball).at i fun q => { q with points := q.points + p }
    told ((m.put m.ball t).give (1 - m.ball) 240) t.points
def miss (g : Option Gm) (n r : Int) : Rs := playP g (isNumber n && isSide r) fun m =>
  if m.ball = -1 then (some m, [-4]) else match (m.team m.ball).findC n with
  | none => (some m, [-5])
  | some _ => told (m.missBy m.ball r) 0
def rebound (g : Option Gm) (s : Int) : Rs := playP g (isSide s) fun m =>
  if m.ball ≠ -1 then (some m, [-4]) else told (m.give s (m.shotBehind s)) 0
def lose (g : Option Gm) : Rs := playP g true fun m =>
  if m.ball = -1 then (some m, [-4]) else told (m.give (1 - m.ball) 240) 0
def held (g : Option Gm) : Rs := playP g true fun m =>
  told (if m.ball ≠ m.arrow then m.give m.arrow 240 else m).turn 0
def foul (g : Option Gm) (s n k shot : Int) : Rs := playP g (rightFoul s n k shot) fun m =>
  match (m.team s).findC n with
  | none => (some m, [-5])
  | some i => if m.strange s k shot = true then (some m, [-4]) else told (m.fouled s i k shot) ((m.team s).fouls + 1)
def throw_ (g : Option Gm) (n good : Int) : Rs := playR g (isNumber n && isSide good) fun m =>
  if m.many = 0 then (some m, [-3]) else if m.anyShort = true then (some m, [-6]) else match (m.team m.side).findC n with
  | none => (some m, [-5])
  | some i => told (m.thrown i good) ((m.thrown i good).team m.side).points
def sub (g : Option Gm) (s o i : Int) : Rs := playR g (isSide s && (isNumber o && isNumber i)) fun m =>
  match (m.team s).findC o, (m.team s).findB i with
  | some j, some k => (some (m.put s (((m.team s).at j fun p => { p with onCourt := false }).at k fun p => { p with onCourt := true })), [0])
  | _, _ => (some m, [-5])
def enter (g : Option Gm) (s i : Int) : Rs := playR g (isSide s && isNumber i) fun m =>
  match (m.team s).findB i with
  | some k => if 5 ≤ (m.team s).many then (some m, [-5]) else
      let t := (m.team s).at k fun p => { p with onCourt := true }
      (some (m.put s t), [t.many])
  | none => (some m, [-5])
def mostT (p : Int) : Int := if p ≤ 2 then 2 else if p ≤ 4 then 3 else 1
def timeout (g : Option Gm) (s : Int) : Rs := playR g (isSide s) fun m =>
  if mostT m.period ≤ (m.team s).timeouts then (some m, [-5]) else
    (some (m.put s { m.team s with timeouts := (m.team s).timeouts + 1 }), [(m.team s).timeouts + 1])
def now (g : Option Gm) : Rs := (g, b2i g.isSome :: standsO g)
def sheet (g : Option Gm) (s : Int) : Rs :=
  if isSide s = false then (g, [-1]) else match g with
  | none => (none, [0, 0, 0])
  | some m => (some m, (m.team s).sheet)

/-! ### the table -/
def itm (l : List Int) (i : Nat) : Int := l.getD i 0
def inPlay (g : Option Gm) (w : Int) (l : List Int) : Rs :=
  if w = 2 then tip g (itm l 0) else if w = 3 then run g (itm l 0) else if w = 4 then basket g (itm l 0) (itm l 1)
  else if w = 5 then miss g (itm l 0) (itm l 1) else if w = 6 then rebound g (itm l 0) else if w = 7 then lose g else held g
def beside (g : Option Gm) (w : Int) (l : List Int) : Rs :=
  if w = 9 then foul g (itm l 0) (itm l 1) (itm l 2) (itm l 3) else if w = 10 then throw_ g (itm l 0) (itm l 1)
  else if w = 11 then sub g (itm l 0) (itm l 1) (itm l 2) else if w = 12 then enter g (itm l 0) (itm l 1)
  else if w = 13 then timeout g (itm l 0) else if w = 14 then now g else sheet g (itm l 0)
/-- a call as the program parts it: its number, its numbers or its first row, its second row -/
structure Cl where
  word : Int
  nums : List Int
  more : List Int
def call (g : Option Gm) (c : Cl) : Rs :=
  if c.word = 1 then (if arePlayers c.nums = true ∧ arePlayers c.more = true then (some (Gm.fresh c.nums c.more), [0]) else (g, [-1]))
  else if c.word ≤ 8 then inPlay g c.word c.nums else beside g c.word c.nums
def out (l : List Int) : List Int := (l.length : Int) :: l
def runAll : Option Gm → List Cl → List Int
  | _, [] => []
  | g, c :: r => out (call g c).2 ++ runAll (call g c).1 r
end Ct
/-! The plain functions answer as the specification says. -/
namespace Ct
open Kg67 (Player Team Throws State)

def num (p : Pl) : Nat := p.number.toNat
def Pl.sp (p : Pl) : Player := ⟨p.number.toNat, p.personal.toNat, p.technical.toNat, p.heavy.toNat, p.points.toNat, p.isOut⟩
structure POk (p : Pl) : Prop where
  n : 0 ≤ p.number
  s : 0 ≤ p.points
  pe : 0 ≤ p.personal
  t : 0 ≤ p.technical
  h : 0 ≤ p.heavy
  c : p.onCourt = true → p.isOut = false
def courtOf (l : List Pl) : List Nat := (l.filter fun p => p.onCourt).map num
structure TRel (t : Tm) (x : Team) : Prop where
  pl : x.players = t.players.map Pl.sp
  ok : ∀ p ∈ t.players, POk p
  nd : (t.players.map num).Nodup
  ct : x.court.Perm (courtOf t.players)
  pts : t.points = (x.points : Int)
  fls : t.fouls = (x.fouls : Int)
  tms : t.timeouts = (x.timeouts : Int)

theorem split_at {l : List Pl} {q : Pl → Bool} {i : Nat} (h : l.findIdx? q = some i) :
    ∃ l1 p l2, l = l1 ++ p :: l2 ∧ q p = true ∧ l1.length = i ∧ ∀ f, l.modify i f = l1 ++ f p :: l2 := by
  obtain ⟨hi, hq, _⟩ := List.findIdx?_eq_some_iff_getElem.mp h
  have e : l = l.take i ++ l[i] :: l.drop (i + 1) := by
    rw [List.getElem_cons_drop, List.take_append_drop]
  refine ⟨l.take i, l[i], l.drop (i + 1), e, hq, by rw [List.length_take]; omega, fun f => ?_⟩
  exact List.modify_eq_take_cons_drop hi

theorem num_eq {p q : Pl} (hp : 0 ≤ p.number) (hq : 0 ≤ q.number) (e : num p = num q) : p.number = q.number := by
  unfold num at e; omega

/-- what stands on the court, by its number -/
theorem mem_court {l : List Pl} {n : Nat} : n ∈ courtOf l ↔ ∃ p ∈ l, p.onCourt = true ∧ num p = n := by
  unfold courtOf
  simp only [List.mem_map, List.mem_filter]
  constructor
  · rintro ⟨p, ⟨h1, h2⟩, h3⟩; exact ⟨p, h1, h2, h3⟩
  · rintro ⟨p, h1, h2, h3⟩; exact ⟨p, ⟨h1, h2⟩, h3⟩

theorem nodup_inj {l : List Pl} (nd : (l.map num).Nodup) {p q : Pl} (hp : p ∈ l) (hq : q ∈ l) (e : num p = num q) : p = q := by
  induction l with
  | nil => cases hp
  | cons a r ih =>
    rw [List.map_cons, List.nodup_cons] at nd
    rcases List.mem_cons.mp hp with rfl | hp' <;> rcases List.mem_cons.mp hq with rfl | hq'
    · rfl
    · exact absurd (e ▸ List.mem_map_of_mem hq') nd.1
    · exact absurd (e.symm ▸ List.mem_map_of_mem hp') nd.1
    · exact ih nd.2 hp' hq'

section
variable {t : Tm} {x : Team}
theorem TRel.contains (r : TRel t x) {p : Pl} (hp : p ∈ t.players) : x.court.contains (num p) = p.onCourt := by
  rw [Bool.eq_iff_iff, List.contains_iff_mem, r.ct.mem_iff, mem_court]
  constructor
  · rintro ⟨q, hq, hc, e⟩
    rw [← nodup_inj r.nd hq hp e]; exact hc
  · intro h; exact ⟨p, hp, h, rfl⟩
theorem TRel.many (r : TRel t x) : t.many = (x.court.length : Nat) := by
  unfold Tm.many
  rw [r.ct.length_eq]
  unfold courtOf
  rw [List.length_map]
theorem TRel.findC (r : TRel t x) {n : Int} (hn : 0 ≤ n) : (t.findC n).isSome = x.court.contains n.toNat := by
  unfold Tm.findC
  rw [List.findIdx?_isSome, Bool.eq_iff_iff, List.contains_iff_mem, r.ct.mem_iff, mem_court, List.any_eq_true]
  constructor
  · rintro ⟨p, hp, h⟩
    simp only [onC, Bool.and_eq_true, decide_eq_true_eq] at h
    exact ⟨p, hp, h.2, by unfold num; rw [h.1]⟩
  · rintro ⟨p, hp, hc, e⟩
    refine ⟨p, hp, ?_⟩
    have := (r.ok p hp).n
    simp only [onC, Bool.and_eq_true, decide_eq_true_eq]
    refine ⟨?_, hc⟩
    unfold num at e; omega
theorem TRel.bench (r : TRel t x) : x.bench = (t.players.filter fun p => p.isBench).map num := by
  unfold Team.bench
  rw [r.pl, List.filter_map, List.map_map]
  have : t.players.filter ((fun p : Player => !p.out && !x.court.contains p.number) ∘ Pl.sp) = t.players.filter fun p => p.isBench := by
    apply List.filter_congr
    intro p hp
    have e := r.contains hp
    show (!p.isOut && !x.court.contains (num p)) = p.isBench
    rw [e]; unfold Pl.isBench
    rw [Bool.and_comm]
  rw [this]
  rfl
theorem TRel.findB (r : TRel t x) {n : Int} (hn : 0 ≤ n) : (t.findB n).isSome = x.bench.contains n.toNat := by
  unfold Tm.findB
  rw [List.findIdx?_isSome, Bool.eq_iff_iff, List.contains_iff_mem, r.bench, List.any_eq_true]
  simp only [List.mem_map, List.mem_filter]
  constructor
  · rintro ⟨p, hp, h⟩
    simp only [onB, Bool.and_eq_true, decide_eq_true_eq] at h
    exact ⟨p, ⟨hp, h.2⟩, by unfold num; rw [h.1]⟩
  · rintro ⟨p, ⟨hp, hc⟩, e⟩
    refine ⟨p, hp, ?_⟩
    have := (r.ok p hp).n
    simp only [onB, Bool.and_eq_true, decide_eq_true_eq]
    refine ⟨?_, hc⟩
    unfold num at e; omega
theorem TRel.short (r : TRel t x) : t.short = x.short := by
  unfold Tm.short Team.short
  rw [r.many, r.bench]
  congr 1
  · simp only [decide_eq_decide]; omega
  · rw [List.isEmpty_map]
    induction t.players with
    | nil => rfl
    | cons a l ih =>
      rw [List.any_cons, List.filter_cons, ih]
      cases a.isBench <;> simp
theorem flat_congr {α β : Type} {f g : α → List β} : ∀ {l : List α}, (∀ a ∈ l, f a = g a) → l.flatMap f = l.flatMap g
  | [], _ => rfl
  | a :: l, h => by
    rw [List.flatMap_cons, List.flatMap_cons, h a (List.mem_cons_self ..), flat_congr fun b hb => h b (List.mem_cons_of_mem _ hb)]
theorem truth_b2i (b : Bool) : Kg67.truth b = b2i b := rfl
theorem TRel.sheet (r : TRel t x) : t.sheet = (x.points : Int) :: (Kg67.whole [x.fouls, x.timeouts] ++ x.players.flatMap fun p => Kg67.whole [p.number, p.points, p.personal, p.technical, p.rough] ++ [Kg67.truth p.out, Kg67.truth (x.court.contains p.number)]) := by
  unfold Tm.sheet
  rw [r.pts, r.fls, r.tms, r.pl, List.flatMap_map]
  refine congrArg (fun z => (x.points : Int) :: (x.fouls : Int) :: (x.timeouts : Int) :: z) (flat_congr fun p hp => ?_)
  have o := r.ok p hp
  have e : x.court.contains p.sp.number = p.onCourt := r.contains hp
  rw [e]
  show [p.number, p.points, p.personal, p.technical, p.heavy, b2i p.isOut, b2i p.onCourt] = [(p.number.toNat : Int), (p.points.toNat : Int), (p.personal.toNat : Int), (p.technical.toNat : Int), (p.heavy.toNat : Int), Kg67.truth p.isOut, Kg67.truth p.onCourt]
  rw [Int.toNat_of_nonneg o.n, Int.toNat_of_nonneg o.s, Int.toNat_of_nonneg o.pe, Int.toNat_of_nonneg o.t, Int.toNat_of_nonneg o.h, truth_b2i, truth_b2i]
/-- one player of a team is another, the number the same: what the specification's change does -/
theorem change_sp {l1 l2 : List Pl} {p : Pl} {g : Player → Player} (nd : ((l1 ++ p :: l2).map num).Nodup) :
    ((l1 ++ p :: l2).map Pl.sp).map (fun q => if q.number = num p then g q else q) = l1.map Pl.sp ++ g p.sp :: l2.map Pl.sp := by
  rw [List.map_append, List.map_cons, List.nodup_append, List.nodup_cons] at nd
  obtain ⟨_, ⟨n2, _⟩, n1⟩ := nd
  have k : ∀ l : List Pl, (∀ q ∈ l, num q ≠ num p) → (l.map Pl.sp).map (fun q => if q.number = num p then g q else q) = l.map Pl.sp := by
    intro l h
    rw [List.map_map]
    apply List.map_congr_left
    intro q hq
    show (if num q = num p then _ else _) = _
    rw [if_neg (h q hq)]
  rw [List.map_append, List.map_append, List.map_cons, List.map_cons, k l1, k l2]
  · congr 1
    congr 1
    exact if_pos rfl
  · intro q hq e
    exact n2 (e ▸ List.mem_map_of_mem hq)
  · intro q hq e
    exact n1 _ (List.mem_map_of_mem hq) _ (List.mem_cons_self ..) e
theorem court_mid {l1 l2 : List Pl} {p : Pl} : courtOf (l1 ++ p :: l2) = courtOf l1 ++ ((if p.onCourt = true then [num p] else []) ++ courtOf l2) := by
  unfold courtOf
  rw [List.filter_append, List.map_append, List.filter_cons]
  split <;> simp
end

theorem points_mid {l1 l2 : List Pl} {p : Pl} {f c : Int} : (⟨l1 ++ p :: l2, f, c⟩ : Tm).points = (⟨l1 ++ l2, f, c⟩ : Tm).points + p.points := by
  unfold Tm.points
  simp only [List.map_append, List.map_cons, List.sum_append, List.sum_cons]
  omega
theorem points_fc {l : List Pl} {f c f' c' : Int} : (⟨l, f, c⟩ : Tm).points = (⟨l, f', c'⟩ : Tm).points := rfl
/-- a team with one player changed -/
theorem TRel.repl {t : Tm} {x y : Team} {l1 l2 : List Pl} {p p' : Pl} {g : Player → Player} {f c : Int} (r : TRel t x) (e : t.players = l1 ++ p :: l2) (hn : p'.number = p.number) (hk : POk p') (hg : g p.sp = p'.sp)
    (hy : y.players = (x.change (num p) g).players) (hc : y.court.Perm (courtOf (l1 ++ p' :: l2))) (hp : t.points - p.points + p'.points = (y.points : Int)) (hf : f = (y.fouls : Int)) (ht : c = (y.timeouts : Int)) : TRel ⟨l1 ++ p' :: l2, f, c⟩ y where
  pl := by
    rw [hy]
    show x.players.map (fun q => if q.number = num p then g q else q) = _
    have nd := r.nd
    rw [e] at nd
    rw [r.pl, e, change_sp nd, hg]
    simp
  ok := by
    intro q hq
    have h := r.ok
    rw [e] at h
    rcases List.mem_append.mp hq with m | m
    · exact h q (List.mem_append.mpr (.inl m))
    · rcases List.mem_cons.mp m with rfl | m
      · exact hk
      · exact h q (List.mem_append.mpr (.inr (List.mem_cons_of_mem _ m)))
  nd := by
    have nd := r.nd
    rw [e] at nd
    have : num p' = num p := by unfold num; rw [hn]
    simpa [List.map_append, this] using nd
  ct := hc
  pts := by
    have h : t.points = (⟨l1 ++ p :: l2, f, c⟩ : Tm).points := by unfold Tm.points; rw [e]
    rw [points_mid] at h ⊢
    rw [← hp, h]; omega
  fls := hf
  tms := ht
/-- what a foul makes of one player -/
theorem noted_sp {p : Pl} (o : POk p) {k : Int} (hk : 0 ≤ k ∧ k ≤ 3) :
    (p.noted k).number = p.number ∧ (p.noted k).points = p.points ∧ POk (p.noted k) ∧ ((p.noted k).onCourt = (p.onCourt && !(p.noted k).isOut)) ∧
    (let q := if k.toNat = 0 then { p.sp with personal := p.sp.personal + 1 } else if k.toNat = 1 then { p.sp with technical := p.sp.technical + 1 } else { p.sp with rough := p.sp.rough + 1 }
     ({ q with out := p.sp.out || (q.mustGo || k.toNat == 3) } : Player) = (p.noted k).sp) := by
  obtain ⟨o1, o2, o3, o4, o5, o6⟩ := o
  obtain ⟨n, pt, a, b, h, so, oc⟩ := p
  dsimp only at o1 o2 o3 o4 o5 o6
  have hc : k = 0 ∨ k = 1 ∨ k = 2 ∨ k = 3 := by omega
  have l : ∀ q : Pl, q.left.number = q.number ∧ q.left.points = q.points ∧ q.left.personal = q.personal ∧ q.left.technical = q.technical ∧ q.left.heavy = q.heavy ∧ q.left.isOut = q.isOut ∧ q.left.onCourt = (q.onCourt && !q.isOut) := by
    intro q
    unfold Pl.left
    cases hq : q.isOut
    · simp [hq]
    · have : ({ q with onCourt := false } : Pl).isOut = q.isOut := rfl
      simp [this, hq]
  obtain ⟨l1, l2, l3, l4, l5, l6, l7⟩ := l (((⟨n, pt, a, b, h, so, oc⟩ : Pl).counted k).sent k)
  unfold Pl.noted
  have key : ∀ q : Pl, q.left.onCourt = true → q.left.isOut = false := by
    intro q hq
    obtain ⟨_, _, _, _, _, k6, k7⟩ := l q
    rw [k6]; rw [k7, Bool.and_eq_true, Bool.not_eq_true'] at hq; exact hq.2
  refine ⟨l1.trans ?_, l2.trans ?_, ⟨?_, ?_, ?_, ?_, ?_, key _⟩, by rw [l6, l7]; congr 1; rcases hc with rfl | rfl | rfl | rfl <;> rfl, ?_⟩
  · rcases hc with rfl | rfl | rfl | rfl <;> rfl
  · rcases hc with rfl | rfl | rfl | rfl <;> rfl
  · rw [l1]; rcases hc with rfl | rfl | rfl | rfl <;> exact o1
  · rw [l2]; rcases hc with rfl | rfl | rfl | rfl <;> exact o2
  · rw [l3]; rcases hc with rfl | rfl | rfl | rfl <;> first | exact o3 | (show 0 ≤ a + 1; omega)
  · rw [l4]; rcases hc with rfl | rfl | rfl | rfl <;> first | exact o4 | (show 0 ≤ b + 1; omega)
  · rw [l5]; rcases hc with rfl | rfl | rfl | rfl <;> first | exact o5 | (show 0 ≤ h + 1; omega)
  · unfold Pl.sp
    rw [l1, l2, l3, l4, l5, l6]
    rcases hc with rfl | rfl | rfl | rfl <;>
    · simp only [Pl.counted, Pl.sent, Pl.isOut, Kg67.Player.mustGo]
      simp
      first
        | omega
        | (refine ⟨by omega, ?_⟩
           cases so
           · rw [Bool.eq_iff_iff]
             simp only [Bool.false_or, Bool.or_eq_true, decide_eq_true_eq]
             omega
           · simp)

theorem find_sp : ∀ {l : List Pl}, (l.map num).Nodup → ∀ {q : Pl}, q ∈ l → (l.map Pl.sp).find? (fun z => z.number == num q) = some q.sp
  | [], _, _, h => by cases h
  | a :: l, nd, q, h => by
    rw [List.map_cons, List.nodup_cons] at nd
    rw [List.map_cons, List.find?_cons]
    by_cases e : num a = num q
    · have : (a.sp.number == num q) = true := by show (num a == num q) = true; rw [e]; exact beq_self_eq_true _
      rw [this]
      rcases List.mem_cons.mp h with rfl | h
      · rfl
      · exact absurd (e ▸ List.mem_map_of_mem h) nd.1
    · have : (a.sp.number == num q) = false := by show (num a == num q) = false; exact beq_eq_false_iff_ne.mpr e
      rw [this]
      rcases List.mem_cons.mp h with rfl | h
      · exact absurd rfl e
      · exact find_sp nd.2 h
theorem filter_court {P : Nat → Bool} : ∀ {l : List Pl}, (∀ q ∈ l, q.onCourt = true → P (num q) = true) → (courtOf l).filter P = courtOf l := by
  intro l h
  rw [List.filter_eq_self]
  intro a ha
  obtain ⟨q, hq, hc, rfl⟩ := mem_court.mp ha
  exact h q hq hc
theorem TRel.score {t : Tm} {x : Team} (r : TRel t x) {n d : Int} (hn : 0 ≤ n) (hd : 0 ≤ d) {i : Nat} (h : t.findC n = some i) :
    TRel (t.at i fun p => { p with points := p.points + d }) { x.change n.toNat (fun q => { q with points := q.points + d.toNat }) with points := x.points + d.toNat } := by
  obtain ⟨l1, p, l2, e, hq, _, hm⟩ := split_at h
  simp only [onC, Bool.and_eq_true, decide_eq_true_eq] at hq
  have hp : p ∈ t.players := by rw [e]; simp
  have o := r.ok p hp
  unfold Tm.at
  rw [hm]
  have en : n.toNat = num p := by unfold num; rw [hq.1]
  refine TRel.repl (p' := { p with points := p.points + d }) (g := fun q => { q with points := q.points + d.toNat }) r e rfl ⟨o.n, by have := o.s; show 0 ≤ p.points + d; omega, o.pe, o.t, o.h, o.c⟩ ?_ ?_ ?_ ?_ ?_ ?_
  · show (⟨_, _, _, _, p.points.toNat + d.toNat, _⟩ : Player) = ⟨_, _, _, _, (p.points + d).toNat, _⟩
    have : p.points.toNat + d.toNat = (p.points + d).toNat := by have := o.s; omega
    rw [this]; rfl
  · rw [en]
  · have := r.ct
    rw [e, court_mid] at this
    rw [court_mid]
    exact this
  · show t.points - p.points + (p.points + d) = ((x.points + d.toNat : Nat) : Int)
    rw [r.pts]; omega
  · exact r.fls
  · exact r.tms
theorem TRel.noted {t : Tm} {x : Team} (r : TRel t x) {n k : Int} (hn : 0 ≤ n) (hk : 0 ≤ k ∧ k ≤ 3) {i : Nat} (h : t.findC n = some i) :
    TRel { (t.at i fun p => p.noted k) with fouls := t.fouls + 1 } (x.noted n.toNat k.toNat) := by
  obtain ⟨l1, p, l2, e, hq, _, hm⟩ := split_at h
  simp only [onC, Bool.and_eq_true, decide_eq_true_eq] at hq
  have hp : p ∈ t.players := by rw [e]; simp
  have o := r.ok p hp
  obtain ⟨n1, n2, n3, n4, n5⟩ := noted_sp o hk
  unfold Tm.at
  rw [hm]
  have en : n.toNat = num p := by unfold num; rw [hq.1]
  have nd := r.nd
  rw [e] at nd
  have en' : num (p.noted k) = num p := by unfold num; rw [n1]
  have nd' : ((l1 ++ p.noted k :: l2).map num).Nodup := by simpa [List.map_append, en'] using nd
  let g : Player → Player := fun p =>
    let q := if k.toNat = 0 then { p with personal := p.personal + 1 } else if k.toNat = 1 then { p with technical := p.technical + 1 } else { p with rough := p.rough + 1 }
    { q with out := p.out || (q.mustGo || k.toNat == 3) }
  have hg : g p.sp = (p.noted k).sp := n5
  have hpl : (x.change n.toNat g).players = (l1 ++ p.noted k :: l2).map Pl.sp := by
    show x.players.map (fun q => if q.number = n.toNat then g q else q) = _
    rw [en, r.pl, e, change_sp nd, hg]; simp
  refine TRel.repl (p' := p.noted k) (g := g) (f := t.fouls + 1) (c := t.timeouts) (y := x.noted n.toNat k.toNat) r e n1 n3 hg ?_ ?_ ?_ ?_ ?_
  · rw [← en]; rfl
  · show (x.court.filter fun m => match (x.change n.toNat g).players.find? (fun p => p.number == m) with
      | some p => !p.out
      | none => false).Perm _
    rw [hpl]
    refine (r.ct.filter _).trans ?_
    rw [e, court_mid, court_mid, List.filter_append, List.filter_append, filter_court, filter_court, hq.2, if_pos rfl]
    · have : ((l1 ++ p.noted k :: l2).map Pl.sp).find? (fun z => z.number == num p) = some (p.noted k).sp := by
        rw [← en']; exact find_sp nd' (by simp)
      simp only [List.filter_cons, List.filter_nil, this]
      rw [n4, hq.2, Bool.true_and, en']
      show List.Perm (courtOf l1 ++ ((if (!(p.noted k).isOut) = true then [num p] else []) ++ courtOf l2)) _
      exact List.Perm.refl _
    all_goals
      intro q hq' hc
      have hq2 : q ∈ l1 ++ p.noted k :: l2 := by simp [hq']
      have hq3 : q ∈ t.players := by rw [e]; simp [hq']
      rw [find_sp nd' hq2]
      show (!q.isOut) = true
      rw [(r.ok q hq3).c hc]; rfl
  · show t.points - p.points + (p.noted k).points = ((x.points : Nat) : Int)
    rw [n2, r.pts]; omega
  · show t.fouls + 1 = ((x.fouls + 1 : Nat) : Int)
    rw [r.fls]; omega
  · exact r.tms
theorem off_sp {p : Pl} {c : Bool} : ({ p with onCourt := c } : Pl).sp = p.sp := rfl
theorem TRel.enter {t : Tm} {x : Team} (r : TRel t x) {n : Int} (hn : 0 ≤ n) {k : Nat} (h : t.findB n = some k) :
    TRel (t.at k fun p => { p with onCourt := true }) { x with court := x.court ++ [n.toNat] } := by
  obtain ⟨l1, p, l2, e, hq, _, hm⟩ := split_at h
  simp only [onB, Pl.isBench, Bool.and_eq_true, decide_eq_true_eq, Bool.not_eq_true'] at hq
  have hp : p ∈ t.players := by rw [e]; simp
  have o := r.ok p hp
  unfold Tm.at
  rw [hm]
  have en : n.toNat = num p := by unfold num; rw [hq.1]
  refine TRel.repl (p' := { p with onCourt := true }) (g := fun q => q) r e rfl ⟨o.n, o.s, o.pe, o.t, o.h, fun _ => hq.2.2⟩ rfl ?_ ?_ ?_ r.fls r.tms
  · show x.players = x.players.map fun q => if q.number = num p then q else q
    simp
  · have c := r.ct
    rw [e, court_mid, hq.2.1, if_neg (by simp), List.nil_append] at c
    rw [court_mid, if_pos rfl, en]
    refine (List.perm_append_comm (l₁ := x.court) (l₂ := [num p])).trans ?_
    refine (List.Perm.cons _ c).trans ?_
    exact (List.perm_middle (a := num p) (l₁ := courtOf l1) (l₂ := courtOf l2)).symm
  · show t.points - p.points + p.points = ((x.points : Nat) : Int)
    rw [r.pts]; omega
theorem TRel.off {t : Tm} {x : Team} (r : TRel t x) {n : Int} (hn : 0 ≤ n) {k : Nat} (h : t.findC n = some k) :
    TRel (t.at k fun p => { p with onCourt := false }) { x with court := x.court.erase n.toNat } ∧ x.court.Perm (n.toNat :: x.court.erase n.toNat) := by
  obtain ⟨l1, p, l2, e, hq, _, hm⟩ := split_at h
  simp only [onC, Bool.and_eq_true, decide_eq_true_eq] at hq
  have hp : p ∈ t.players := by rw [e]; simp
  have o := r.ok p hp
  unfold Tm.at
  rw [hm]
  have en : n.toNat = num p := by unfold num; rw [hq.1]
  have c := r.ct
  rw [e, court_mid, hq.2, if_pos rfl] at c
  have c2 : x.court.Perm (num p :: (courtOf l1 ++ courtOf l2)) := c.trans (List.perm_middle (a := num p) (l₁ := courtOf l1) (l₂ := courtOf l2))
  have hmem : num p ∈ x.court := c2.mem_iff.mpr (List.mem_cons_self ..)
  refine ⟨TRel.repl (p' := { p with onCourt := false }) (g := fun q => q) r e rfl ⟨o.n, o.s, o.pe, o.t, o.h, fun z => by cases z⟩ rfl ?_ ?_ ?_ r.fls r.tms, ?_⟩
  · show x.players = x.players.map fun q => if q.number = num p then q else q
    simp
  · show (x.court.erase n.toNat).Perm _
    rw [court_mid, if_neg (by simp), List.nil_append, en]
    exact List.Perm.cons_inv ((List.perm_cons_erase hmem).symm.trans c2)
  · show t.points - p.points + p.points = ((x.points : Nat) : Int)
    rw [r.pts]; omega
  · rw [en]; exact List.perm_cons_erase hmem

theorem TRel.sub {t : Tm} {x : Team} (r : TRel t x) {o n : Int} (ho : 0 ≤ o) (hn : 0 ≤ n) {j k : Nat} (h : t.findC o = some j) (h2 : t.findB n = some k) :
    TRel ((t.at j fun p => { p with onCourt := false }).at k fun p => { p with onCourt := true }) { x with court := x.court.map fun m => if m = o.toNat then n.toNat else m } := by
  have nd := r.nd
  obtain ⟨r1, pm⟩ := r.off ho h
  have h3 : (t.at j fun p => { p with onCourt := false }).findB n = some k := by
    obtain ⟨l1, p, l2, e, hq, hl, hm⟩ := split_at h
    simp only [onC, Bool.and_eq_true, decide_eq_true_eq] at hq
    unfold Tm.findB Tm.at at *
    rw [hm]
    rw [e] at h2 nd
    simp only [List.findIdx?_append, List.findIdx?_cons] at h2 ⊢
    have pb : onB n p = false := by simp [onB, Pl.isBench, hq.2]
    have hne : n ≠ p.number := by
      rintro rfl
      have ex : (List.findIdx? (onB p.number) (l1 ++ p :: l2)).isSome = true := by
        rw [List.findIdx?_append, List.findIdx?_cons, h2]; rfl
      rw [List.findIdx?_isSome, List.any_eq_true] at ex
      obtain ⟨q, hq1, hq2⟩ := ex
      have e3 : q = p := nodup_inj nd hq1 (by simp) (by
        simp only [onB, Bool.and_eq_true, decide_eq_true_eq] at hq2
        unfold num; rw [hq2.1])
      rw [e3, pb] at hq2
      cases hq2
    have pb2 : onB n { p with onCourt := false } = false := by
      simp [onB]
      intro z; exact absurd z.symm hne
    rw [pb] at h2
    rw [pb2]
    exact h2
  have r2 := r1.enter hn h3
  have ndc : (x.court).Nodup := by
    rw [r.ct.nodup_iff]
    unfold courtOf
    exact List.Sublist.nodup (List.Sublist.map _ List.filter_sublist) r.nd
  refine { r2 with ct := ?_ }
  have nomem : o.toNat ∉ x.court.erase o.toNat := by
    have := pm.nodup_iff.mp ndc
    exact (List.nodup_cons.mp this).1
  refine List.Perm.trans ?_ r2.ct
  refine (pm.map _).trans ?_
  rw [List.map_cons, if_pos rfl]
  have : (x.court.erase o.toNat).map (fun m => if m = o.toNat then n.toNat else m) = x.court.erase o.toNat := by
    refine (List.map_congr_left (g := id) fun a ha => ?_).trans (List.map_id _)
    show (if a = o.toNat then n.toNat else a) = a
    rw [if_neg]
    rintro rfl
    exact nomem ha
  rw [this]
  exact List.perm_append_comm (l₁ := [n.toNat])
/-! ### a new team -/
theorem good_iff : ∀ {r pre : List Int}, goodFrom pre r = true ↔ (∀ n ∈ r, 0 ≤ n ∧ n ≤ 99) ∧ r.Nodup ∧ ∀ n ∈ r, n ∉ pre
  | [], pre => by simp [goodFrom]
  | a :: r, pre => by
    unfold goodFrom
    rw [Bool.and_eq_true, Bool.and_eq_true, good_iff, List.nodup_cons]
    simp only [isNumber, Bool.and_eq_true, decide_eq_true_eq, Bool.not_eq_true', List.contains_eq_mem, decide_eq_false_iff_not, List.mem_cons, List.mem_append, List.not_mem_nil, or_false]
    constructor
    · rintro ⟨⟨h1, h2⟩, h3, h4, h5⟩
      refine ⟨fun n hn => ?_, ⟨fun hm => (h5 a hm) (.inr rfl), h4⟩, fun n hn hp => ?_⟩
      · rcases hn with rfl | hn
        · exact h1
        · exact h3 n hn
      · rcases hn with rfl | hn
        · exact h2 hp
        · exact h5 n hn (.inl hp)
    · rintro ⟨h1, ⟨h2, h3⟩, h4⟩
      refine ⟨⟨h1 a (.inl rfl), h4 a (.inl rfl)⟩, fun n hn => h1 n (.inr hn), h3, fun n hn hp => ?_⟩
      rcases hp with hp | rfl
      · exact h4 n (.inr hn) hp
      · exact h2 hn
theorem are_roster (l : List Int) : arePlayers l = Kg67.roster l := by
  rw [Bool.eq_iff_iff]
  unfold arePlayers Kg67.roster
  simp only [Bool.and_eq_true, decide_eq_true_eq, good_iff, List.all_eq_true, Kg67.within, List.not_mem_nil, not_false_eq_true, implies_true, and_true]
  constructor
  · rintro ⟨⟨h1, h2⟩, h3, h4⟩; exact ⟨h3, h4, h1, h2⟩
  · rintro ⟨h3, h4, h1, h2⟩; exact ⟨⟨h1, h2⟩, h3, h4⟩
theorem fresh_sp : ∀ (l : List Int) (i : Nat), (freshFrom i l).map Pl.sp = l.map fun z => (⟨z.toNat, 0, 0, 0, 0, false⟩ : Player)
  | [], _ => rfl
  | a :: l, i => by
    unfold freshFrom
    rw [List.map_cons, List.map_cons, fresh_sp l]
    rfl
theorem fresh_court : ∀ (l : List Int) (i : Nat), courtOf (freshFrom i l) = (l.take (5 - i)).map Int.toNat
  | [], i => by simp [freshFrom, courtOf]
  | a :: l, i => by
    unfold freshFrom courtOf
    rw [List.filter_cons]
    by_cases h : i < 5
    · have e : 5 - i = (5 - (i + 1)) + 1 := by omega
      have hd : (Pl.fresh a (decide (i < 5))).onCourt = true := decide_eq_true h
      rw [if_pos hd, List.map_cons, e, List.take_succ_cons, List.map_cons, ← fresh_court l (i + 1)]
      rfl
    · have e : 5 - i = 0 := by omega
      have e2 : 5 - (i + 1) = 0 := by omega
      have hd : ¬ (Pl.fresh a (decide (i < 5))).onCourt = true := by
        show ¬ decide (i < 5) = true
        simp; omega
      have ih := fresh_court l (i + 1)
      rw [if_neg hd, e, List.take_zero]
      unfold courtOf at ih
      rw [ih, e2, List.take_zero]
theorem fresh_mem : ∀ {l : List Int} {i : Nat} {p : Pl}, p ∈ freshFrom i l → ∃ n c, n ∈ l ∧ p = Pl.fresh n c
  | [], _, _, h => by cases h
  | a :: l, i, p, h => by
    unfold freshFrom at h
    rcases List.mem_cons.mp h with rfl | h
    · exact ⟨a, _, List.mem_cons_self .., rfl⟩
    · obtain ⟨n, c, h1, h2⟩ := fresh_mem h
      exact ⟨n, c, List.mem_cons_of_mem _ h1, h2⟩
theorem fresh_num : ∀ (l : List Int) (i : Nat), (freshFrom i l).map num = l.map Int.toNat
  | [], _ => rfl
  | a :: l, i => by
    unfold freshFrom
    rw [List.map_cons, List.map_cons, fresh_num l]
    rfl
theorem fresh_pts : ∀ (l : List Int) (i : Nat), ((freshFrom i l).map fun p => p.points).sum = 0
  | [], _ => rfl
  | a :: l, i => by
    unfold freshFrom
    rw [List.map_cons, List.sum_cons, fresh_pts l]
    rfl
theorem nodup_toNat : ∀ {l : List Int}, (∀ n ∈ l, 0 ≤ n) → l.Nodup → (l.map Int.toNat).Nodup
  | [], _, _ => List.nodup_nil
  | a :: l, h, nd => by
    rw [List.nodup_cons] at nd
    rw [List.map_cons, List.nodup_cons]
    refine ⟨fun hm => ?_, nodup_toNat (fun n hn => h n (List.mem_cons_of_mem _ hn)) nd.2⟩
    obtain ⟨b, hb, e⟩ := List.mem_map.mp hm
    have h1 := h a (List.mem_cons_self ..)
    have h2 := h b (List.mem_cons_of_mem _ hb)
    have : b = a := by omega
    exact nd.1 (this ▸ hb)
theorem TRel.fresh {l : List Int} (h : arePlayers l = true) : TRel (Tm.fresh l) (Kg67.teamOf l) := by
  unfold arePlayers at h
  rw [Bool.and_eq_true, good_iff] at h
  obtain ⟨_, h1, h2, _⟩ := h
  exact {
    pl := (fresh_sp l 0).symm
    ok := fun p hp => by
      obtain ⟨n, c, hn, rfl⟩ := fresh_mem hp
      exact ⟨(h1 n hn).1, Int.le_refl 0, Int.le_refl 0, Int.le_refl 0, Int.le_refl 0, fun _ => rfl⟩
    nd := by
      show ((freshFrom 0 l).map num).Nodup
      rw [fresh_num]
      exact nodup_toNat (fun n hn => (h1 n hn).1) h2
    ct := by
      show ((l.take 5).map Int.toNat).Perm (courtOf (freshFrom 0 l))
      rw [fresh_court]
    pts := fresh_pts l 0
    fls := rfl
    tms := rfl }
end Ct
/-! Each call keeps the game and the specification's state alike, and answers alike. -/
namespace Ct
open Kg67 (Player Team Throws State)

def ThrOk (m : Gm) : Option Throws → Prop
  | none => m.many = 0
  | some w => m.many = (w.left : Int) ∧ 1 ≤ w.left ∧ m.side = (w.team : Int) ∧ (w.team = 0 ∨ w.team = 1) ∧
    ((m.behind = 0 ∧ w.fresh = false) ∨ (m.behind = 1 ∧ w.fresh = true ∧ w.after = some w.team) ∨ (m.behind = 2 ∧ w.fresh = true ∧ w.after = none))
structure Rel1 (m : Gm) (s : State) : Prop where
  rd : s.ready = true
  ta : TRel m.a s.a
  tb : TRel m.b s.b
  period : m.period = (s.period : Int)
  left : m.left = (s.left : Int)
  shot : m.shot = (s.shot : Int)
  ball : m.ball = Kg67.opt s.ball
  ballOk : s.ball = none ∨ s.ball = some 0 ∨ s.ball = some 1
  arrow : m.arrow = (s.arrow : Int)
  arrowOk : s.arrow = 0 ∨ s.arrow = 1
  missed : m.missed = (s.shooter : Int)
  ring : m.ring = b2i s.rim
  thr : ThrOk m s.throws
  won : m.winner = Kg67.opt s.won
  two : s.won = none → 2 ≤ s.a.court.length ∧ 2 ≤ s.b.court.length
  pre : s.period = 0 → s.a.fouls = 0 ∧ s.b.fouls = 0
def Rel : Option Gm → State → Prop
  | none, s => s = Kg67.init
  | some m, s => Rel1 m s
/-- the answer and the game behind it are the specification's -/
def Same (r : Rs) (z : State × Kg67.Ans) : Prop := Rel r.1 z.1 ∧ r.2 = z.2.value :: z.2.out

theorem isSide_iff {n : Int} : isSide n = true ↔ n = 0 ∨ n = 1 := by simp [isSide]
theorem side_within (n : Int) : isSide n = Kg67.within n 0 1 := by
  rw [Bool.eq_iff_iff]; simp [isSide, Kg67.within]; omega
theorem number_within (n : Int) : isNumber n = Kg67.within n 0 99 := rfl

section
variable {m : Gm} {s : State}
theorem Rel1.stands (r : Rel1 m s) : m.stands = Kg67.told s := by
  have e : m.many = (match s.throws with | some w => (w.left : Int) | none => 0) := by
    have h := r.thr
    cases q : s.throws with
    | none => rw [q] at h; exact h
    | some w => rw [q] at h; exact h.1
  unfold Gm.stands
  rw [r.ta.pts, r.tb.pts, r.period, r.left, r.shot, r.ball, r.arrow, e, r.won]
  rfl
theorem Rel1.team (r : Rel1 m s) {n : Int} (h : isSide n = true) : TRel (m.team n) (s.team n.toNat) := by
  rcases isSide_iff.mp h with rfl | rfl
  · exact r.ta
  · exact r.tb
theorem Rel1.put (r : Rel1 m s) {n : Int} (h : isSide n = true) {t : Tm} {x : Team} (q : TRel t x) (two : s.won = none → 2 ≤ x.court.length) (hp : s.period ≠ 0) : Rel1 (m.put n t) (s.set n.toNat x) := by
  rcases isSide_iff.mp h with rfl | rfl
  · exact { r with ta := q, two := fun w => ⟨two w, (r.two w).2⟩, thr := r.thr, pre := fun z => absurd z hp }
  · exact { r with tb := q, two := fun w => ⟨(r.two w).1, two w⟩, thr := r.thr, pre := fun z => absurd z hp }
theorem Rel1.played (r : Rel1 m s) : isPlayed (some m) = true ↔ ¬ (s.period = 0 ∨ s.won.isSome = true) := by
  unfold isPlayed
  rw [Bool.and_eq_true, decide_eq_true_eq, decide_eq_true_eq, r.period, r.won]
  cases s.won with
  | none => simp [Kg67.opt]; try omega
  | some n => simp [Kg67.opt]; try omega
theorem Rel1.many0 (r : Rel1 m s) : 0 < m.many ↔ s.throws.isSome = true := by
  have h := r.thr
  cases q : s.throws with
  | none => rw [q] at h; have : m.many = 0 := h; simp; omega
  | some w => rw [q] at h; have := h.1; have := h.2.1; simp; omega
theorem Rel1.anyShort (r : Rel1 m s) : m.anyShort = (s.a.short || s.b.short) := by
  unfold Gm.anyShort; rw [r.ta.short, r.tb.short]
theorem Rel1.give (r : Rel1 m s) {n : Int} {k t : Nat} (hk : k = 0 ∨ k = 1) (hn : n = (k : Int)) {z : Int} (hz : z = (t : Int)) : Rel1 (m.give n z) (s.gets k t) :=
  { r with ball := hn, ballOk := .inr (hk.imp (congrArg some) (congrArg some)), shot := hz, thr := r.thr }
theorem Rel1.turn (r : Rel1 m s) : Rel1 m.turn { s with arrow := 1 - s.arrow } :=
  { r with
    arrow := by
      show 1 - m.arrow = ((1 - s.arrow : Nat) : Int)
      rw [r.arrow]; rcases r.arrowOk with h | h <;> rw [h] <;> rfl
    arrowOk := by
      rcases r.arrowOk with h | h <;> simp [h]
    thr := r.thr }
theorem init_two {s : State} (h : s = Kg67.init) : s.period = 0 := by rw [h]; rfl
end
/-- the calls while a game is played -/
theorem same_R {g : Option Gm} {s : State} {right : Bool} {f : Gm → Rs} {F : Unit → State × Kg67.Ans} (r : Rel g s)
    (h : right = true → ∀ m, g = some m → Rel1 m s → s.won = none → s.period ≠ 0 → Same (f m) (F ())) :
    Same (playR g right f) (if right = false then (s, Kg67.num (-1)) else Kg67.onGame s F) := by
  unfold playR
  cases right with
  | false => exact ⟨r, rfl⟩
  | true =>
    rw [if_neg (show ¬ (true = false) by simp)]
    unfold Kg67.onGame
    cases g with
    | none =>
      rw [if_neg (show ¬ refusal none true = 0 by decide), if_pos (.inl (init_two r))]
      exact ⟨r, rfl⟩
    | some m =>
      have r1 : Rel1 m s := r
      cases p : isPlayed (some m) with
      | true =>
        have e : refusal (some m) true = 0 := by unfold refusal; rw [p]; rfl
        rw [if_pos e, if_neg (r1.played.mp p)]
        have := r1.played.mp p
        refine h rfl m rfl r1 ?_ fun z => this (.inl z)
        cases q : s.won with
        | none => rfl
        | some _ => rw [q] at this; exact absurd (.inr rfl) this
      | false =>
        have q : (s.period = 0 ∨ s.won.isSome = true) := Decidable.byContradiction fun z => by
          rw [r1.played.mpr z] at p; cases p
        have e : refusal (some m) true = -2 := by unfold refusal; rw [p]; rfl
        rw [e, if_neg (by decide), if_pos q]
        exact ⟨r, rfl⟩
theorem same_P {g : Option Gm} {s : State} {right : Bool} {f : Gm → Rs} {F : Unit → State × Kg67.Ans} (r : Rel g s)
    (h : right = true → ∀ m, g = some m → Rel1 m s → s.won = none → s.throws = none → s.period ≠ 0 → Same (f m) (F ())) :
    Same (playP g right f) (if right = false then (s, Kg67.num (-1)) else Kg67.inPlay s F) := by
  have key : playP g right f = playR g right fun m => if m.stop = 0 then f m else (some m, [m.stop]) := by
    unfold playP playR refusalP
    by_cases h1 : refusal g right = 0
    · rw [if_pos h1, if_pos h1]
      cases g with
      | none => rfl
      | some m => rfl
    · rw [if_neg h1, if_neg h1, if_neg h1]
  rw [key]
  refine same_R r fun hr m e r1 w np => ?_
  unfold Gm.stop
  by_cases h1 : 0 < m.many
  · rw [if_pos h1, if_neg (by decide), if_pos (r1.many0.mp h1)]
    exact ⟨r1, rfl⟩
  · rw [if_neg h1, if_neg fun z => h1 (r1.many0.mpr z), ← r1.anyShort]
    by_cases h2 : m.anyShort = true
    · rw [if_pos h2, if_neg (by decide), if_pos h2]
      exact ⟨r1, rfl⟩
    · rw [if_neg h2, if_pos rfl, if_neg h2]
      refine h hr m e r1 w ?_ np
      cases q : s.throws with
      | none => rfl
      | some _ => exact absurd (r1.many0.mpr (by rw [q]; rfl)) h1
theorem same_done {m : Gm} {s : State} (r : Rel1 m s) {z z' : Int} (e : z = z') : Same (told m z) (Kg67.done s z') := ⟨r, by
  show z :: m.stands = z' :: Kg67.told s
  rw [e, r.stands]⟩

theorem Rel1.anew {t : Tm} {x : Team} (r : TRel t x) {p : Nat} : TRel (t.anew (p : Int)) { x with fouls := if p ≤ 4 then 0 else x.fouls, timeouts := if p = 3 ∨ 4 < p then 0 else x.timeouts } :=
  { r with
    pts := r.pts
    fls := by
      show (if (p : Int) ≤ 4 then 0 else t.fouls) = ((if p ≤ 4 then 0 else x.fouls : Nat) : Int)
      by_cases h : p ≤ 4
      · rw [if_pos h, if_pos (by omega)]; rfl
      · rw [if_neg h, if_neg (by omega)]; exact r.fls
    tms := by
      show (if (p : Int) = 3 ∨ 4 < (p : Int) then 0 else t.timeouts) = ((if p = 3 ∨ 4 < p then 0 else x.timeouts : Nat) : Int)
      by_cases h : p = 3 ∨ 4 < p
      · rw [if_pos h, if_pos (by omega)]; rfl
      · rw [if_neg h, if_neg (by omega)]; exact r.tms }
section
variable {m : Gm} {s : State}
theorem Rel1.nextP (r : Rel1 m s) : Rel1 m.nextP (
    let p := s.period + 1
    let f (x : Team) : Team := { x with fouls := if p ≤ 4 then 0 else x.fouls, timeouts := if p = 3 ∨ 4 < p then 0 else x.timeouts }
    { s with a := f s.a, b := f s.b, period := p, left := if p ≤ 4 then Kg67.PERIOD else Kg67.EXTRA, ball := some s.arrow, shot := Kg67.SHOT, arrow := 1 - s.arrow }) := by
  have e : m.period + 1 = ((s.period + 1 : Nat) : Int) := by rw [r.period]; rfl
  have t := r.turn
  exact {
    rd := r.rd
    ta := by
      show TRel (m.a.anew (m.period + 1)) _
      rw [e]; exact Rel1.anew r.ta
    tb := by
      show TRel (m.b.anew (m.period + 1)) _
      rw [e]; exact Rel1.anew r.tb
    period := e
    left := by
      show (if m.period + 1 ≤ 4 then (6000 : Int) else 3000) = ((if s.period + 1 ≤ 4 then 6000 else 3000 : Nat) : Int)
      rw [e]
      by_cases h : s.period + 1 ≤ 4
      · rw [if_pos h, if_pos (by omega)]; rfl
      · rw [if_neg h, if_neg (by omega)]; rfl
    shot := rfl
    ball := r.arrow
    ballOk := .inr (r.arrowOk.imp (congrArg some) (congrArg some))
    arrow := t.arrow
    arrowOk := t.arrowOk
    missed := r.missed
    ring := r.ring
    thr := r.thr
    won := r.won
    two := r.two
    pre := fun z => by cases z }
/-- a period's end; the clock has come to its end -/
theorem Rel1.endP (r : Rel1 m s) (h0 : s.left = 0) (ht : s.throws = none) : Rel1 m.endP s.next := by
  have ea := r.ta.pts
  have eb := r.tb.pts
  have ep := r.period
  unfold Gm.endP State.next
  by_cases h : 4 ≤ s.period ∧ s.a.points ≠ s.b.points
  · rw [if_pos h]
    have rr : ∀ n : Nat, n = (if s.b.points < s.a.points then 0 else 1) → Rel1 (m.over (n : Int)) { s with left := 0, ball := none, won := some (if s.b.points < s.a.points then 0 else 1) } := by
      intro n hn
      exact { r with
        left := by show m.left = _; rw [r.left, h0]
        ball := rfl
        ballOk := .inl rfl
        thr := by
          show ThrOk (m.over (n : Int)) s.throws
          rw [ht]; exact Eq.refl (0 : Int)
        won := by rw [← hn]; rfl
        two := fun z => by cases z }
    by_cases h2 : s.b.points < s.a.points
    · rw [if_pos (by omega)]
      have := rr 0 (by rw [if_pos h2])
      exact this
    · rw [if_neg (by omega), if_pos (by omega)]
      have := rr 1 (by rw [if_neg h2])
      exact this
  · rw [if_neg h, if_neg (by omega), if_neg (by omega)]
    exact r.nextP
end
/-! ### the calls -/
theorem same_tip {g : Option Gm} {s : State} (r : Rel g s) (t : Int) : Same (tip g t) (Kg67.spec s (.tip t)) := by
  unfold tip
  rw [side_within]
  show Same _ (if Kg67.within t 0 1 = false then _ else _)
  by_cases h : Kg67.within t 0 1 = false
  · rw [if_pos h, if_pos h]; exact ⟨r, rfl⟩
  · rw [if_neg h, if_neg h]
    cases g with
    | none =>
      have e : s = Kg67.init := r
      rw [if_pos (.inl (by rw [e]; rfl))]
      exact ⟨r, rfl⟩
    | some m =>
      have r1 : Rel1 m s := r
      show Same (if 0 < m.period then _ else _) _
      by_cases hp : 0 < m.period
      · rw [if_pos hp, if_pos (.inr (by have := r1.period; omega))]
        exact ⟨r, rfl⟩
      · have hs : isSide t = true := by rw [side_within]; simpa using h
        rw [if_neg hp, if_neg (by rw [r1.rd]; have := r1.period; simp; omega)]
        refine same_done ?_ rfl
        have e0 : s.period = 0 := by have := r1.period; omega
        have r2 : Rel1 { m with arrow := t } { s with arrow := t.toNat } := { r1 with
          arrow := by show t = (t.toNat : Int); rcases isSide_iff.mp hs with rfl | rfl <;> rfl
          arrowOk := by rcases isSide_iff.mp hs with rfl | rfl <;> simp
          thr := r1.thr }
        have r3 := r2.nextP
        have ef := r1.pre e0
        have e1 : (if s.period + 1 ≤ 4 then 0 else s.a.fouls) = s.a.fouls := by rw [e0, ef.1]; rfl
        have e2 : (if s.period + 1 ≤ 4 then 0 else s.b.fouls) = s.b.fouls := by rw [e0, ef.2]; rfl
        have e3 : (if s.period + 1 = 3 ∨ 4 < s.period + 1 then 0 else s.a.timeouts) = s.a.timeouts := by rw [e0]; rfl
        have e4 : (if s.period + 1 = 3 ∨ 4 < s.period + 1 then 0 else s.b.timeouts) = s.b.timeouts := by rw [e0]; rfl
        have e5 : (if s.period + 1 ≤ 4 then Kg67.PERIOD else Kg67.EXTRA) = Kg67.PERIOD := by rw [e0]; rfl
        have e6 : s.period + 1 = 1 := by rw [e0]
        dsimp only at r3
        rw [e1, e2, e3, e4, e5, e6] at r3
        exact r3
theorem Rel1.letRun {m : Gm} {s : State} (r : Rel1 m s) (ht : s.throws = none) {t : Nat} (hl : t ≤ s.left) (hs : s.ball.isSome = true → t ≤ s.shot) :
    Rel1 (m.letRun (t : Int)) (match s.ball with
      | none => let u := { s with left := s.left - t }; if u.left = 0 then u.next else u
      | some x => let u := { s with left := s.left - t, shot := s.shot - t }; if u.left = 0 then u.next else if u.shot = 0 then u.gets (1 - x) Kg67.SHOT else u) := by
  have el : m.left - (t : Int) = ((s.left - t : Nat) : Int) := by rw [r.left]; omega
  have fin : ∀ (u : Gm) (v : State), Rel1 u v → v.throws = none → (u.ball = -1 ↔ v.ball = none) → Rel1 (if u.left = 0 then u.endP else if u.ball ≠ -1 ∧ u.shot = 0 then u.give (1 - u.ball) 240 else u)
      (match v.ball with
      | none => if v.left = 0 then v.next else v
      | some x => if v.left = 0 then v.next else if v.shot = 0 then v.gets (1 - x) Kg67.SHOT else v) := by
    intro u v q hv hb
    have l := q.left
    have sh := q.shot
    have qb := q.ball
    by_cases h0 : v.left = 0
    · rw [if_pos (by omega)]
      have z := q.endP h0 hv
      split <;> rw [if_pos h0] <;> exact z
    · rw [if_neg (by omega)]
      cases e : v.ball with
      | none =>
        dsimp only
        rw [if_neg h0, if_neg (by rw [hb.mpr e]; simp)]; exact q
      | some x =>
        dsimp only
        rw [if_neg h0]
        have nb : u.ball ≠ -1 := fun z => by rw [hb.mp z] at e; cases e
        by_cases h1 : v.shot = 0
        · rw [if_pos h1, if_pos ⟨nb, by omega⟩]
          rcases q.ballOk with z | z | z <;> rw [z] at e qb <;> cases e
          · exact q.give (.inr rfl) (by rw [qb]; rfl) rfl
          · exact q.give (.inl rfl) (by rw [qb]; rfl) rfl
        · rw [if_neg h1, if_neg (by omega)]; exact q
  have hbl : m.ball = -1 ↔ s.ball = none := by
    have := r.ball
    rcases r.ballOk with z | z | z <;> rw [z] at this ⊢ <;> rw [this] <;> simp [Kg67.opt]
  cases e : s.ball with
  | none =>
    have q : Rel1 { m with left := m.left - t, shot := if m.ball ≠ -1 then m.shot - t else m.shot } { s with left := s.left - t } := { r with
      left := el
      shot := by
        show (if m.ball ≠ -1 then m.shot - (t : Int) else m.shot) = _
        rw [if_neg (by rw [hbl.mpr e]; simp)]; exact r.shot
      thr := r.thr }
    have z := fin _ _ q ht hbl
    have e' : ({ s with left := s.left - t } : State).ball = none := e
    rw [e'] at z
    exact z
  | some x =>
    have hs' := hs (by rw [e]; rfl)
    have q : Rel1 { m with left := m.left - t, shot := if m.ball ≠ -1 then m.shot - t else m.shot } { s with left := s.left - t, shot := s.shot - t } := { r with
      left := el
      shot := by
        show (if m.ball ≠ -1 then m.shot - (t : Int) else m.shot) = ((s.shot - t : Nat) : Int)
        rw [if_pos (fun z => by rw [hbl.mp z] at e; cases e), r.shot]; omega
      thr := r.thr }
    have z := fin _ _ q ht hbl
    have e' : ({ s with left := s.left - t, shot := s.shot - t } : State).ball = some x := e
    rw [e'] at z
    exact z
theorem same_run {g : Option Gm} {s : State} (r : Rel g s) (t : Int) : Same (run g t) (Kg67.spec s (.run t)) := by
  refine same_P r fun hr m _ r1 w ht np => ?_
  simp only [Bool.and_eq_true, decide_eq_true_eq] at hr
  have hbl : m.ball = -1 ↔ s.ball = none := by
    have := r1.ball
    rcases r1.ballOk with z | z | z <;> rw [z] at this ⊢ <;> rw [this] <;> simp [Kg67.opt]
  have key : ∃ n : Nat, (if m.toStop < t then m.toStop else t) = (n : Int) ∧ (s.runs t.toNat).2 = n ∧ n ≤ s.left ∧ (s.ball.isSome = true → n ≤ s.shot) ∧
      (s.runs t.toNat).1 = (match s.ball with
      | none => let u := { s with left := s.left - n }; if u.left = 0 then u.next else u
      | some x => let u := { s with left := s.left - n, shot := s.shot - n }; if u.left = 0 then u.next else if u.shot = 0 then u.gets (1 - x) Kg67.SHOT else u) := by
    have l := r1.left
    have sh := r1.shot
    unfold State.runs
    cases e : s.ball with
    | none =>
      refine ⟨min t.toNat s.left, ?_, rfl, Nat.min_le_right _ _, fun z => by (simp at z), rfl⟩
      have ts : m.toStop = m.left := if_neg fun z => z.1 (hbl.mpr e)
      rw [ts]
      split <;> omega
    | some x =>
      have nb : m.ball ≠ -1 := fun z => by rw [hbl.mp z] at e; cases e
      refine ⟨if s.shot < s.left then min (min t.toNat s.left) s.shot else min t.toNat s.left, ?_, rfl, ?_, fun _ => ?_, rfl⟩
      · by_cases h : s.shot < s.left
        · have ts : m.toStop = m.shot := if_pos ⟨nb, by omega⟩
          rw [if_pos h, ts]; split <;> omega
        · have ts : m.toStop = m.left := if_neg (by omega)
          rw [if_neg h, ts]; split <;> omega
      · split <;> omega
      · split <;> omega
  obtain ⟨n, e1, e2, h1, h2, e3⟩ := key
  dsimp only
  rw [e1, e2, e3]
  exact same_done (r1.letRun ht h1 h2) rfl
theorem same_lose {g : Option Gm} {s : State} (r : Rel g s) : Same (lose g) (Kg67.spec s .lose) := by
  refine same_P (right := true) r fun hr m _ r1 w ht np => ?_
  have hb := r1.ball
  rcases r1.ballOk with e | e | e <;> rw [e] at hb ⊢
  · have hb : m.ball = -1 := hb
    rw [if_pos hb]; exact ⟨r1, rfl⟩
  · have hb : m.ball = 0 := hb
    rw [if_neg (by rw [hb]; decide)]
    exact same_done (r1.give (k := 1) (t := 240) (.inr rfl) (by rw [hb]; rfl) rfl) rfl
  · have hb : m.ball = 1 := hb
    rw [if_neg (by rw [hb]; decide)]
    exact same_done (r1.give (k := 0) (t := 240) (.inl rfl) (by rw [hb]; rfl) rfl) rfl
theorem Rel1.side {m : Gm} {s : State} (r : Rel1 m s) {x : Nat} (e : s.ball = some x) : m.ball = (x : Int) ∧ isSide m.ball = true ∧ m.ball ≠ -1 ∧ (x = 0 ∨ x = 1) ∧ m.ball.toNat = x ∧ 1 - m.ball = ((1 - x : Nat) : Int) ∧ (1 - x = 0 ∨ 1 - x = 1) := by
  have hb := r.ball
  rcases r.ballOk with z | z | z <;> rw [z] at e hb <;> cases e
  · rw [show m.ball = 0 from hb]; simp [isSide]
  · rw [show m.ball = 1 from hb]; simp [isSide]
theorem Rel1.noBall {m : Gm} {s : State} (r : Rel1 m s) (e : s.ball = none) : m.ball = -1 := by
  have hb := r.ball
  rw [e] at hb; exact hb
theorem same_rebound {g : Option Gm} {s : State} (r : Rel g s) (t : Int) : Same (rebound g t) (Kg67.spec s (.rebound t)) := by
  unfold rebound
  rw [side_within]
  refine same_P r fun hr m _ r1 w ht np => ?_
  rw [← side_within] at hr
  cases e : s.ball with
  | some x =>
    rw [if_pos (r1.side e).2.2.1, if_pos (by rfl)]; exact ⟨r1, rfl⟩
  | none =>
    rw [if_neg (by rw [r1.noBall e]; simp), if_neg (by simp)]
    have ht1 : t = (t.toNat : Int) ∧ (t.toNat = 0 ∨ t.toNat = 1) := by
      rcases isSide_iff.mp hr with rfl | rfl <;> simp
    refine same_done (r1.give ht1.2 ht1.1 ?_) rfl
    unfold Gm.shotBehind
    rw [r1.missed, r1.ring, r1.shot]
    by_cases h : s.shooter = t.toNat
    · rw [if_pos h, if_neg (by omega)]
      cases s.rim <;> rfl
    · rw [if_neg h, if_pos (by omega)]; rfl
theorem same_held {g : Option Gm} {s : State} (r : Rel g s) : Same (held g) (Kg67.spec s .held) := by
  refine same_P (right := true) r fun hr m _ r1 w ht np => ?_
  refine same_done ?_ rfl
  have ea := r1.arrow
  by_cases h : s.ball = some s.arrow
  · have hb : m.ball = m.arrow := by rw [(r1.side h).1, ea]
    rw [if_neg (by simp [hb]), if_pos h]
    have z := r1.turn
    exact { z with ball := by show m.ball = _; rw [hb, ea]; rfl
                   ballOk := .inr (r1.arrowOk.imp (congrArg some) (congrArg some))
                   thr := r1.thr }
  · have hb : m.ball ≠ m.arrow := by
      intro q
      have hb := r1.ball
      rw [q, ea] at hb
      apply h
      cases e : s.ball with
      | none => rw [e] at hb; have hb : (s.arrow : Int) = -1 := hb; omega
      | some x => rw [e] at hb; have hb : (s.arrow : Int) = (x : Int) := hb; have : x = s.arrow := by omega
                  rw [this]
    rw [if_pos hb, if_neg h]
    exact (r1.give r1.arrowOk ea rfl).turn
theorem same_miss {g : Option Gm} {s : State} (r : Rel g s) (n q : Int) : Same (miss g n q) (Kg67.spec s (.miss n q)) := by
  unfold miss
  rw [side_within, number_within]
  refine same_P r fun hr m _ r1 w ht np => ?_
  rw [Bool.and_eq_true] at hr
  have hn : 0 ≤ n := by have := hr.1; simp [Kg67.within] at this; omega
  cases e : s.ball with
  | none => rw [if_pos (r1.noBall e)]; exact ⟨r1, rfl⟩
  | some x =>
    obtain ⟨h1, h2, h3, h4, h5, h6, h7⟩ := r1.side e
    rw [if_neg h3]
    have ht2 := r1.team h2
    rw [h5] at ht2
    have hf := ht2.findC hn
    dsimp only
    cases hc : (m.team m.ball).findC n with
    | none =>
      rw [hc] at hf
      rw [if_pos (by rw [← hf]; rfl)]; exact ⟨r1, rfl⟩
    | some i =>
      rw [hc] at hf
      rw [if_neg (by rw [← hf]; simp)]
      refine same_done (m := m.missBy m.ball q) (s := { s with ball := none, shooter := x, rim := q == 1 }) ?_ rfl
      refine { r1 with ball := rfl, ballOk := .inl rfl, missed := h1, ring := ?_, thr := r1.thr }
      have := hr.2
      show q = b2i (q == 1)
      rw [← side_within] at this
      rcases isSide_iff.mp this with rfl | rfl <;> rfl
theorem same_basket {g : Option Gm} {s : State} (r : Rel g s) (n p : Int) : Same (basket g n p) (Kg67.spec s (.basket n p)) := by
  unfold basket
  rw [number_within]
  refine same_P (right := Kg67.within n 0 99 && Kg67.within p 2 3) r fun hr m _ r1 w ht np => ?_
  rw [Bool.and_eq_true] at hr
  have hn : 0 ≤ n := by have := hr.1; simp [Kg67.within] at this; omega
  have hp : 0 ≤ p := by have := hr.2; simp [Kg67.within] at this; omega
  dsimp only
  cases e : s.ball with
  | none => rw [if_pos (r1.noBall e)]; exact ⟨r1, rfl⟩
  | some x =>
    obtain ⟨h1, h2, h3, h4, h5, h6, h7⟩ := r1.side e
    rw [if_neg h3]
    have ht2 := r1.team h2
    rw [h5] at ht2
    have hf := ht2.findC hn
    dsimp only
    cases hc : (m.team m.ball).findC n with
    | none =>
      rw [hc] at hf
      rw [if_pos (by rw [← hf]; rfl)]; exact ⟨r1, rfl⟩
    | some i =>
      rw [hc] at hf
      rw [if_neg (by rw [← hf]; simp)]
      have q := ht2.score hn hp hc
      have two : s.won = none → 2 ≤ (s.team x).court.length := fun z => by rcases h4 with rfl | rfl; exact (r1.two z).1; exact (r1.two z).2
      have r2 := r1.put h2 q (by exact two) np
      rw [h5] at r2
      refine same_done (r2.give h7 h6 rfl) q.pts

theorem same_timeout {g : Option Gm} {s : State} (r : Rel g s) (t : Int) : Same (timeout g t) (Kg67.spec s (.timeout t)) := by
  unfold timeout
  rw [side_within]
  refine same_R r fun hr m _ r1 w np => ?_
  rw [← side_within] at hr
  have ht := r1.team hr
  have e : mostT m.period = ((if s.period ≤ 2 then 2 else if s.period ≤ 4 then 3 else 1 : Nat) : Int) := by
    unfold mostT
    rw [r1.period]
    by_cases h : s.period ≤ 2
    · rw [if_pos h, if_pos (by omega)]; rfl
    · rw [if_neg h, if_neg (by omega)]
      by_cases h2 : s.period ≤ 4
      · rw [if_pos h2, if_pos (by omega)]; rfl
      · rw [if_neg h2, if_neg (by omega)]; rfl
  have et := ht.tms
  dsimp only
  by_cases h : (if s.period ≤ 2 then 2 else if s.period ≤ 4 then 3 else 1) ≤ (s.team t.toNat).timeouts
  · rw [if_pos h, if_pos (by rw [e, et]; exact Int.ofNat_le.mpr h)]
    exact ⟨r1, rfl⟩
  · rw [if_neg h, if_neg (by rw [e, et]; exact fun z => h (Int.ofNat_le.mp z))]
    have two : s.won = none → 2 ≤ (s.team t.toNat).court.length := fun z => by
      rcases isSide_iff.mp hr with rfl | rfl; exact (r1.two z).1; exact (r1.two z).2
    refine ⟨r1.put hr (x := { s.team t.toNat with timeouts := (s.team t.toNat).timeouts + 1 }) { ht with pts := ht.pts, tms := ?_ } two np, ?_⟩
    · show (m.team t).timeouts + 1 = (((s.team t.toNat).timeouts + 1 : Nat) : Int)
      rw [et]; rfl
    · show [(m.team t).timeouts + 1] = [(((s.team t.toNat).timeouts + 1 : Nat) : Int)]
      rw [et]; rfl
theorem same_sub {g : Option Gm} {s : State} (r : Rel g s) (t o i : Int) : Same (sub g t o i) (Kg67.spec s (.sub t o i)) := by
  unfold sub
  rw [side_within, number_within, number_within]
  refine same_R r fun hr m _ r1 w np => ?_
  rw [← side_within, Bool.and_eq_true, Bool.and_eq_true] at hr
  obtain ⟨hs, ho, hi⟩ := hr
  have ho : 0 ≤ o := by simp [Kg67.within] at ho; omega
  have hi : 0 ≤ i := by simp [Kg67.within] at hi; omega
  have ht := r1.team hs
  have e1 := ht.findC ho
  have e2 := ht.findB hi
  dsimp only
  rw [← e1, ← e2]
  cases c1 : (m.team t).findC o with
  | none => exact ⟨r1, rfl⟩
  | some j =>
    cases c2 : (m.team t).findB i with
    | none => exact ⟨r1, rfl⟩
    | some k =>
      rw [if_neg (by simp)]
      have two : s.won = none → 2 ≤ (s.team t.toNat).court.length := fun z => by
        rcases isSide_iff.mp hs with rfl | rfl; exact (r1.two z).1; exact (r1.two z).2
      refine ⟨r1.put hs (ht.sub ho hi c1 c2) (fun z => ?_) np, rfl⟩
      show 2 ≤ ((s.team t.toNat).court.map _).length
      rw [List.length_map]; exact two z
theorem same_enter {g : Option Gm} {s : State} (r : Rel g s) (t i : Int) : Same (enter g t i) (Kg67.spec s (.enter t i)) := by
  unfold enter
  rw [side_within, number_within]
  refine same_R r fun hr m _ r1 w np => ?_
  rw [← side_within, Bool.and_eq_true] at hr
  obtain ⟨hs, hi⟩ := hr
  have hi : 0 ≤ i := by simp [Kg67.within] at hi; omega
  have ht := r1.team hs
  have e2 := ht.findB hi
  have em := ht.many
  dsimp only
  rw [← e2]
  cases c2 : (m.team t).findB i with
  | none =>
    rw [if_pos (by simp)]
    exact ⟨r1, rfl⟩
  | some k =>
    dsimp only
    by_cases h : 5 ≤ (m.team t).many
    · rw [if_pos h, if_pos (by simp; omega)]
      exact ⟨r1, rfl⟩
    · rw [if_neg h, if_neg (by simp; omega)]
      have two : s.won = none → 2 ≤ (s.team t.toNat).court.length := fun z => by
        rcases isSide_iff.mp hs with rfl | rfl; exact (r1.two z).1; exact (r1.two z).2
      have q := ht.enter hi c2
      refine ⟨r1.put hs q (fun z => ?_) np, ?_⟩
      · show 2 ≤ ((s.team t.toNat).court ++ [i.toNat]).length
        have := two z
        rw [List.length_append]; omega
      · show [_] = [(((s.team t.toNat).court.length + 1 : Nat) : Int)]
        rw [q.many]
        show [((((s.team t.toNat).court ++ [i.toNat]).length : Nat) : Int)] = _
        rw [List.length_append]; rfl
theorem same_now {g : Option Gm} {s : State} (r : Rel g s) : Same (now g) (Kg67.spec s .now) := by
  cases g with
  | none =>
    have e : s = Kg67.init := r
    subst e
    exact ⟨r, rfl⟩
  | some m =>
    have r1 : Rel1 m s := r
    refine ⟨r1, ?_⟩
    show 1 :: m.stands = Kg67.truth s.ready :: Kg67.told s
    rw [r1.stands, r1.rd]; rfl
theorem same_sheet {g : Option Gm} {s : State} (r : Rel g s) (t : Int) : Same (sheet g t) (Kg67.spec s (.sheet t)) := by
  unfold sheet
  rw [side_within]
  show Same _ (if Kg67.within t 0 1 = false then _ else _)
  by_cases h : Kg67.within t 0 1 = false
  · rw [if_pos h, if_pos h]; exact ⟨r, rfl⟩
  · rw [if_neg h, if_neg h]
    have hs : isSide t = true := by rw [side_within]; simpa using h
    cases g with
    | none =>
      have e : s = Kg67.init := r
      subst e
      refine ⟨rfl, ?_⟩
      rcases isSide_iff.mp hs with rfl | rfl <;> rfl
    | some m =>
      have r1 : Rel1 m s := r
      exact ⟨r1, (r1.team hs).sheet⟩
theorem same_begin {g : Option Gm} {s : State} (r : Rel g s) (a b : List Int) : Same (call g ⟨1, a, b⟩) (Kg67.spec s (.begin_ a b)) := by
  show Same (if arePlayers a = true ∧ arePlayers b = true then _ else _) (if (Kg67.roster a && Kg67.roster b) = false then _ else _)
  rw [are_roster, are_roster]
  by_cases h : Kg67.roster a = true ∧ Kg67.roster b = true
  · rw [if_pos h, if_neg (by simp [h.1, h.2])]
    refine ⟨?_, rfl⟩
    have len : ∀ l, Kg67.roster l = true → 5 ≤ l.length := fun l h => by
      unfold Kg67.roster at h
      simp only [Bool.and_eq_true, decide_eq_true_eq] at h
      exact h.2.2.1
    have two : ∀ l, Kg67.roster l = true → 2 ≤ (Kg67.teamOf l).court.length := fun l h => by
      have := len l h
      show 2 ≤ ((l.take 5).map Int.toNat).length
      rw [List.length_map, List.length_take]; omega
    exact {
      rd := rfl
      ta := TRel.fresh (by rw [are_roster]; exact h.1)
      tb := TRel.fresh (by rw [are_roster]; exact h.2)
      period := rfl
      left := rfl
      shot := rfl
      ball := rfl
      ballOk := .inl rfl
      arrow := rfl
      arrowOk := .inl rfl
      missed := rfl
      ring := rfl
      thr := rfl
      won := rfl
      two := fun _ => ⟨two a h.1, two b h.2⟩
      pre := fun _ => ⟨rfl, rfl⟩ }
  · rw [if_neg h, if_pos (by
      rw [Bool.eq_false_iff]; intro z; rw [Bool.and_eq_true] at z; exact h z)]
    exact ⟨r, rfl⟩

theorem Rel1.throwsFor {m : Gm} {s : State} (r : Rel1 m s) {o : Int} {w : Throws} {k b : Int} (h1 : k = (w.left : Int)) (h2 : 1 ≤ w.left) (h3 : o = (w.team : Int)) (h4 : w.team = 0 ∨ w.team = 1)
    (h5 : (b = 0 ∧ w.fresh = false) ∨ (b = 1 ∧ w.fresh = true ∧ w.after = some w.team) ∨ (b = 2 ∧ w.fresh = true ∧ w.after = none)) : Rel1 (m.throwsFor o k b) { s with throws := some w } :=
  { r with thr := ⟨h1, h2, h3, h4, h5⟩ }
theorem Rel1.bring {m : Gm} {s : State} (r : Rel1 m s) {t k shot : Int} (hs : isSide t = true) (hk : 0 ≤ k ∧ k ≤ 3) (hsh : 0 ≤ shot ∧ shot ≤ 3) : Rel1 (m.bring t k shot) (s.brings t.toNat k.toNat shot.toNat) := by
  have ho : (1 - t) = ((1 - t.toNat : Nat) : Int) ∧ (1 - t.toNat = 0 ∨ 1 - t.toNat = 1) := by rcases isSide_iff.mp hs with rfl | rfl <;> simp
  have ht : t = (t.toNat : Int) := by rcases isSide_iff.mp hs with rfl | rfl <;> rfl
  have fl := (r.team hs).fls
  have bl : ∀ n : Nat, s.ball = some n ↔ m.ball = (n : Int) := by
    intro n
    have hb := r.ball
    cases e : s.ball with
    | none => rw [e] at hb; rw [hb]; show (none = some n) ↔ ((-1 : Int) = n); constructor; (intro z; cases z); (intro z; omega)
    | some x =>
      rw [e] at hb; rw [hb]
      show (some x = some n) ↔ ((x : Int) = n)
      constructor
      · intro z; cases z; rfl
      · intro z
        have : x = n := by omega
        rw [this]
  unfold Gm.bring State.brings
  dsimp only
  by_cases c1 : k = 1
  · rw [if_pos c1, if_pos (show k.toNat = 1 by omega)]
    exact r.throwsFor rfl (Nat.le_refl 1) ho.1 ho.2 (.inl ⟨rfl, rfl⟩)
  rw [if_neg c1, if_neg (show ¬ k.toNat = 1 by omega)]
  by_cases c2 : k = 0
  · rw [if_neg (show ¬ k ≠ 0 by omega), if_neg (show ¬ 2 ≤ k.toNat by omega)]
    by_cases c3 : 0 < shot
    · rw [if_pos c3, if_pos (show 0 < shot.toNat by omega)]
      refine r.throwsFor ?_ ?_ ho.1 ho.2 (.inr (.inr ⟨rfl, rfl, rfl⟩))
      · show shot = (shot.toNat : Int); omega
      · show 1 ≤ shot.toNat; omega
    rw [if_neg c3, if_neg (show ¬ 0 < shot.toNat by omega)]
    by_cases c4 : m.ball = t
    · rw [if_pos c4, if_pos (show s.ball = some t.toNat from (bl t.toNat).mpr (by rw [c4]; exact ht))]
      exact r.give ho.2 ho.1 rfl
    rw [if_neg c4, if_neg (show ¬ s.ball = some t.toNat from fun z => c4 (by rw [(bl t.toNat).mp z]; exact ht.symm))]
    by_cases c5 : 5 ≤ (m.team t).fouls
    · rw [if_pos c5, if_pos (show Kg67.BONUS ≤ _ by unfold Kg67.BONUS; omega)]
      exact r.throwsFor rfl (show 1 ≤ 2 by omega) ho.1 ho.2 (.inr (.inr ⟨rfl, rfl, rfl⟩))
    rw [if_neg c5, if_neg (show ¬ Kg67.BONUS ≤ _ by unfold Kg67.BONUS; omega)]
    by_cases c6 : m.ball = 1 - t
    · rw [if_pos c6, if_pos ((bl (1 - t.toNat)).mpr (by rw [c6]; exact ho.1))]
      refine r.give ho.2 ho.1 ?_
      have := r.shot
      unfold Kg67.AGAIN
      split <;> omega
    · rw [if_neg c6, if_neg fun z => c6 (by rw [(bl (1 - t.toNat)).mp z]; exact ho.1.symm)]
      exact r.give ho.2 ho.1 rfl
  · rw [if_pos c2, if_pos (show 2 ≤ k.toNat by omega)]
    refine r.throwsFor ?_ ?_ ho.1 ho.2 (.inr (.inl ⟨rfl, rfl, rfl⟩))
    · show (if 0 < shot then shot else 2) = ((if shot.toNat = 0 then 2 else shot.toNat : Nat) : Int)
      by_cases c3 : 0 < shot
      · rw [if_pos c3, if_neg (by omega)]; omega
      · rw [if_neg c3, if_pos (by omega)]; rfl
    · show 1 ≤ (if shot.toNat = 0 then 2 else shot.toNat)
      split <;> omega
theorem settle_b {s : State} (h : ¬ s.a.court.length < 2) (h2 : s.b.court.length < 2) : s.settle = { s with won := some 0, throws := none, ball := none } := (if_neg h).trans (if_pos h2)
theorem settle_no {s : State} (h : ¬ s.a.court.length < 2) (h2 : ¬ s.b.court.length < 2) : s.settle = s := (if_neg h).trans (if_neg h2)
theorem foul_done {s u : State} {t n k shot : Nat} (e : (s.set t ((s.team t).noted n k)).settle = u) (h : u.won.isSome = true) : s.foul t n k shot = u := by
  show (if ((s.set t ((s.team t).noted n k)).settle).won.isSome = true then (s.set t ((s.team t).noted n k)).settle else _) = u
  rw [e, if_pos h]
theorem foul_on {s u : State} {t n k shot : Nat} (e : (s.set t ((s.team t).noted n k)).settle = u) (h : u.won = none) : s.foul t n k shot = u.brings t k shot := by
  show (if ((s.set t ((s.team t).noted n k)).settle).won.isSome = true then _ else ((s.set t ((s.team t).noted n k)).settle).brings t k shot) = _
  rw [e, h, if_neg (by simp)]
theorem same_foul {g : Option Gm} {s : State} (r : Rel g s) (t n k shot : Int) : Same (foul g t n k shot) (Kg67.spec s (.foul t n k shot)) := by
  unfold foul rightFoul
  rw [side_within, number_within]
  refine same_P (right := Kg67.within t 0 1 && (Kg67.within n 0 99 && (Kg67.within k 0 3 && Kg67.within shot 0 3))) r fun hr m _ r1 w ht np => ?_
  rw [← side_within, Bool.and_eq_true, Bool.and_eq_true, Bool.and_eq_true] at hr
  obtain ⟨hs, hn, hk, hsh⟩ := hr
  have hn : 0 ≤ n := by simp [Kg67.within] at hn; omega
  have hk : 0 ≤ k ∧ k ≤ 3 := by simpa [Kg67.within] using hk
  have hsh : 0 ≤ shot ∧ shot ≤ 3 := by simpa [Kg67.within] using hsh
  have rt := r1.team hs
  have e1 := rt.findC hn
  have htt : t = (t.toNat : Int) := by rcases isSide_iff.mp hs with rfl | rfl <;> rfl
  dsimp only
  rw [← e1]
  cases c1 : (m.team t).findC n with
  | none => rw [if_pos (by rfl)]; exact ⟨r1, rfl⟩
  | some i =>
    rw [if_neg (by simp)]
    have st : m.strange t k shot = true ↔ ((k = 1 ∧ shot ≠ 0) ∨ (2 ≤ shot ∧ s.ball = some t.toNat)) := by
      have hb := r1.ball
      have bb : m.ball = t ↔ s.ball = some t.toNat := by
        cases e : s.ball with
        | none => rw [e] at hb; rw [hb]; show ((-1 : Int) = t) ↔ _; constructor; (intro z; omega); (intro z; cases z)
        | some x => rw [e] at hb; rw [hb]; show ((x : Int) = t) ↔ some x = some t.toNat; constructor; (intro z; rw [← z]; rfl); (intro z; cases z; exact htt.symm)
      unfold Gm.strange
      simp only [Bool.or_eq_true, Bool.and_eq_true, decide_eq_true_eq, bb]
      constructor
      · rintro (⟨a, b⟩ | ⟨a, b⟩)
        · exact .inl ⟨b, by omega⟩
        · exact .inr ⟨by omega, b⟩
      · rintro (⟨a, b⟩ | ⟨a, b⟩)
        · exact .inl ⟨by omega, a⟩
        · exact .inr ⟨by omega, b⟩
    dsimp only
    by_cases c2 : m.strange t k shot = true
    · rw [if_pos c2, if_pos (st.mp c2)]; exact ⟨r1, rfl⟩
    rw [if_neg c2, if_neg fun z => c2 (st.mpr z)]
    have q := rt.noted hn hk c1
    have em := q.many
    have efl : ∀ u : State, (u.a = (s.set t.toNat ((s.team t.toNat).noted n.toNat k.toNat)).a ∧ u.b = (s.set t.toNat ((s.team t.toNat).noted n.toNat k.toNat)).b) → (m.team t).fouls + 1 = (((u.team t.toNat).fouls : Nat) : Int) := by
      intro u hu
      have : u.team t.toNat = (s.team t.toNat).noted n.toNat k.toNat := by
        rcases isSide_iff.mp hs with rfl | rfl
        · exact hu.1
        · exact hu.2
      rw [this]; exact q.fls
    unfold Gm.fouled
    dsimp only
    have two := r1.two w
    by_cases c3 : ((s.team t.toNat).noted n.toNat k.toNat).court.length < 2
    · have r0 : Rel1 (m.over (1 - t)) { s with won := some (1 - t.toNat), throws := none, ball := none } := { r1 with
        ball := rfl
        ballOk := .inl rfl
        thr := (show (m.over (1 - t)).many = 0 from rfl)
        won := by show 1 - t = ((1 - t.toNat : Nat) : Int); rcases isSide_iff.mp hs with rfl | rfl <;> rfl
        two := fun z => by cases z }
      have r2 := r0.put hs q (fun z => by cases z) np
      rw [if_pos (show Tm.many _ < 2 by rw [em]; omega)]
      rcases isSide_iff.mp hs with rfl | rfl
      · have eS : (s.set (0 : Int).toNat ((s.team (0 : Int).toNat).noted n.toNat k.toNat)).settle = { (s.set (0 : Int).toNat ((s.team (0 : Int).toNat).noted n.toNat k.toNat)) with won := some 1, throws := none, ball := none } := if_pos c3
        rw [foul_done eS rfl]
        exact same_done r2 (efl _ ⟨rfl, rfl⟩)
      · have eS : (s.set (1 : Int).toNat ((s.team (1 : Int).toNat).noted n.toNat k.toNat)).settle = { (s.set (1 : Int).toNat ((s.team (1 : Int).toNat).noted n.toNat k.toNat)) with won := some 0, throws := none, ball := none } := settle_b (show ¬ s.a.court.length < 2 by omega) c3
        rw [foul_done eS rfl]
        exact same_done r2 (efl _ ⟨rfl, rfl⟩)
    · have r2 := r1.put hs q (fun _ => by omega) np
      rw [if_neg (show ¬ Tm.many _ < 2 by rw [em]; omega)]
      have eS : (s.set t.toNat ((s.team t.toNat).noted n.toNat k.toNat)).settle = (s.set t.toNat ((s.team t.toNat).noted n.toNat k.toNat)) := by
        rcases isSide_iff.mp hs with rfl | rfl
        · exact settle_no c3 (show ¬ s.b.court.length < 2 by omega)
        · exact settle_no (show ¬ s.a.court.length < 2 by omega) c3
      have eW : (s.set t.toNat ((s.team t.toNat).noted n.toNat k.toNat)).won = none := by
        rcases isSide_iff.mp hs with rfl | rfl <;> exact w
      rw [foul_on eS eW]
      have r3 := r2.bring hs hk hsh
      refine same_done r3 ?_
      refine efl _ ?_
      unfold State.brings
      dsimp only
      (repeat' split) <;> exact ⟨rfl, rfl⟩

theorem put_team {m : Gm} {n : Int} {t : Tm} : (m.put n t).team n = t := by
  unfold Gm.put Gm.team
  by_cases h : n = 0
  · rw [if_pos h, if_pos h]
  · rw [if_neg h, if_neg h]
theorem set_team {s : State} {n : Nat} {x : Team} : (s.set n x).team n = x := by
  unfold State.set State.team
  by_cases h : n = 0
  · rw [if_pos h, if_pos h]
  · rw [if_neg h, if_neg h]
theorem change_id (x : Team) (n : Nat) : x.change n (fun p => { p with points := p.points + 0 }) = x := by
  unfold Team.change
  have : x.players.map (fun p => if p.number = n then ({ p with points := p.points + 0 } : Player) else p) = x.players := by
    refine (List.map_congr_left (g := id) fun p _ => ?_).trans (List.map_id _)
    split <;> rfl
  rw [this]
theorem same_throw {g : Option Gm} {s : State} (r : Rel g s) (n good : Int) : Same (throw_ g n good) (Kg67.spec s (.throw_ n good)) := by
  unfold throw_
  rw [side_within, number_within]
  refine same_R r fun hr m _ r1 w np => ?_
  rw [Bool.and_eq_true, ← side_within] at hr
  obtain ⟨hn, hg⟩ := hr
  have hn : 0 ≤ n := by simp [Kg67.within] at hn; omega
  have th := r1.thr
  dsimp only
  cases e : s.throws with
  | none =>
    rw [e] at th
    rw [if_pos (show m.many = 0 from th)]; exact ⟨r1, rfl⟩
  | some wt =>
    rw [e] at th
    obtain ⟨t1, t2, t3, t4, t5⟩ := th
    rw [if_neg (show ¬ m.many = 0 by omega), ← r1.anyShort]
    dsimp only
    by_cases h2 : m.anyShort = true
    · rw [if_pos h2, if_pos h2]; exact ⟨r1, rfl⟩
    rw [if_neg h2, if_neg h2]
    have hs : isSide m.side = true := by rw [t3]; rcases t4 with z | z <;> rw [z] <;> rfl
    have es : m.side.toNat = wt.team := by rw [t3]; rfl
    have rt := r1.team hs
    rw [es] at rt
    rw [← rt.findC hn]
    cases c1 : (m.team m.side).findC n with
    | none => rw [if_pos (by rfl)]; exact ⟨r1, rfl⟩
    | some i =>
      rw [if_neg (by simp)]
      have hg0 : 0 ≤ good := by rcases isSide_iff.mp hg with z | z <;> omega
      have q := rt.score hn hg0 c1
      -- the team behind the throw
      have eY : (if (good == 1) = true then ({ (s.team wt.team).change n.toNat (fun p => { p with points := p.points + 1 }) with points := (s.team wt.team).points + 1 } : Team) else s.team wt.team)
          = { (s.team wt.team).change n.toNat (fun p => { p with points := p.points + good.toNat }) with points := (s.team wt.team).points + good.toNat } := by
        rcases isSide_iff.mp hg with rfl | rfl
        · rw [if_neg (by decide)]
          show _ = ({ (s.team wt.team).change n.toNat (fun p => { p with points := p.points + 0 }) with points := (s.team wt.team).points + 0 } : Team)
          rw [change_id]; rfl
        · rfl
      generalize hY : ({ (s.team wt.team).change n.toNat (fun p => { p with points := p.points + good.toNat }) with points := (s.team wt.team).points + good.toNat } : Team) = Y at q eY
      have lenY : Y.court.length = (s.team wt.team).court.length := by rw [← hY]; rfl
      have two : s.won = none → 2 ≤ Y.court.length := fun z => by
        rw [lenY]
        rcases t4 with z2 | z2 <;> rw [z2]
        · exact (r1.two z).1
        · exact (r1.two z).2
      have r2 := r1.put hs q two np
      rw [es] at r2
      have ho : (1 - m.side) = ((1 - wt.team : Nat) : Int) ∧ (1 - wt.team = 0 ∨ 1 - wt.team = 1) := by
        rw [t3]; rcases t4 with z | z <;> rw [z] <;> simp
      -- the specification's own road
      have eT : s.thrown wt n.toNat (good == 1) = (let u := s.set wt.team Y
          if 1 < wt.left then { u with throws := some { wt with left := wt.left - 1 } }
          else
            let v := { u with throws := none }
            match wt.after with
            | some t => if wt.fresh = true then v.gets t Kg67.AGAIN else v
            | none => if wt.fresh = false then v else if (good == 1) = true then v.gets (1 - wt.team) Kg67.SHOT else { v with ball := none, shooter := wt.team, rim := true }) := by
        unfold State.thrown
        dsimp only
        rw [eY]
        cases wt.after <;> rfl
      have pt : ∀ (u : Gm) (v : State), u.a = (m.put m.side ((m.team m.side).at i fun p => { p with points := p.points + good })).a → u.b = (m.put m.side ((m.team m.side).at i fun p => { p with points := p.points + good })).b →
          v.a = (s.set wt.team Y).a → v.b = (s.set wt.team Y).b → (u.team m.side).points = ((v.team wt.team).points : Nat) := by
        intro u v h1 h2 h3 h4
        have e1 : u.team m.side = (m.team m.side).at i fun p => { p with points := p.points + good } := by
          have : u.team m.side = (m.put m.side ((m.team m.side).at i fun p => { p with points := p.points + good })).team m.side := by
            unfold Gm.team; rw [h1, h2]; rfl
          rw [this, put_team]
        have e2 : v.team wt.team = Y := by
          have : v.team wt.team = (s.set wt.team Y).team wt.team := by
            unfold State.team; rw [h3, h4]
          rw [this, set_team]
        rw [e1, e2]; exact q.pts
      rw [eT]
      generalize hm2 : (m.put m.side ((m.team m.side).at i fun p => { p with points := p.points + good })) = m2 at r2 pt
      have i1 : m2.many = m.many ∧ m2.side = m.side ∧ m2.behind = m.behind ∧ m2.winner = m.winner := by
        rw [← hm2]; unfold Gm.put; split <;> exact ⟨rfl, rfl, rfl, rfl⟩
      have eM : m.thrown i good = (if m.many - 1 = 0 then ({ m2 with many := m.many - 1 } : Gm).behindLast good else { m2 with many := m.many - 1 }) := by
        unfold Gm.thrown
        rw [hm2]
      dsimp only
      rw [eM]
      generalize hs2 : s.set wt.team Y = s2 at r2 pt
      by_cases c2 : 1 < wt.left
      · rw [if_pos c2, if_neg (show ¬ m.many - 1 = 0 by omega)]
        refine same_done ?_ (pt _ _ rfl rfl rfl rfl)
        exact { r2 with thr := ⟨by show m.many - 1 = ((wt.left - 1 : Nat) : Int); omega, by show 1 ≤ wt.left - 1; omega, by show m2.side = _; rw [i1.2.1]; exact t3, t4, by
          show (m2.behind = 0 ∧ _) ∨ (m2.behind = 1 ∧ _) ∨ (m2.behind = 2 ∧ _)
          rw [i1.2.2.1]; exact t5⟩ }
      · rw [if_neg c2, if_pos (show m.many - 1 = 0 by omega)]
        have r3 : Rel1 { m2 with many := m.many - 1 } { s2 with throws := none } := { r2 with thr := (show m.many - 1 = 0 by omega) }
        have b1 : ({ m2 with many := m.many - 1 } : Gm).behind = m.behind := i1.2.2.1
        have b2 : ({ m2 with many := m.many - 1 } : Gm).side = m.side := i1.2.1
        have a1 : ({ m2 with many := m.many - 1 } : Gm).a = m2.a := rfl
        have a2 : ({ m2 with many := m.many - 1 } : Gm).b = m2.b := rfl
        generalize ({ m2 with many := m.many - 1 } : Gm) = U at r3 b1 b2 a1 a2
        unfold Gm.behindLast
        rw [b1, b2]
        rcases t5 with ⟨p1, p2⟩ | ⟨p1, p2, p3⟩ | ⟨p1, p2, p3⟩
        · rw [if_neg (show ¬ m.behind = 1 by omega), if_neg (show ¬ (m.behind = 2 ∧ good = 1) by omega), if_neg (show ¬ m.behind = 2 by omega)]
          cases wt.after with
          | none => dsimp only; rw [if_pos p2]; exact same_done r3 (pt _ _ a1 a2 rfl rfl)
          | some t => dsimp only; rw [if_neg (by rw [p2]; simp)]; exact same_done r3 (pt _ _ a1 a2 rfl rfl)
        · rw [if_pos p1, p3]
          dsimp only
          rw [if_pos p2]
          exact same_done (r3.give t4 t3 rfl) (pt _ _ a1 a2 rfl rfl)
        · rw [if_neg (show ¬ m.behind = 1 by omega), p3]
          dsimp only
          rw [if_neg (show ¬ wt.fresh = false by rw [p2]; simp)]
          by_cases c3 : good = 1
          · rw [if_pos ⟨p1, c3⟩, if_pos (by rw [c3]; rfl)]
            exact same_done (r3.give ho.2 ho.1 rfl) (pt _ _ a1 a2 rfl rfl)
          · rw [if_neg (show ¬ (m.behind = 2 ∧ good = 1) from fun z => c3 z.2), if_pos p1, if_neg (by simpa using c3)]
            refine same_done (s := { s2 with throws := none, ball := none, shooter := wt.team, rim := true }) ?_ (pt _ _ a1 a2 rfl rfl)
            exact { r3 with ball := rfl, ballOk := .inl rfl, missed := t3, ring := rfl, thr := r3.thr }
end Ct
/-! The calls as one list of whole numbers; what is asked of them; the whole answer. -/
namespace Ct
open Kg67 (State)
abbrev Raw := List (List Int)
def clOf : Raw → Cl
  | [[1], a, b] => ⟨1, a, b⟩
  | (p :: xs) :: _ => ⟨p, xs, []⟩
  | _ => ⟨0, [], []⟩
def count (p : Int) : Nat := if p = 2 then 1 else if p = 3 then 1 else if p = 4 then 2 else if p = 5 then 2 else if p = 6 then 1 else if p = 7 then 0 else if p = 8 then 0 else if p = 9 then 4 else if p = 10 then 2 else if p = 11 then 3 else if p = 12 then 2 else if p = 13 then 1 else if p = 14 then 0 else 1
/-- how the calls stand in a list of numbers -/
inductive Parse : List Int → List Cl → Prop
  | nil : Parse [] []
  | begin_ {n k : Nat} {a b t : List Int} {cs : List Cl} : a.length = n → b.length = k → Parse t cs → Parse (1 :: (n : Int) :: (a ++ (k : Int) :: (b ++ t))) (⟨1, a, b⟩ :: cs)
  | other {p : Int} {xs t : List Int} {cs : List Cl} : 2 ≤ p → p ≤ 15 → xs.length = count p → Parse t cs → Parse (p :: (xs ++ t)) (⟨p, xs, []⟩ :: cs)

theorem whole_id (c : Raw) : PyKg67.whole c = c := by
  unfold PyKg67.whole
  split <;> rfl
theorem row_some {r x s : List Int} (h : PyFlat.row r = some (x, s)) : r = (x.length : Int) :: (x ++ s) := by
  cases r with
  | nil => cases h
  | cons n r =>
    unfold PyFlat.row at h
    dsimp only at h
    by_cases c : 0 ≤ n ∧ n.toNat ≤ r.length
    · rw [if_pos c] at h
      cases h
      rw [List.take_append_drop, List.length_take]
      have : ((min n.toNat r.length : Nat) : Int) = n := by omega
      rw [this]
    · rw [if_neg c] at h; cases h
theorem shape_other {p : Int} (h1 : 2 ≤ p) (h2 : p ≤ 15) : PyKg67.shape p = some (count p, 0) := by
  have : p = 2 ∨ p = 3 ∨ p = 4 ∨ p = 5 ∨ p = 6 ∨ p = 7 ∨ p = 8 ∨ p = 9 ∨ p = 10 ∨ p = 11 ∨ p = 12 ∨ p = 13 ∨ p = 14 ∨ p = 15 := by omega
  rcases this with rfl | rfl | rfl | rfl | rfl | rfl | rfl | rfl | rfl | rfl | rfl | rfl | rfl | rfl <;> rfl
theorem shape_none {p : Int} (h : p ≠ 1) (h2 : ¬ (2 ≤ p ∧ p ≤ 15)) : PyKg67.shape p = none := by
  unfold PyKg67.shape
  rw [if_neg h, if_neg (by omega), if_neg (by omega), if_neg (by omega), if_neg (by omega), if_neg (by omega), if_neg (by omega), if_neg (by omega), if_neg (by omega), if_neg (by omega), if_neg (by omega), if_neg (by omega), if_neg (by omega), if_neg (by omega), if_neg (by omega)]
theorem call_some {p : Int} {r t : List Int} {c : Raw} (h : PyFlat.call PyKg67.shape (p :: r) = some (c, t)) :
    (p = 1 ∧ ∃ a b : List Int, c = [[1], a, b] ∧ r = (a.length : Int) :: (a ++ (b.length : Int) :: (b ++ t))) ∨ (2 ≤ p ∧ p ≤ 15 ∧ ∃ xs : List Int, xs.length = count p ∧ c = [p :: xs] ∧ r = xs ++ t) := by
  unfold PyFlat.call at h
  dsimp only at h
  by_cases h1 : p = 1
  · subst h1
    have e : PyKg67.shape 1 = some (0, 2) := rfl
    rw [e] at h
    dsimp only at h
    rw [if_neg (Nat.not_lt_zero _), List.drop_zero] at h
    unfold PyFlat.rows at h
    cases e1 : PyFlat.row r with
    | none => rw [e1] at h; cases h
    | some z =>
      obtain ⟨a, s1⟩ := z
      rw [e1] at h
      dsimp only at h
      unfold PyFlat.rows at h
      cases e2 : PyFlat.row s1 with
      | none => rw [e2] at h; cases h
      | some z =>
        obtain ⟨b, s2⟩ := z
        rw [e2] at h
        dsimp only at h
        unfold PyFlat.rows at h
        dsimp only at h
        cases h
        refine .inl ⟨rfl, a, b, rfl, ?_⟩
        rw [row_some e1]
        rw [← row_some e2]
  · by_cases h2 : 2 ≤ p ∧ p ≤ 15
    · rw [shape_other h2.1 h2.2] at h
      dsimp only at h
      by_cases h3 : r.length < count p
      · rw [if_pos h3] at h; cases h
      · rw [if_neg h3] at h
        unfold PyFlat.rows at h
        dsimp only at h
        cases h
        refine .inr ⟨h2.1, h2.2, r.take (count p), ?_, rfl, (List.take_append_drop _ _).symm⟩
        rw [List.length_take]; omega
    · rw [shape_none h1 h2] at h; cases h
theorem parse_of : ∀ (f : Nat) (l : List Int) (raw : List Raw), PyFlat.calls PyKg67.shape f l = some raw → Parse l (raw.map clOf)
  | f, [], raw, h => by
    unfold PyFlat.calls at h
    cases h
    exact .nil
  | 0, _ :: _, raw, h => by cases h
  | f + 1, p :: r, raw, h => by
    unfold PyFlat.calls at h
    cases e : PyFlat.call PyKg67.shape (p :: r) with
    | none => rw [e] at h; cases h
    | some z =>
      obtain ⟨c, t⟩ := z
      rw [e] at h
      dsimp only at h
      cases e2 : PyFlat.calls PyKg67.shape f t with
      | none => rw [e2] at h; cases h
      | some cs =>
        rw [e2] at h
        cases h
        have ih := parse_of f t cs e2
        rcases call_some e with ⟨rfl, a, b, rfl, rfl⟩ | ⟨h1, h2, xs, h3, rfl, rfl⟩
        · exact .begin_ rfl rfl ih
        · have ec : clOf [p :: xs] = ⟨p, xs, []⟩ := by
            unfold clOf
            split
            · rename_i e; cases e
            · rename_i e; cases e; rfl
            · rename_i e1 e2; exact absurd rfl (e2 p xs [])
          rw [List.map_cons, ec]
          exact .other h1 h2 h3 ih

/-- one call, any that is asked -/
theorem same_call {g : Option Gm} {s : State} (r : Rel g s) {c : Raw} (h : Kg67Neutral.asked1 c = true) : Rel (call g (clOf c)).1 (Kg67Neutral.step s c).1 ∧ (call g (clOf c)).2 = (Kg67Neutral.step s c).2 := by
  have key : ∀ {k : Kg67.Call}, Kg67Neutral.callOf c = some k → Same (call g (clOf c)) (Kg67.spec s k) → Rel (call g (clOf c)).1 (Kg67Neutral.step s c).1 ∧ (call g (clOf c)).2 = (Kg67Neutral.step s c).2 := by
    intro k e z
    unfold Kg67Neutral.step
    rw [e]
    exact z
  unfold Kg67Neutral.asked1 at h
  split at h
  · exact key rfl (same_begin r _ _)
  · exact key rfl (same_tip r _)
  · exact key rfl (same_run r _)
  · exact key rfl (same_basket r _ _)
  · exact key rfl (same_miss r _ _)
  · exact key rfl (same_rebound r _)
  · exact key rfl (same_lose r)
  · exact key rfl (same_held r)
  · exact key rfl (same_foul r _ _ _ _)
  · exact key rfl (same_throw r _ _)
  · exact key rfl (same_sub r _ _ _)
  · exact key rfl (same_enter r _ _)
  · exact key rfl (same_timeout r _)
  · exact key rfl (same_now r)
  · exact key rfl (same_sheet r _)
  · cases h
def after : Option Gm → List Cl → Option Gm
  | g, [] => g
  | g, c :: r => after (call g c).1 r
theorem runAll_append : ∀ (xs ys : List Cl) (g : Option Gm), runAll g (xs ++ ys) = runAll g xs ++ runAll (after g xs) ys
  | [], _, _ => rfl
  | x :: xs, ys, g => by
    show out _ ++ runAll _ (xs ++ ys) = (out _ ++ runAll _ xs) ++ _
    rw [runAll_append xs, List.append_assoc]; rfl
theorem after_append : ∀ (xs ys : List Cl) (g : Option Gm), after g (xs ++ ys) = after (after g xs) ys
  | [], _, _ => rfl
  | x :: xs, ys, g => after_append xs ys _
/-- what the walk asks of a game -/
structure Gm.Ok (m : Gm) : Prop where
  ball : m.ball = -1 ∨ isSide m.ball = true
  side : m.many ≠ 0 → isSide m.side = true
def OkO : Option Gm → Prop
  | none => True
  | some m => m.Ok
theorem Rel.ok {g : Option Gm} {s : State} (r : Rel g s) : OkO g := by
  cases g with
  | none => trivial
  | some m =>
    have r1 : Rel1 m s := r
    refine ⟨?_, fun h => ?_⟩
    · cases e : s.ball with
      | none => exact .inl (r1.noBall e)
      | some x => exact .inr (r1.side e).2.1
    · have th := r1.thr
      cases e : s.throws with
      | none => rw [e] at th; exact absurd th h
      | some w =>
        rw [e] at th
        obtain ⟨_, _, t3, t4, _⟩ := th
        rw [t3]; rcases t4 with z | z <;> rw [z] <;> rfl
theorem runs_same : ∀ (cs : List Raw) (g : Option Gm) (s : State), Rel g s → (∀ c ∈ cs, Kg67Neutral.asked1 c = true) →
    runAll g (cs.map clOf) = PyFlat.told (PyFlat.played Kg67Neutral.step s cs) ∧ ∀ pre post, pre ++ post = cs.map clOf → OkO (after g pre)
  | [], g, s, r, _ => ⟨rfl, fun pre post e => by
    have : pre = [] := by
      cases pre with
      | nil => rfl
      | cons _ _ => cases e
    rw [this]; exact r.ok⟩
  | c :: cs, g, s, r, h => by
    have z := same_call r (h c (List.mem_cons_self ..))
    have ih := runs_same cs _ _ z.1 fun d hd => h d (List.mem_cons_of_mem _ hd)
    refine ⟨?_, fun pre post e => ?_⟩
    · show out _ ++ runAll _ (cs.map clOf) = _
      rw [ih.1, z.2]
      unfold PyFlat.told
      rw [PyFlat.played, List.flatMap_cons]
      rfl
    · cases pre with
      | nil => exact r.ok
      | cons p pre =>
        rw [List.map_cons, List.cons_append, List.cons.injEq] at e
        rw [e.1]
        exact ih.2 pre post e.2
/-- what the walk needs, of a list that may be handed in -/
structure Due (l : List Int) (cs : List Cl) : Prop where
  parse : Parse l cs
  is : runAll none cs = PyKg67.answers l
  room : (runAll none cs).length ≤ 10000000
  ok : ∀ pre post, pre ++ post = cs → OkO (after none pre)
theorem due_of {l : List Int} (h : PyKg67.answers_asked l = true) : ∃ cs, Due l cs := by
  unfold PyKg67.answers_asked at h
  cases e : PyFlat.calls PyKg67.shape l.length l with
  | none => rw [e] at h; cases h
  | some raw =>
    rw [e] at h
    simp only [Bool.and_eq_true] at h
    obtain ⟨⟨⟨_, _⟩, h3⟩, h4⟩ := h
    have wid : raw.map PyKg67.whole = raw := (List.map_congr_left (g := id) fun c _ => whole_id c).trans (List.map_id _)
    rw [wid] at h3
    have h5 : ∀ c ∈ raw, Kg67Neutral.asked1 c = true := by
      unfold Kg67Neutral.asked at h3
      rw [Bool.and_eq_true, List.all_eq_true] at h3
      exact h3.1
    have z := runs_same raw none Kg67.init rfl h5
    have ea : PyKg67.answers l = PyFlat.told (PyFlat.played Kg67Neutral.step Kg67Neutral.start raw) := by
      unfold PyKg67.answers PyKg67.calls
      rw [e]
      dsimp only
      rw [wid]
    refine ⟨raw.map clOf, parse_of _ _ _ e, z.1.trans ea.symm, ?_, z.2⟩
    have h6 := h4
    unfold PyFlat.short at h6
    rw [decide_eq_true_eq, ea] at h6
    rw [z.1]; exact h6
end Ct
namespace Ct
theorem Parse.at_ : ∀ {l : List Int} {cs : List Cl}, Parse l cs → ∀ {i : Nat} {c : Cl}, cs[i]? = some c → c.word = 1 ∨ (2 ≤ c.word ∧ c.word ≤ 15 ∧ c.nums.length = count c.word)
  | _, _, .nil, _, _, h => by simp at h
  | _, _, .begin_ _ _ p, 0, c, h => by
    have e := Option.some.inj h
    rw [← e]; exact .inl rfl
  | _, _, .begin_ _ _ p, i + 1, c, h => p.at_ (i := i) h
  | _, _, .other h1 h2 h3 p, 0, c, h => by
    have e := Option.some.inj h
    rw [← e]; exact .inr ⟨h1, h2, h3⟩
  | _, _, .other _ _ _ p, i + 1, c, h => p.at_ (i := i) h
end Ct
/-! The heap: how a game lies in it; the words of the readings. -/
namespace CtW
open PySem PySem.Spec PyProof.Rows L2
def top (i : Nat) : Stmt := PySem.Challenge.pw_courttable_s01_answers.main.body.getD i (.Pass ⟨0, 0, 0, 0⟩)
/-! ### words of the readings -/
abbrev rAddI : R2 := rI0 fun i j => .int (i + j)
abbrev rSubI : R2 := rI0 fun i j => .int (i - j)
abbrev rLtI : R2 := rI0 fun i j => .bl (decide (i < j))
abbrev rLeI : R2 := rI0 fun i j => .bl (decide (i ≤ j))
abbrev rGtI : R2 := rI0 fun i j => .bl (decide (j < i))
abbrev rGeI : R2 := rI0 fun i j => .bl (decide (j ≤ i))
abbrev rIsNo : R2 := fun x y H Q => y = .non ∧ Q (.bl (decide (x = .non))) H
abbrev rNotNo : R2 := fun x y H Q => y = .non ∧ Q (.bl (!decide (x = .non))) H
abbrev rLenQ (K : PySem.W.Frag) : List V → Hp → VK → Prop := Evl.rLenS K
abbrev rMin2 : List V → Hp → VK → Prop := fun xs H Q => ∃ i j, xs = [.int i, .int j] ∧ Q (.int (if j < i then j else i)) H
abbrev rMax2 : List V → Hp → VK → Prop := Evl.rMax2
abbrev rInt1 : List V → Hp → VK → Prop := fun xs H Q => (∃ i, xs = [.int i] ∧ Q (.int i) H) ∨ ∃ k, xs = [.bl k] ∧ Q (.int (if k then 1 else 0)) H
/-! ### the program's own classes, constants, tables -/
structure Ad where
  cP : Addr
  cT : Addr
  cC : Addr
  cH : Addr
  cG : Addr
/-- a table of whole numbers that stands written at the top, as far as it is read here -/
def WTab (K : PySem.W.Frag) (d : Addr) : Prop := ∃ es n, K.lookup d = some ⟨.type "dict", none, .dict es n, #[]⟩ ∧ (d == sysModules) = false ∧
  (∀ e ∈ es, ∃ k, Value.isInt k e.key = true ∧ e.hash = hashInt k) ∧ ∀ n, 2 ≤ n → n ≤ 15 → ∃ t, findBy Value.isInt es n = some (.int (Ct.count n) t)
theorem wtab_mk {K : PySem.W.Frag} {d : Addr} {n : Nat} {t2 u2 t3 u3 t4 u4 t5 u5 t6 u6 t7 u7 t8 u8 t9 u9 t10 u10 t11 u11 t12 u12 t13 u13 t14 u14 t15 u15 : Tok} (l : K.lookup d = some ⟨.type "dict", none, .dict #[⟨2, .int 2 t2, .int 1 u2⟩, ⟨3, .int 3 t3, .int 1 u3⟩, ⟨4, .int 4 t4, .int 2 u4⟩, ⟨5, .int 5 t5, .int 2 u5⟩, ⟨6, .int 6 t6, .int 1 u6⟩, ⟨7, .int 7 t7, .int 0 u7⟩, ⟨8, .int 8 t8, .int 0 u8⟩, ⟨9, .int 9 t9, .int 4 u9⟩, ⟨10, .int 10 t10, .int 2 u10⟩, ⟨11, .int 11 t11, .int 3 u11⟩, ⟨12, .int 12 t12, .int 2 u12⟩, ⟨13, .int 13 t13, .int 1 u13⟩, ⟨14, .int 14 t14, .int 0 u14⟩, ⟨15, .int 15 t15, .int 1 u15⟩] n, #[]⟩) (low : (d == sysModules) = false) : WTab K d := by
  refine ⟨_, n, l, low, ?_, ?_⟩
  · intro e he
    rw [Array.mem_def] at he
    have m : ∀ (k v : Int) (t u : Tok), hashInt k = k → ∃ j, Value.isInt j (DictEntry.mk k (.int k t) (.int v u)).key = true ∧ (DictEntry.mk k (.int k t) (.int v u)).hash = hashInt j := fun k v t u h => ⟨k, by simp [Value.isInt], h.symm⟩
    simp only [List.mem_cons, List.not_mem_nil, or_false] at he
    rcases he with rfl | rfl | rfl | rfl | rfl | rfl | rfl | rfl | rfl | rfl | rfl | rfl | rfl | rfl <;> exact m _ _ _ _ (by decide +kernel)
  · intro k h1 h2
    have : k = 2 ∨ k = 3 ∨ k = 4 ∨ k = 5 ∨ k = 6 ∨ k = 7 ∨ k = 8 ∨ k = 9 ∨ k = 10 ∨ k = 11 ∨ k = 12 ∨ k = 13 ∨ k = 14 ∨ k = 15 := by omega
    rcases this with rfl | rfl | rfl | rfl | rfl | rfl | rfl | rfl | rfl | rfl | rfl | rfl | rfl | rfl <;> exact ⟨_, rfl⟩
structure Txt (K : PySem.W.Frag) (mg : Str → Option Value) (A : Ad) : Prop where
  clP : Cls K A.cP
  aP_number : NoAttr K A.cP "number"
  aP_points : NoAttr K A.cP "points"
  aP_personal : NoAttr K A.cP "personal"
  aP_technical : NoAttr K A.cP "technical"
  aP_heavy : NoAttr K A.cP "heavy"
  aP_sent_off : NoAttr K A.cP "sent_off"
  aP_on_court : NoAttr K A.cP "on_court"
  clT : Cls K A.cT
  aT_players : NoAttr K A.cT "players"
  aT_fouls : NoAttr K A.cT "fouls"
  aT_timeouts : NoAttr K A.cT "timeouts"
  clC : Cls K A.cC
  aC_period : NoAttr K A.cC "period"
  aC_left : NoAttr K A.cC "left"
  aC_shot : NoAttr K A.cC "shot"
  clH : Cls K A.cH
  aH_many : NoAttr K A.cH "many"
  aH_side : NoAttr K A.cH "side"
  aH_behind : NoAttr K A.cH "behind"
  clG : Cls K A.cG
  aG_teams : NoAttr K A.cG "teams"
  aG_clock : NoAttr K A.cG "clock"
  aG_throws : NoAttr K A.cG "throws"
  aG_ball : NoAttr K A.cG "ball"
  aG_arrow : NoAttr K A.cG "arrow"
  aG_missed : NoAttr K A.cG "missed"
  aG_ring : NoAttr K A.cG "ring"
  aG_winner : NoAttr K A.cG "winner"
  g_FOULS_OUT : ∃ t, mg "FOULS_OUT" = some (.int (5) t)
  g_HEAVY_OUT : ∃ t, mg "HEAVY_OUT" = some (.int (2) t)
  g_TECHNICAL_players : ∃ t, mg "TECHNICAL_players" = some (.int (1) t)
  g_DISQUALIFYING : ∃ t, mg "DISQUALIFYING" = some (.int (3) t)
  g_NOBODY : ∃ t, mg "NOBODY" = some (.int (-1) t)
  g_QUARTER : ∃ t, mg "QUARTER" = some (.int (6000) t)
  g_EXTRA : ∃ t, mg "EXTRA" = some (.int (3000) t)
  g_QUARTERS : ∃ t, mg "QUARTERS" = some (.int (4) t)
  g_FULL_SHOT : ∃ t, mg "FULL_SHOT" = some (.int (240) t)
  g_SHORT_SHOT : ∃ t, mg "SHORT_SHOT" = some (.int (140) t)
  g_FIVE : ∃ t, mg "FIVE" = some (.int (5) t)
  g_FEWEST_PLAYERS : ∃ t, mg "FEWEST_PLAYERS" = some (.int (5) t)
  g_MOST_PLAYERS : ∃ t, mg "MOST_PLAYERS" = some (.int (12) t)
  g_GREATEST_NUMBER : ∃ t, mg "GREATEST_NUMBER" = some (.int (99) t)
  g_MOST_TENTHS : ∃ t, mg "MOST_TENTHS" = some (.int (100000) t)
  g_WRONG : ∃ t, mg "WRONG" = some (.int (-1) t)
  g_NOT_PLAYED : ∃ t, mg "NOT_PLAYED" = some (.int (-2) t)
  g_THROWS_THERE : ∃ t, mg "THROWS_THERE" = some (.int (-3) t)
  g_BALL_ELSEWHERE : ∃ t, mg "BALL_ELSEWHERE" = some (.int (-4) t)
  g_NOT_THERE : ∃ t, mg "NOT_THERE" = some (.int (-5) t)
  g_COURT_SHORT : ∃ t, mg "COURT_SHORT" = some (.int (-6) t)
  g_AS_IT_WAS : ∃ t, mg "AS_IT_WAS" = some (.int (0) t)
  g_THEIR_BALL : ∃ t, mg "THEIR_BALL" = some (.int (1) t)
  g_PLAYED_ON : ∃ t, mg "PLAYED_ON" = some (.int (2) t)
  g_FIRST_OF_LAST_TWO : ∃ t, mg "FIRST_OF_LAST_TWO" = some (.int (3) t)
  g_TWO_QUARTERS : ∃ t, mg "TWO_QUARTERS" = some (.int (2) t)
  g_PERSONAL : ∃ t, mg "PERSONAL" = some (.int (0) t)
  g_TECHNICAL_fouls : ∃ t, mg "TECHNICAL_fouls" = some (.int (1) t)
  g_FEWEST_ON_COURT : ∃ t, mg "FEWEST_ON_COURT" = some (.int (2) t)
  g_BEGIN : ∃ t, mg "BEGIN" = some (.int (1) t)
  n_sum : mg "sum" = none
  n_len : mg "len" = none
  n_any : mg "any" = none
  n_int : mg "int" = none
  n_min : mg "min" = none
  n_max : mg "max" = none
  n_enumerate : mg "enumerate" = none
  counts : ∃ d, mg "COUNTS" = some (.ref d) ∧ WTab K d
/-- a def of the program as it stands behind the top; a class with its __init__ -/
def TopFn (K : PySem.W.Frag) (mg : Str → Option Value) (x : Str) (st : Stmt) : Prop := ∃ f fd, Fun K x x st f fd ∧ mg x = some (.ref f)
def TopCls (K : PySem.W.Frag) (mg : Str → Option Value) (x : Str) (C : Addr) (st : Stmt) : Prop := ∃ f fd, Fun K "__init__" (x ++ ".__init__") st f fd ∧ Mk K C f ∧ mg x = some (.ref C)
def Def (P : Program) (w : World) (K : PySem.W.Frag) (mg : Str → Option Value) (base : Heap) (x : Str) (ps : List Str) (k : Nat) (sp : Sp) : Prop :=
  ∃ f fd, FnOk P w K mg base CX0 k f fd ps sp ∧ mg x = some (.ref f) ∧ PySem.W.keepIn K (.ref f) = true ∧ Binds K fd ps []
def MkD (P : Program) (w : World) (K : PySem.W.Frag) (mg : Str → Option Value) (base : Heap) (C : Addr) (x : Str) (ps : List Str) (k : Nat) (sp : Sp) : Prop :=
  ∃ f fd, Mk K C f ∧ FnOk P w K mg base CX0 k f fd ps sp ∧ mg x = some (.ref C) ∧ Binds K fd ps []
section
variable {X : Cx} {x : Str} {ps : List Str} {k : Nat} {sp : Sp} {C : Addr} {e : Expr} {es : List Expr} {t : TA} {p pos : Pos}
theorem pe_def (D : Def X.prog X.w X.K X.mg X.base x ps k sp) (hr : Room k X.A) (hg : Gl X x) (ha : PA X (e :: es) t) (hdb : (x == ("__debug__" : Str)) = false := by decide)
    (he : starEach (e :: es) X.env = (false, eval e X.env) :: starEach es X.env := by rfl) (hpl : (backTo pos (starEach es X.env)).any (·.1) = false := by rfl) : PE X (.Call (.Name x p) (e :: es) [] pos) (tCall sp [] E0 t) := by
  obtain ⟨f, fd, G, m, kp, b⟩ := D
  exact pe_call G hr hg m kp b .nil pass0 ha hdb he hpl
theorem pe_mk (D : MkD X.prog X.w X.K X.mg X.base C x ps k sp) (hr : Room (k + 1) X.A) (hg : Gl X x) (ha : PA X (e :: es) t) (hdb : (x == ("__debug__" : Str)) = false := by decide)
    (he : starEach (e :: es) X.env = (false, eval e X.env) :: starEach es X.env := by rfl) (hpl : (backTo pos (starEach es X.env)).any (·.1) = false := by rfl) : PE X (.Call (.Name x p) (e :: es) [] pos) (tMake C sp [] E0 t) := by
  obtain ⟨f, fd, M, G, m, b⟩ := D
  exact pe_make M G hr hg m b .nil pass0 ha hdb he hpl
theorem pe_mk0 (D : MkD X.prog X.w X.K X.mg X.base C x ps k sp) (hr : Room (k + 1) X.A) (hg : Gl X x) (hdb : (x == ("__debug__" : Str)) = false := by decide) : PE X (.Call (.Name x p) [] [] pos) (tMake C sp [] E0 tNil) := by
  obtain ⟨f, fd, M, G, m, b⟩ := D
  exact pe_make0 M G hr hg m b .nil pass0 hdb
theorem pe_gint {v : Int} (hg : Gl X x) (h : ∃ t, X.mg x = some (.int v t)) (hd : (x == ("__debug__" : Str)) = false := by decide) : PE X (.Name x pos) (tC (.int v)) := by
  obtain ⟨t, e⟩ := h
  exact pe_glob hg e ⟨t, rfl⟩ hd
end
/-- COUNTS[word] -/
def tCnt (ty : TE) : TE := fun σ H Q => ty σ H fun y H1 => ∃ n, y = .int n ∧ 2 ≤ n ∧ n ≤ 15 ∧ Q (.int (Ct.count n)) H1
theorem pe_counts {X : Cx} {i : Expr} {ty : TE} {pos p : Pos} (hg : Gl X "COUNTS") (h : ∃ d, X.mg "COUNTS" = some (.ref d) ∧ WTab X.K d) (hi : PE X i ty) (hs : NoSl i) : PE X (.Subscript (.Name "COUNTS" p) i pos) (tCnt ty) := by
  obtain ⟨d, hm, hw⟩ := h
  refine ⟨fun pins s σ H Q I h => ?_⟩
  refine subD_of PySem.F.slot_dict_getitem.lookup hs (ld_glob I hg hm (thn (hi.run pins s σ H _ I h) fun iv s2 ⟨y, H2, I2, ry, n, ey, h1, h2, q⟩ => ?_) (by decide))
  subst ey
  obtain ⟨t, rfl⟩ := ry
  obtain ⟨es, ep, hl, low, hk, hf⟩ := hw
  have dd : s2.heap.MapOf (intKind X.prog X.w) d (findBy Value.isInt es) := ⟨_, es, ep, I2.kIn _ _ hl, ⟨rfl, rfl, rfl⟩, rfl, hk, fun _ => rfl⟩
  obtain ⟨u, hu⟩ := hf n h1 h2
  have hi2 : (intKind X.prog X.w).is n (.int n t) = true := by
    show Value.isInt n (.int n t) = true
    simp [Value.isInt]
  exact ⟨dd.typeIs, wpAny_getItem_of hi2 dd hu ⟨.int (Ct.count n), H2, I2.tok _, ⟨_, rfl⟩, q⟩⟩
/-! ### the objects' attributes, in the order in which __init__ sets them -/
structure TL where
  t : Addr
  l : Addr
  ps : List Addr
structure GL where
  g : Addr
  tl : Addr
  c : Addr
  th : Addr
  a : TL
  b : TL
def TL.own (x : TL) : List Addr := x.t :: x.l :: x.ps
def GL.own (L : GL) : List Addr := L.g :: L.tl :: L.c :: L.th :: (L.a.own ++ L.b.own)
def pF (p : Ct.Pl) : List (Str × V) := [("number", .int p.number), ("points", .int p.points), ("personal", .int p.personal), ("technical", .int p.technical), ("heavy", .int p.heavy), ("sent_off", .bl p.sentOff), ("on_court", .bl p.onCourt)]
def tF (l : Addr) (t : Ct.Tm) : List (Str × V) := [("players", .ref l), ("fouls", .int t.fouls), ("timeouts", .int t.timeouts)]
def cF (m : Ct.Gm) : List (Str × V) := [("period", .int m.period), ("left", .int m.left), ("shot", .int m.shot)]
def hF (m : Ct.Gm) : List (Str × V) := [("many", .int m.many), ("side", .int m.side), ("behind", .int m.behind)]
def gF (L : GL) (m : Ct.Gm) : List (Str × V) := [("teams", .ref L.tl), ("clock", .ref L.c), ("throws", .ref L.th), ("ball", .int m.ball), ("arrow", .int m.arrow), ("missed", .int m.missed), ("ring", .int m.ring), ("winner", .int m.winner)]
theorem lk_here {k : Str} {v : V} {r : List (Str × V)} : List.lookup k ((k, v) :: r) = some v := by
  have e : (k == k) = true := beq_self_eq_true k
  simp only [List.lookup, e]
theorem lk_past {k g : Str} {v : V} {r : List (Str × V)} (h : (k == g) = false) : List.lookup k ((g, v) :: r) = List.lookup k r := by
  simp only [List.lookup, h]
theorem put_here {f : Str} {v x : V} {r : List (Str × V)} : putF f v ((f, x) :: r) = (f, v) :: r := if_pos rfl
theorem put_past {f g : Str} {v x : V} {r : List (Str × V)} (h : ¬ g = f) : putF f v ((g, x) :: r) = (g, x) :: putF f v r := if_neg h
theorem lP_number {p : Ct.Pl} : (pF p).lookup ("number" : Str) = some (.int p.number) := lk_here
theorem sP_number {p : Ct.Pl} {z : Int} : putF "number" (.int z) (pF p) = pF { p with number := z } := put_here
theorem lP_points {p : Ct.Pl} : (pF p).lookup ("points" : Str) = some (.int p.points) := ((lk_past (by decide +kernel)).trans lk_here)
theorem sP_points {p : Ct.Pl} {z : Int} : putF "points" (.int z) (pF p) = pF { p with points := z } := ((put_past (by decide +kernel)).trans (congrArg _ put_here))
theorem lP_personal {p : Ct.Pl} : (pF p).lookup ("personal" : Str) = some (.int p.personal) := ((lk_past (by decide +kernel)).trans ((lk_past (by decide +kernel)).trans lk_here))
theorem sP_personal {p : Ct.Pl} {z : Int} : putF "personal" (.int z) (pF p) = pF { p with personal := z } := ((put_past (by decide +kernel)).trans (congrArg _ ((put_past (by decide +kernel)).trans (congrArg _ put_here))))
theorem lP_technical {p : Ct.Pl} : (pF p).lookup ("technical" : Str) = some (.int p.technical) := ((lk_past (by decide +kernel)).trans ((lk_past (by decide +kernel)).trans ((lk_past (by decide +kernel)).trans lk_here)))
theorem sP_technical {p : Ct.Pl} {z : Int} : putF "technical" (.int z) (pF p) = pF { p with technical := z } := ((put_past (by decide +kernel)).trans (congrArg _ ((put_past (by decide +kernel)).trans (congrArg _ ((put_past (by decide +kernel)).trans (congrArg _ put_here))))))
theorem lP_heavy {p : Ct.Pl} : (pF p).lookup ("heavy" : Str) = some (.int p.heavy) := ((lk_past (by decide +kernel)).trans ((lk_past (by decide +kernel)).trans ((lk_past (by decide +kernel)).trans ((lk_past (by decide +kernel)).trans lk_here))))
theorem sP_heavy {p : Ct.Pl} {z : Int} : putF "heavy" (.int z) (pF p) = pF { p with heavy := z } := ((put_past (by decide +kernel)).trans (congrArg _ ((put_past (by decide +kernel)).trans (congrArg _ ((put_past (by decide +kernel)).trans (congrArg _ ((put_past (by decide +kernel)).trans (congrArg _ put_here))))))))
theorem lP_sent_off {p : Ct.Pl} : (pF p).lookup ("sent_off" : Str) = some (.bl p.sentOff) := ((lk_past (by decide +kernel)).trans ((lk_past (by decide +kernel)).trans ((lk_past (by decide +kernel)).trans ((lk_past (by decide +kernel)).trans ((lk_past (by decide +kernel)).trans lk_here)))))
theorem sP_sent_off {p : Ct.Pl} {z : Bool} : putF "sent_off" (.bl z) (pF p) = pF { p with sentOff := z } := ((put_past (by decide +kernel)).trans (congrArg _ ((put_past (by decide +kernel)).trans (congrArg _ ((put_past (by decide +kernel)).trans (congrArg _ ((put_past (by decide +kernel)).trans (congrArg _ ((put_past (by decide +kernel)).trans (congrArg _ put_here))))))))))
theorem lP_on_court {p : Ct.Pl} : (pF p).lookup ("on_court" : Str) = some (.bl p.onCourt) := ((lk_past (by decide +kernel)).trans ((lk_past (by decide +kernel)).trans ((lk_past (by decide +kernel)).trans ((lk_past (by decide +kernel)).trans ((lk_past (by decide +kernel)).trans ((lk_past (by decide +kernel)).trans lk_here))))))
theorem sP_on_court {p : Ct.Pl} {z : Bool} : putF "on_court" (.bl z) (pF p) = pF { p with onCourt := z } := ((put_past (by decide +kernel)).trans (congrArg _ ((put_past (by decide +kernel)).trans (congrArg _ ((put_past (by decide +kernel)).trans (congrArg _ ((put_past (by decide +kernel)).trans (congrArg _ ((put_past (by decide +kernel)).trans (congrArg _ ((put_past (by decide +kernel)).trans (congrArg _ put_here))))))))))))
theorem lT_players {l : Addr} {t : Ct.Tm} : (tF l t).lookup ("players" : Str) = some (.ref l) := lk_here
theorem lT_fouls {l : Addr} {t : Ct.Tm} : (tF l t).lookup ("fouls" : Str) = some (.int t.fouls) := ((lk_past (by decide +kernel)).trans lk_here)
theorem sT_fouls {l : Addr} {t : Ct.Tm} {z : Int} : putF "fouls" (.int z) (tF l t) = tF l { t with fouls := z } := ((put_past (by decide +kernel)).trans (congrArg _ put_here))
theorem lT_timeouts {l : Addr} {t : Ct.Tm} : (tF l t).lookup ("timeouts" : Str) = some (.int t.timeouts) := ((lk_past (by decide +kernel)).trans ((lk_past (by decide +kernel)).trans lk_here))
theorem sT_timeouts {l : Addr} {t : Ct.Tm} {z : Int} : putF "timeouts" (.int z) (tF l t) = tF l { t with timeouts := z } := ((put_past (by decide +kernel)).trans (congrArg _ ((put_past (by decide +kernel)).trans (congrArg _ put_here))))
theorem lC_period {m : Ct.Gm} : (cF m).lookup ("period" : Str) = some (.int m.period) := lk_here
theorem sC_period {m : Ct.Gm} {z : Int} : putF "period" (.int z) (cF m) = cF { m with period := z } := put_here
theorem lC_left {m : Ct.Gm} : (cF m).lookup ("left" : Str) = some (.int m.left) := ((lk_past (by decide +kernel)).trans lk_here)
theorem sC_left {m : Ct.Gm} {z : Int} : putF "left" (.int z) (cF m) = cF { m with left := z } := ((put_past (by decide +kernel)).trans (congrArg _ put_here))
theorem lC_shot {m : Ct.Gm} : (cF m).lookup ("shot" : Str) = some (.int m.shot) := ((lk_past (by decide +kernel)).trans ((lk_past (by decide +kernel)).trans lk_here))
theorem sC_shot {m : Ct.Gm} {z : Int} : putF "shot" (.int z) (cF m) = cF { m with shot := z } := ((put_past (by decide +kernel)).trans (congrArg _ ((put_past (by decide +kernel)).trans (congrArg _ put_here))))
theorem lH_many {m : Ct.Gm} : (hF m).lookup ("many" : Str) = some (.int m.many) := lk_here
theorem sH_many {m : Ct.Gm} {z : Int} : putF "many" (.int z) (hF m) = hF { m with many := z } := put_here
theorem lH_side {m : Ct.Gm} : (hF m).lookup ("side" : Str) = some (.int m.side) := ((lk_past (by decide +kernel)).trans lk_here)
theorem sH_side {m : Ct.Gm} {z : Int} : putF "side" (.int z) (hF m) = hF { m with side := z } := ((put_past (by decide +kernel)).trans (congrArg _ put_here))
theorem lH_behind {m : Ct.Gm} : (hF m).lookup ("behind" : Str) = some (.int m.behind) := ((lk_past (by decide +kernel)).trans ((lk_past (by decide +kernel)).trans lk_here))
theorem sH_behind {m : Ct.Gm} {z : Int} : putF "behind" (.int z) (hF m) = hF { m with behind := z } := ((put_past (by decide +kernel)).trans (congrArg _ ((put_past (by decide +kernel)).trans (congrArg _ put_here))))
theorem lG_teams {L : GL} {m : Ct.Gm} : (gF L m).lookup ("teams" : Str) = some (.ref L.tl) := lk_here
theorem lG_clock {L : GL} {m : Ct.Gm} : (gF L m).lookup ("clock" : Str) = some (.ref L.c) := ((lk_past (by decide +kernel)).trans lk_here)
theorem lG_throws {L : GL} {m : Ct.Gm} : (gF L m).lookup ("throws" : Str) = some (.ref L.th) := ((lk_past (by decide +kernel)).trans ((lk_past (by decide +kernel)).trans lk_here))
theorem lG_ball {L : GL} {m : Ct.Gm} : (gF L m).lookup ("ball" : Str) = some (.int m.ball) := ((lk_past (by decide +kernel)).trans ((lk_past (by decide +kernel)).trans ((lk_past (by decide +kernel)).trans lk_here)))
theorem sG_ball {L : GL} {m : Ct.Gm} {z : Int} : putF "ball" (.int z) (gF L m) = gF L { m with ball := z } := ((put_past (by decide +kernel)).trans (congrArg _ ((put_past (by decide +kernel)).trans (congrArg _ ((put_past (by decide +kernel)).trans (congrArg _ put_here))))))
theorem lG_arrow {L : GL} {m : Ct.Gm} : (gF L m).lookup ("arrow" : Str) = some (.int m.arrow) := ((lk_past (by decide +kernel)).trans ((lk_past (by decide +kernel)).trans ((lk_past (by decide +kernel)).trans ((lk_past (by decide +kernel)).trans lk_here))))
theorem sG_arrow {L : GL} {m : Ct.Gm} {z : Int} : putF "arrow" (.int z) (gF L m) = gF L { m with arrow := z } := ((put_past (by decide +kernel)).trans (congrArg _ ((put_past (by decide +kernel)).trans (congrArg _ ((put_past (by decide +kernel)).trans (congrArg _ ((put_past (by decide +kernel)).trans (congrArg _ put_here))))))))
theorem lG_missed {L : GL} {m : Ct.Gm} : (gF L m).lookup ("missed" : Str) = some (.int m.missed) := ((lk_past (by decide +kernel)).trans ((lk_past (by decide +kernel)).trans ((lk_past (by decide +kernel)).trans ((lk_past (by decide +kernel)).trans ((lk_past (by decide +kernel)).trans lk_here)))))
theorem sG_missed {L : GL} {m : Ct.Gm} {z : Int} : putF "missed" (.int z) (gF L m) = gF L { m with missed := z } := ((put_past (by decide +kernel)).trans (congrArg _ ((put_past (by decide +kernel)).trans (congrArg _ ((put_past (by decide +kernel)).trans (congrArg _ ((put_past (by decide +kernel)).trans (congrArg _ ((put_past (by decide +kernel)).trans (congrArg _ put_here))))))))))
theorem lG_ring {L : GL} {m : Ct.Gm} : (gF L m).lookup ("ring" : Str) = some (.int m.ring) := ((lk_past (by decide +kernel)).trans ((lk_past (by decide +kernel)).trans ((lk_past (by decide +kernel)).trans ((lk_past (by decide +kernel)).trans ((lk_past (by decide +kernel)).trans ((lk_past (by decide +kernel)).trans lk_here))))))
theorem sG_ring {L : GL} {m : Ct.Gm} {z : Int} : putF "ring" (.int z) (gF L m) = gF L { m with ring := z } := ((put_past (by decide +kernel)).trans (congrArg _ ((put_past (by decide +kernel)).trans (congrArg _ ((put_past (by decide +kernel)).trans (congrArg _ ((put_past (by decide +kernel)).trans (congrArg _ ((put_past (by decide +kernel)).trans (congrArg _ ((put_past (by decide +kernel)).trans (congrArg _ put_here))))))))))))
theorem lG_winner {L : GL} {m : Ct.Gm} : (gF L m).lookup ("winner" : Str) = some (.int m.winner) := ((lk_past (by decide +kernel)).trans ((lk_past (by decide +kernel)).trans ((lk_past (by decide +kernel)).trans ((lk_past (by decide +kernel)).trans ((lk_past (by decide +kernel)).trans ((lk_past (by decide +kernel)).trans ((lk_past (by decide +kernel)).trans lk_here)))))))
theorem sG_winner {L : GL} {m : Ct.Gm} {z : Int} : putF "winner" (.int z) (gF L m) = gF L { m with winner := z } := ((put_past (by decide +kernel)).trans (congrArg _ ((put_past (by decide +kernel)).trans (congrArg _ ((put_past (by decide +kernel)).trans (congrArg _ ((put_past (by decide +kernel)).trans (congrArg _ ((put_past (by decide +kernel)).trans (congrArg _ ((put_past (by decide +kernel)).trans (congrArg _ ((put_past (by decide +kernel)).trans (congrArg _ put_here))))))))))))))

end CtW
/-! How a game lies in the heap; what a read and a store of each attribute give. -/
namespace CtW
open PySem PySem.Spec PyProof.Rows L2
/-! ### frames -/
def Fr (S : List Addr) (H H' : Hp) : Prop := ∀ b o, H b = some o → b ∉ S → H' b = some o
theorem Fr.refl {S : List Addr} {H : Hp} : Fr S H H := fun _ _ h _ => h
theorem Fr.trans {S : List Addr} {H H1 H2 : Hp} (a : Fr S H H1) (b : Fr S H1 H2) : Fr S H H2 := fun c o h n => b c o (a c o h n) n
theorem Fr.mono {S S' : List Addr} {H H' : Hp} (a : Fr S H H') (h : ∀ b ∈ S, b ∈ S') : Fr S' H H' := fun c o e n => a c o e fun z => n (h c z)
theorem Fr.of {S : List Addr} {H H' : Hp} (a : Same H H') : Fr S H H' := fun c o h _ => a c o h
theorem fr_upd {H : Hp} {a : Addr} {o : HO} : Fr [a] H (upd H a o) := fun c u h n => by
  rw [upd_ne fun e => n (by rw [e]; exact List.mem_cons_self ..)]; exact h
theorem same_new {H : Hp} {p : Addr} {o : HO} (h : H p = none) : Same H (upd H p o) := fun c u e => by
  rw [upd_ne (ne_of_none e h)]; exact e
/-! ### the objects -/
def PlAt (A : Ad) (H : Hp) (a : Addr) (p : Ct.Pl) : Prop := ∃ dx, H a = some (.ins A.cP dx (pF p))
def TH (A : Ad) (H : Hp) (a l : Addr) (t : Ct.Tm) : Prop := ∃ dx, H a = some (.ins A.cT dx (tF l t))
structure PsAt (A : Ad) (H : Hp) (as : List Addr) (ps : List Ct.Pl) : Prop where
  len : as.length = ps.length
  at_ : ∀ (i : Nat) a p, as[i]? = some a → ps[i]? = some p → PlAt A H a p
structure TmAt (A : Ad) (H : Hp) (x : TL) (t : Ct.Tm) : Prop where
  hd : TH A H x.t x.l t
  l : H x.l = some (.lst (x.ps.map V.ref))
  p : PsAt A H x.ps t.players
  le : t.players.length ≤ 12
structure GameAt (A : Ad) (H : Hp) (L : GL) (m : Ct.Gm) : Prop where
  g : ∃ dx, H L.g = some (.ins A.cG dx (gF L m))
  tl : H L.tl = some (.lst [.ref L.a.t, .ref L.b.t])
  c : ∃ dx, H L.c = some (.ins A.cC dx (cF m))
  th : ∃ dx, H L.th = some (.ins A.cH dx (hF m))
  a : TmAt A H L.a m.a
  b : TmAt A H L.b m.b
  nd : L.own.Nodup
def GmO (A : Ad) (H : Hp) (L : GL) (v : V) : Option Ct.Gm → Prop
  | none => v = .non
  | some m => v = .ref L.g ∧ GameAt A H L m
def GL.team (L : GL) (s : Int) : TL := if s = 0 then L.a else L.b
section
variable {A : Ad} {H H' : Hp} {L : GL} {m m' : Ct.Gm} {x : TL} {t t' : Ct.Tm} {a : Addr} {p : Ct.Pl} {S : List Addr}
theorem PlAt.fr (h : PlAt A H a p) (f : Fr S H H') (n : a ∉ S) : PlAt A H' a p := let ⟨dx, e⟩ := h; ⟨dx, f _ _ e n⟩
theorem TH.fr {l : Addr} (h : TH A H a l t) (f : Fr S H H') (n : a ∉ S) : TH A H' a l t := let ⟨dx, e⟩ := h; ⟨dx, f _ _ e n⟩
theorem PsAt.fr {as : List Addr} {ps : List Ct.Pl} (h : PsAt A H as ps) (f : Fr S H H') (n : ∀ a ∈ as, a ∉ S) : PsAt A H' as ps :=
  ⟨h.len, fun i a p ha hp => (h.at_ i a p ha hp).fr f (n a (List.mem_of_getElem? ha))⟩
theorem TmAt.fr (h : TmAt A H x t) (f : Fr S H H') (n : ∀ a ∈ x.own, a ∉ S) : TmAt A H' x t :=
  ⟨h.hd.fr f (n _ (by simp [TL.own])), f _ _ h.l (n _ (by simp [TL.own])), h.p.fr f fun a ha => n a (by simp [TL.own, ha]), h.le⟩
theorem TmAt.same (h : TmAt A H x t) (f : Same H H') : TmAt A H' x t := h.fr (Fr.of (S := []) f) (by simp)
theorem GameAt.fr (h : GameAt A H L m) (f : Fr S H H') (n : ∀ a ∈ L.own, a ∉ S) : GameAt A H' L m where
  g := let ⟨dx, e⟩ := h.g; ⟨dx, f _ _ e (n _ (by simp [GL.own]))⟩
  tl := f _ _ h.tl (n _ (by simp [GL.own]))
  c := let ⟨dx, e⟩ := h.c; ⟨dx, f _ _ e (n _ (by simp [GL.own]))⟩
  th := let ⟨dx, e⟩ := h.th; ⟨dx, f _ _ e (n _ (by simp [GL.own]))⟩
  a := h.a.fr f fun a ha => n a (by simp [GL.own, ha])
  b := h.b.fr f fun a ha => n a (by simp [GL.own, ha])
  nd := h.nd
theorem GameAt.same (h : GameAt A H L m) (f : Same H H') : GameAt A H' L m := h.fr (Fr.of (S := []) f) (by simp)
theorem GmO.same {v : V} {o : Option Ct.Gm} (h : GmO A H L v o) (f : Same H H') : GmO A H' L v o := by
  cases o with
  | none => exact h
  | some m => exact ⟨h.1, GameAt.same h.2 f⟩
/-- who stands apart from whom -/
structure Apart (L : GL) : Prop where
  g : ∀ b ∈ L.tl :: L.c :: L.th :: (L.a.own ++ L.b.own), b ≠ L.g
  c : ∀ b ∈ L.g :: L.tl :: L.th :: (L.a.own ++ L.b.own), b ≠ L.c
  h : ∀ b ∈ L.g :: L.tl :: L.c :: (L.a.own ++ L.b.own), b ≠ L.th
  ab : ∀ x ∈ L.a.own, ∀ y ∈ L.b.own, x ≠ y
  na : L.a.own.Nodup
  nb : L.b.own.Nodup
theorem GameAt.apart (h : GameAt A H L m) : Apart L := by
  have nd := h.nd
  unfold GL.own at nd
  simp only [List.nodup_cons, List.mem_cons, not_or, List.nodup_append] at nd
  obtain ⟨⟨g1, g2, g3, g4⟩, ⟨l1, l2, l3⟩, ⟨c1, c2⟩, h1, na, nb, ab⟩ := nd
  refine ⟨fun b hb => ?_, fun b hb => ?_, fun b hb => ?_, fun x hx y hy => ab x hx y hy, na, nb⟩
  all_goals
    simp only [List.mem_cons] at hb
    rcases hb with rfl | rfl | rfl | hb
  · exact fun e => g1 e.symm
  · exact fun e => g2 e.symm
  · exact fun e => g3 e.symm
  · intro e; exact g4 (e ▸ hb)
  · exact fun e => g2 e
  · exact fun e => l1 e
  · exact fun e => c1 e.symm
  · intro e; exact c2 (e ▸ hb)
  · exact fun e => g3 e
  · exact fun e => l2 e
  · exact fun e => c1 e
  · intro e; exact h1 (e ▸ hb)
theorem GameAt.setG (h : GameAt A H L m) (f : Fr [L.g] H H') (e : ∃ dx, H' L.g = some (.ins A.cG dx (gF L m'))) (ea : m'.a = m.a) (eb : m'.b = m.b) (ec : cF m' = cF m) (eh : hF m' = hF m) : GameAt A H' L m' := by
  have ap := h.apart
  have n : ∀ b ∈ L.tl :: L.c :: L.th :: (L.a.own ++ L.b.own), b ∉ [L.g] := fun b hb z => ap.g b hb (by simpa using z)
  exact ⟨e, f _ _ h.tl (n _ (by simp)), by obtain ⟨dx, z⟩ := h.c; exact ⟨dx, by rw [ec]; exact f _ _ z (n _ (by simp))⟩, by obtain ⟨dx, z⟩ := h.th; exact ⟨dx, by rw [eh]; exact f _ _ z (n _ (by simp))⟩,
    by rw [ea]; exact h.a.fr f fun b hb => n b (by simp [hb]), by rw [eb]; exact h.b.fr f fun b hb => n b (by simp [hb]), h.nd⟩
theorem GameAt.setC (h : GameAt A H L m) (f : Fr [L.c] H H') (e : ∃ dx, H' L.c = some (.ins A.cC dx (cF m'))) (ea : m'.a = m.a) (eb : m'.b = m.b) (eg : gF L m' = gF L m) (eh : hF m' = hF m) : GameAt A H' L m' := by
  have ap := h.apart
  have n : ∀ b ∈ L.g :: L.tl :: L.th :: (L.a.own ++ L.b.own), b ∉ [L.c] := fun b hb z => ap.c b hb (by simpa using z)
  exact ⟨by obtain ⟨dx, z⟩ := h.g; exact ⟨dx, by rw [eg]; exact f _ _ z (n _ (by simp))⟩, f _ _ h.tl (n _ (by simp)), e, by obtain ⟨dx, z⟩ := h.th; exact ⟨dx, by rw [eh]; exact f _ _ z (n _ (by simp))⟩,
    by rw [ea]; exact h.a.fr f fun b hb => n b (by simp [hb]), by rw [eb]; exact h.b.fr f fun b hb => n b (by simp [hb]), h.nd⟩
theorem GameAt.setH (h : GameAt A H L m) (f : Fr [L.th] H H') (e : ∃ dx, H' L.th = some (.ins A.cH dx (hF m'))) (ea : m'.a = m.a) (eb : m'.b = m.b) (eg : gF L m' = gF L m) (ec : cF m' = cF m) : GameAt A H' L m' := by
  have ap := h.apart
  have n : ∀ b ∈ L.g :: L.tl :: L.c :: (L.a.own ++ L.b.own), b ∉ [L.th] := fun b hb z => ap.h b hb (by simpa using z)
  exact ⟨by obtain ⟨dx, z⟩ := h.g; exact ⟨dx, by rw [eg]; exact f _ _ z (n _ (by simp))⟩, f _ _ h.tl (n _ (by simp)), by obtain ⟨dx, z⟩ := h.c; exact ⟨dx, by rw [ec]; exact f _ _ z (n _ (by simp))⟩, e,
    by rw [ea]; exact h.a.fr f fun b hb => n b (by simp [hb]), by rw [eb]; exact h.b.fr f fun b hb => n b (by simp [hb]), h.nd⟩
/-- one team is another -/
theorem GameAt.setA (h : GameAt A H L m) (f : Fr S H H') (hS : ∀ b ∈ S, b ∈ L.a.own) (e : TmAt A H' L.a t') : GameAt A H' L { m with a := t' } := by
  have ap := h.apart
  have n : ∀ b, b ∈ L.g :: L.tl :: L.c :: L.th :: L.b.own → b ∉ S := fun b hb z => by
    have z2 := hS b z
    simp only [List.mem_cons] at hb
    have nd := h.nd
    unfold GL.own at nd
    simp only [List.nodup_cons, List.mem_cons, not_or, List.mem_append] at nd
    obtain ⟨⟨_, _, _, g4⟩, ⟨_, _, l3⟩, ⟨_, c2⟩, h1, _⟩ := nd
    rcases hb with rfl | rfl | rfl | rfl | hb
    · exact g4.1 z2
    · exact l3.1 z2
    · exact c2.1 z2
    · exact h1.1 z2
    · exact ap.ab b z2 b hb rfl
  exact ⟨by obtain ⟨dx, z⟩ := h.g; exact ⟨dx, f _ _ z (n _ (by simp))⟩, f _ _ h.tl (n _ (by simp)), by obtain ⟨dx, z⟩ := h.c; exact ⟨dx, f _ _ z (n _ (by simp))⟩, by obtain ⟨dx, z⟩ := h.th; exact ⟨dx, f _ _ z (n _ (by simp))⟩,
    e, h.b.fr f fun b hb => n b (by simp [hb]), h.nd⟩
theorem GameAt.setB (h : GameAt A H L m) (f : Fr S H H') (hS : ∀ b ∈ S, b ∈ L.b.own) (e : TmAt A H' L.b t') : GameAt A H' L { m with b := t' } := by
  have ap := h.apart
  have n : ∀ b, b ∈ L.g :: L.tl :: L.c :: L.th :: L.a.own → b ∉ S := fun b hb z => by
    have z2 := hS b z
    simp only [List.mem_cons] at hb
    have nd := h.nd
    unfold GL.own at nd
    simp only [List.nodup_cons, List.mem_cons, not_or, List.mem_append] at nd
    obtain ⟨⟨_, _, _, g4⟩, ⟨_, _, l3⟩, ⟨_, c2⟩, h1, _⟩ := nd
    rcases hb with rfl | rfl | rfl | rfl | hb
    · exact g4.2 z2
    · exact l3.2 z2
    · exact c2.2 z2
    · exact h1.2 z2
    · exact ap.ab b hb b z2 rfl
  exact ⟨by obtain ⟨dx, z⟩ := h.g; exact ⟨dx, f _ _ z (n _ (by simp))⟩, f _ _ h.tl (n _ (by simp)), by obtain ⟨dx, z⟩ := h.c; exact ⟨dx, f _ _ z (n _ (by simp))⟩, by obtain ⟨dx, z⟩ := h.th; exact ⟨dx, f _ _ z (n _ (by simp))⟩,
    h.a.fr f fun b hb => n b (by simp [hb]), e, h.nd⟩
theorem GameAt.team (h : GameAt A H L m) (s : Int) : TmAt A H (L.team s) (m.team s) := by
  unfold GL.team Ct.Gm.team
  split
  · exact h.a
  · exact h.b
theorem GameAt.putT (h : GameAt A H L m) (s : Int) (f : Fr S H H') (hS : ∀ b ∈ S, b ∈ (L.team s).own) (e : TmAt A H' (L.team s) t') : GameAt A H' L (m.put s t') := by
  unfold GL.team at hS e
  unfold Ct.Gm.put
  split <;> rename_i z
  · rw [if_pos z] at hS e; exact h.setA f hS e
  · rw [if_neg z] at hS e; exact h.setB f hS e
theorem GL.team_own {s : Int} {b : Addr} (h : b ∈ (L.team s).own) : b ∈ L.own := by
  unfold GL.team at h
  unfold GL.own
  split at h <;> simp [h]
theorem GameAt.ndT (h : GameAt A H L m) (s : Int) : (L.team s).own.Nodup := by
  unfold GL.team
  split
  · exact h.apart.na
  · exact h.apart.nb
/-- a team's own numbers -/
theorem TmAt.setT (h : TmAt A H x t) (nd : x.own.Nodup) (f : Fr [x.t] H H') (e : TH A H' x.t x.l t') (hp : t'.players = t.players) : TmAt A H' x t' := by
  unfold TL.own at nd
  simp only [List.nodup_cons, List.mem_cons, not_or] at nd
  obtain ⟨⟨n1, n2⟩, n3, n4⟩ := nd
  have n : ∀ b, b ∈ x.l :: x.ps → b ∉ [x.t] := fun b hb z => by
    have e : b = x.t := by simpa using z
    subst e
    rcases List.mem_cons.mp hb with q | q
    · exact n1 q
    · exact n2 q
  exact ⟨e, f _ _ h.l (n _ (by simp)), by rw [hp]; exact h.p.fr f fun b hb => n b (by simp [hb]), by rw [hp]; exact h.le⟩
/-- one player of it -/
theorem TmAt.setP (h : TmAt A H x t) (nd : x.own.Nodup) {i : Nat} {F : Ct.Pl → Ct.Pl} (ha : x.ps[i]? = some a) (hp : t.players[i]? = some p) (f : Fr [a] H H') (e : PlAt A H' a (F p)) : TmAt A H' x (t.at i F) := by
  unfold TL.own at nd
  simp only [List.nodup_cons, List.mem_cons, not_or] at nd
  obtain ⟨⟨n1, n2⟩, n3, n4⟩ := nd
  have am : a ∈ x.ps := List.mem_of_getElem? ha
  have nt : x.t ∉ [a] := fun z => n2 (by have : x.t = a := by simpa using z
                                         rw [this]; exact am)
  have nl : x.l ∉ [a] := fun z => n3 (by have : x.l = a := by simpa using z
                                         rw [this]; exact am)
  refine ⟨h.hd.fr f nt, f _ _ h.l nl, ⟨?_, fun j b q hb hq => ?_⟩, ?_⟩
  · show x.ps.length = (t.players.modify i F).length
    rw [List.length_modify]; exact h.p.len
  · have hq : (t.players.modify i F)[j]? = some q := hq
    rw [List.getElem?_modify] at hq
    by_cases c : i = j
    · subst c
      rw [ha] at hb
      cases hb
      rw [hp] at hq
      simp at hq
      subst hq
      exact e
    · have hb' : b ≠ a := by
        intro z
        subst z
        exact c (nd_ix n4 ha hb)
      cases hr : t.players[j]? with
      | none => rw [hr] at hq; cases hq
      | some r =>
        rw [hr] at hq
        simp [c] at hq
        subst hq
        exact (h.p.at_ j b r hb hr).fr f (by simpa using hb')
  · show (t.players.modify i F).length ≤ 12
    rw [List.length_modify]; exact h.le
theorem GameAt.setT (h : GameAt A H L m) (s : Int) (f : Fr [(L.team s).t] H H') (e : TH A H' (L.team s).t (L.team s).l t') (hp : t'.players = (m.team s).players) : GameAt A H' L (m.put s t') :=
  h.putT s f (fun b hb => by have z : b = (L.team s).t := by simpa using hb
                             rw [z]; simp [TL.own]) ((h.team s).setT (h.ndT s) f e hp)
theorem GameAt.setP (h : GameAt A H L m) (s : Int) {i : Nat} {F : Ct.Pl → Ct.Pl} (ha : (L.team s).ps[i]? = some a) (hp : (m.team s).players[i]? = some p) (f : Fr [a] H H') (e : PlAt A H' a (F p)) : GameAt A H' L (m.put s ((m.team s).at i F)) :=
  h.putT s f (fun b hb => by have z : b = a := by simpa using hb
                             rw [z]; have am := List.mem_of_getElem? ha; simp [TL.own, am]) ((h.team s).setP (h.ndT s) ha hp f e)
end
/-! ### a read, a store -/
open Evl
def Fd (K : PySem.W.Frag) (H : Hp) (a : Addr) (f : Str) (v : V) : Prop := ∃ C dx fs, H a = some (.ins C dx fs) ∧ Cls K C ∧ NoAttr K C f ∧ fs.lookup f = some v
section
variable {K : PySem.W.Frag} {σ : L2.St} {H : Hp} {ta tv : TE} {a C dx : Addr} {fs : List (Str × V)} {f : Str} {v y : V} {D : Ends} {rd : V → V → Hp → VK → Prop} {x z : V}
theorem ev_fld (ha : Ev ta σ H (.ref a)) (h : Fd K H a f v) : Ev (tFld K ta f) σ H v := fun H1 e Q q => ha H1 e _ fun H2 e2 => by
  obtain ⟨C, dx, fs, e1, c, n, l⟩ := h
  exact ⟨a, C, dx, fs, v, rfl, e2 _ _ (e _ _ e1), c, n, l, q H2 e2⟩
theorem s_fld (hv : Ev tv σ H y) (ha : Ev ta σ H (.ref a)) (e : H a = some (.ins C dx fs)) (c : Cls K C) (n : NoAttr K C f) (l : fs.length < 1000) (k : ∀ H1, Same H H1 → D.nx σ (upd H1 a (.ins C dx (putF f y fs)))) : sFld K ta tv f D σ H :=
  hv H (Ex.refl H) _ fun H1 e1 => ha H1 e1 _ fun H2 e2 => ⟨a, C, dx, fs, rfl, e2 _ _ (e1 _ _ e), c, n, l, k H2 (e1.trans e2)⟩
theorem s_fldaug (ha : Ev ta σ H (.ref a)) (hv : Ev tv σ H y) (e : H a = some (.ins C dx fs)) (c : Cls K C) (n : NoAttr K C f) (lk : fs.lookup f = some x) (hr : RV rd x y H z) (l : fs.length < 1000) (k : ∀ H1, Same H H1 → D.nx σ (upd H1 a (.ins C dx (putF f z fs)))) : sFldAug K ta tv rd f D σ H :=
  ha H (Ex.refl H) _ fun H1 e1 => ⟨a, C, dx, fs, x, rfl, e1 _ _ e, c, n, lk, hv H1 e1 _ fun H2 e2 => hr H2 (e1.trans e2) _ fun H3 e3 => ⟨dx, fs, e3 _ _ (e2 _ _ (e1 _ _ e)), l, k H3 ((e1.trans e2).trans e3)⟩⟩
theorem rv_add {i j : Int} : RV rAdd (.int i) (.int j) H (.int (i + j)) := fun H1 _ _ q => ⟨i, j, rfl, rfl, q H1 (Ex.refl H1)⟩
theorem rv_sub {i j : Int} : RV rSub (.int i) (.int j) H (.int (i - j)) := fun H1 _ _ q => ⟨i, j, rfl, rfl, q H1 (Ex.refl H1)⟩
/-- a def called for what it does -/
theorem s_call {sp : Sp} {E : XK} {t : TA} {vs : List V} (ha : EvA t σ H vs) (h : ∀ H1, Same H H1 → sp vs H1 (fun _ H2 => D.nx σ H2) E) : tDrop (tCall sp [] E t) D σ H := ha H (Ex.refl H) _ fun H1 e1 => by
  show sp (vs ++ []) H1 _ E
  rw [List.append_nil]; exact h H1 e1
/-- its value kept -/
theorem s_get {sp : Sp} {E : XK} {t : TA} {vs : List V} {i : Nat} (ha : EvA t σ H vs) (h : ∀ H1, Same H H1 → sp vs H1 (fun x H2 => D.nx (σ.set i (some x)) H2) E) : tAsg (tCall sp [] E t) (gName i) D σ H := ha H (Ex.refl H) _ fun H1 e1 => by
  show sp (vs ++ []) H1 _ E
  rw [List.append_nil]; exact h H1 e1
/-- its value handed back -/
theorem s_rcall {sp : Sp} {E : XK} {t : TA} {vs : List V} (ha : EvA t σ H vs) (h : ∀ H1, Same H H1 → sp vs H1 D.rt E) : tRet (tCall sp [] E t) D σ H := ha H (Ex.refl H) _ fun H1 e1 => by
  show sp (vs ++ []) H1 _ E
  rw [List.append_nil]; exact h H1 e1
theorem ev_get {sp : Sp} {E : XK} {t : TA} {vs : List V} {z : V} (ha : EvA t σ H vs) (h : ∀ H1, Same H H1 → ∀ Q : VK, (∀ H2, Same H1 H2 → Q z H2) → ∀ E : XK, sp vs H1 Q E) : Ev (tCall sp [] E t) σ H z := ev_call ha (by
  rw [List.append_nil]; exact h)
/-- some list's content -/
def EvQ (te : TE) (σ : L2.St) (H : Hp) (xs : List V) : Prop := ∀ H1, Ex H H1 → ∀ Q : VK, (∀ p H2, Ex H1 H2 → H2 p = some (.lst xs) → Q (.ref p) H2) → te σ H1 Q
theorem EvQ.of {te : TE} {xs : List V} (h : EvL te σ H xs) : EvQ te σ H xs := fun H1 e Q q => h H1 e Q fun p H2 _ e2 h2 => q p H2 e2 h2
theorem EvQ.at {te : TE} {xs : List V} {p : Addr} (h : Ev te σ H (.ref p)) (hp : H p = some (.lst xs)) : EvQ te σ H xs := fun H1 e Q q => h H1 e Q fun H2 e2 => q p H2 e2 (e2 _ _ (e _ _ hp))
theorem el_cat {tb : TE} {xs ys : List V} (ha : EvQ ta σ H xs) (hb : EvQ tb σ H ys) (hz : xs.length + ys.length ≤ 100000) : EvL (tOp rCat ta tb) σ H (xs ++ ys) := fun H1 e Q q =>
  ha H1 e _ fun p H2 e2 h2 => hb H2 (e.trans e2) _ fun r H3 e3 h3 => ⟨p, r, xs, ys, rfl, rfl, e3 _ _ h2, h3, sz_of hz, fun s hs => q s _ (fresh_back (e2.trans e3) hs) ((e2.trans e3).trans (Ex.new hs)) upd_same⟩
end
section
variable {K : PySem.W.Frag} {mg : Str → Option Value} {A : Ad} {H : Hp} {L : GL} {m : Ct.Gm} {t : Ct.Tm} {a l : Addr} {p : Ct.Pl} {y : Int} {σ : L2.St} {D : Ends} {ta tv : TE}

theorem fP_number (T : Txt K mg A) (h : PlAt A H a p) : Fd K H a "number" (.int p.number) := let ⟨dx, e⟩ := h; ⟨_, dx, _, e, T.clP, T.aP_number, lP_number⟩
theorem wP_number (T : Txt K mg A) (h : PlAt A H a p) {z : Int} (hv : Ev tv σ H (.int z)) (ha : Ev ta σ H (.ref a)) (k : ∀ H', PlAt A H' a { p with number := z } → Fr [a] H H' → D.nx σ H') : sFld K ta tv "number" D σ H := let ⟨dx, e⟩ := h; s_fld hv ha e T.clP T.aP_number (by show 7 < 1000; decide) (fun H1 s => k _ (⟨dx, upd_same.trans (congrArg (fun q => some (HO.ins A.cP dx q)) sP_number)⟩) ((Fr.of s).trans fr_upd))
theorem addP_number (T : Txt K mg A) (h : PlAt A H a p) (ha : Ev ta σ H (.ref a)) (hv : Ev tv σ H (.int y)) (k : ∀ H', PlAt A H' a { p with number := p.number + y } → Fr [a] H H' → D.nx σ H') : sFldAug K ta tv rAdd "number" D σ H := let ⟨dx, e⟩ := h; s_fldaug ha hv e T.clP T.aP_number lP_number rv_add (by show 7 < 1000; decide) (fun H1 s => k _ (⟨dx, upd_same.trans (congrArg (fun q => some (HO.ins A.cP dx q)) sP_number)⟩) ((Fr.of s).trans fr_upd))
theorem decP_number (T : Txt K mg A) (h : PlAt A H a p) (ha : Ev ta σ H (.ref a)) (hv : Ev tv σ H (.int y)) (k : ∀ H', PlAt A H' a { p with number := p.number - y } → Fr [a] H H' → D.nx σ H') : sFldAug K ta tv rSub "number" D σ H := let ⟨dx, e⟩ := h; s_fldaug ha hv e T.clP T.aP_number lP_number rv_sub (by show 7 < 1000; decide) (fun H1 s => k _ (⟨dx, upd_same.trans (congrArg (fun q => some (HO.ins A.cP dx q)) sP_number)⟩) ((Fr.of s).trans fr_upd))
theorem fP_points (T : Txt K mg A) (h : PlAt A H a p) : Fd K H a "points" (.int p.points) := let ⟨dx, e⟩ := h; ⟨_, dx, _, e, T.clP, T.aP_points, lP_points⟩
theorem wP_points (T : Txt K mg A) (h : PlAt A H a p) {z : Int} (hv : Ev tv σ H (.int z)) (ha : Ev ta σ H (.ref a)) (k : ∀ H', PlAt A H' a { p with points := z } → Fr [a] H H' → D.nx σ H') : sFld K ta tv "points" D σ H := let ⟨dx, e⟩ := h; s_fld hv ha e T.clP T.aP_points (by show 7 < 1000; decide) (fun H1 s => k _ (⟨dx, upd_same.trans (congrArg (fun q => some (HO.ins A.cP dx q)) sP_points)⟩) ((Fr.of s).trans fr_upd))
theorem addP_points (T : Txt K mg A) (h : PlAt A H a p) (ha : Ev ta σ H (.ref a)) (hv : Ev tv σ H (.int y)) (k : ∀ H', PlAt A H' a { p with points := p.points + y } → Fr [a] H H' → D.nx σ H') : sFldAug K ta tv rAdd "points" D σ H := let ⟨dx, e⟩ := h; s_fldaug ha hv e T.clP T.aP_points lP_points rv_add (by show 7 < 1000; decide) (fun H1 s => k _ (⟨dx, upd_same.trans (congrArg (fun q => some (HO.ins A.cP dx q)) sP_points)⟩) ((Fr.of s).trans fr_upd))
theorem decP_points (T : Txt K mg A) (h : PlAt A H a p) (ha : Ev ta σ H (.ref a)) (hv : Ev tv σ H (.int y)) (k : ∀ H', PlAt A H' a { p with points := p.points - y } → Fr [a] H H' → D.nx σ H') : sFldAug K ta tv rSub "points" D σ H := let ⟨dx, e⟩ := h; s_fldaug ha hv e T.clP T.aP_points lP_points rv_sub (by show 7 < 1000; decide) (fun H1 s => k _ (⟨dx, upd_same.trans (congrArg (fun q => some (HO.ins A.cP dx q)) sP_points)⟩) ((Fr.of s).trans fr_upd))
theorem fP_personal (T : Txt K mg A) (h : PlAt A H a p) : Fd K H a "personal" (.int p.personal) := let ⟨dx, e⟩ := h; ⟨_, dx, _, e, T.clP, T.aP_personal, lP_personal⟩
theorem wP_personal (T : Txt K mg A) (h : PlAt A H a p) {z : Int} (hv : Ev tv σ H (.int z)) (ha : Ev ta σ H (.ref a)) (k : ∀ H', PlAt A H' a { p with personal := z } → Fr [a] H H' → D.nx σ H') : sFld K ta tv "personal" D σ H := let ⟨dx, e⟩ := h; s_fld hv ha e T.clP T.aP_personal (by show 7 < 1000; decide) (fun H1 s => k _ (⟨dx, upd_same.trans (congrArg (fun q => some (HO.ins A.cP dx q)) sP_personal)⟩) ((Fr.of s).trans fr_upd))
theorem addP_personal (T : Txt K mg A) (h : PlAt A H a p) (ha : Ev ta σ H (.ref a)) (hv : Ev tv σ H (.int y)) (k : ∀ H', PlAt A H' a { p with personal := p.personal + y } → Fr [a] H H' → D.nx σ H') : sFldAug K ta tv rAdd "personal" D σ H := let ⟨dx, e⟩ := h; s_fldaug ha hv e T.clP T.aP_personal lP_personal rv_add (by show 7 < 1000; decide) (fun H1 s => k _ (⟨dx, upd_same.trans (congrArg (fun q => some (HO.ins A.cP dx q)) sP_personal)⟩) ((Fr.of s).trans fr_upd))
theorem decP_personal (T : Txt K mg A) (h : PlAt A H a p) (ha : Ev ta σ H (.ref a)) (hv : Ev tv σ H (.int y)) (k : ∀ H', PlAt A H' a { p with personal := p.personal - y } → Fr [a] H H' → D.nx σ H') : sFldAug K ta tv rSub "personal" D σ H := let ⟨dx, e⟩ := h; s_fldaug ha hv e T.clP T.aP_personal lP_personal rv_sub (by show 7 < 1000; decide) (fun H1 s => k _ (⟨dx, upd_same.trans (congrArg (fun q => some (HO.ins A.cP dx q)) sP_personal)⟩) ((Fr.of s).trans fr_upd))
theorem fP_technical (T : Txt K mg A) (h : PlAt A H a p) : Fd K H a "technical" (.int p.technical) := let ⟨dx, e⟩ := h; ⟨_, dx, _, e, T.clP, T.aP_technical, lP_technical⟩
theorem wP_technical (T : Txt K mg A) (h : PlAt A H a p) {z : Int} (hv : Ev tv σ H (.int z)) (ha : Ev ta σ H (.ref a)) (k : ∀ H', PlAt A H' a { p with technical := z } → Fr [a] H H' → D.nx σ H') : sFld K ta tv "technical" D σ H := let ⟨dx, e⟩ := h; s_fld hv ha e T.clP T.aP_technical (by show 7 < 1000; decide) (fun H1 s => k _ (⟨dx, upd_same.trans (congrArg (fun q => some (HO.ins A.cP dx q)) sP_technical)⟩) ((Fr.of s).trans fr_upd))
theorem addP_technical (T : Txt K mg A) (h : PlAt A H a p) (ha : Ev ta σ H (.ref a)) (hv : Ev tv σ H (.int y)) (k : ∀ H', PlAt A H' a { p with technical := p.technical + y } → Fr [a] H H' → D.nx σ H') : sFldAug K ta tv rAdd "technical" D σ H := let ⟨dx, e⟩ := h; s_fldaug ha hv e T.clP T.aP_technical lP_technical rv_add (by show 7 < 1000; decide) (fun H1 s => k _ (⟨dx, upd_same.trans (congrArg (fun q => some (HO.ins A.cP dx q)) sP_technical)⟩) ((Fr.of s).trans fr_upd))
theorem decP_technical (T : Txt K mg A) (h : PlAt A H a p) (ha : Ev ta σ H (.ref a)) (hv : Ev tv σ H (.int y)) (k : ∀ H', PlAt A H' a { p with technical := p.technical - y } → Fr [a] H H' → D.nx σ H') : sFldAug K ta tv rSub "technical" D σ H := let ⟨dx, e⟩ := h; s_fldaug ha hv e T.clP T.aP_technical lP_technical rv_sub (by show 7 < 1000; decide) (fun H1 s => k _ (⟨dx, upd_same.trans (congrArg (fun q => some (HO.ins A.cP dx q)) sP_technical)⟩) ((Fr.of s).trans fr_upd))
theorem fP_heavy (T : Txt K mg A) (h : PlAt A H a p) : Fd K H a "heavy" (.int p.heavy) := let ⟨dx, e⟩ := h; ⟨_, dx, _, e, T.clP, T.aP_heavy, lP_heavy⟩
theorem wP_heavy (T : Txt K mg A) (h : PlAt A H a p) {z : Int} (hv : Ev tv σ H (.int z)) (ha : Ev ta σ H (.ref a)) (k : ∀ H', PlAt A H' a { p with heavy := z } → Fr [a] H H' → D.nx σ H') : sFld K ta tv "heavy" D σ H := let ⟨dx, e⟩ := h; s_fld hv ha e T.clP T.aP_heavy (by show 7 < 1000; decide) (fun H1 s => k _ (⟨dx, upd_same.trans (congrArg (fun q => some (HO.ins A.cP dx q)) sP_heavy)⟩) ((Fr.of s).trans fr_upd))
theorem addP_heavy (T : Txt K mg A) (h : PlAt A H a p) (ha : Ev ta σ H (.ref a)) (hv : Ev tv σ H (.int y)) (k : ∀ H', PlAt A H' a { p with heavy := p.heavy + y } → Fr [a] H H' → D.nx σ H') : sFldAug K ta tv rAdd "heavy" D σ H := let ⟨dx, e⟩ := h; s_fldaug ha hv e T.clP T.aP_heavy lP_heavy rv_add (by show 7 < 1000; decide) (fun H1 s => k _ (⟨dx, upd_same.trans (congrArg (fun q => some (HO.ins A.cP dx q)) sP_heavy)⟩) ((Fr.of s).trans fr_upd))
theorem decP_heavy (T : Txt K mg A) (h : PlAt A H a p) (ha : Ev ta σ H (.ref a)) (hv : Ev tv σ H (.int y)) (k : ∀ H', PlAt A H' a { p with heavy := p.heavy - y } → Fr [a] H H' → D.nx σ H') : sFldAug K ta tv rSub "heavy" D σ H := let ⟨dx, e⟩ := h; s_fldaug ha hv e T.clP T.aP_heavy lP_heavy rv_sub (by show 7 < 1000; decide) (fun H1 s => k _ (⟨dx, upd_same.trans (congrArg (fun q => some (HO.ins A.cP dx q)) sP_heavy)⟩) ((Fr.of s).trans fr_upd))
theorem fP_sent_off (T : Txt K mg A) (h : PlAt A H a p) : Fd K H a "sent_off" (.bl p.sentOff) := let ⟨dx, e⟩ := h; ⟨_, dx, _, e, T.clP, T.aP_sent_off, lP_sent_off⟩
theorem wP_sent_off (T : Txt K mg A) (h : PlAt A H a p) {z : Bool} (hv : Ev tv σ H (.bl z)) (ha : Ev ta σ H (.ref a)) (k : ∀ H', PlAt A H' a { p with sentOff := z } → Fr [a] H H' → D.nx σ H') : sFld K ta tv "sent_off" D σ H := let ⟨dx, e⟩ := h; s_fld hv ha e T.clP T.aP_sent_off (by show 7 < 1000; decide) (fun H1 s => k _ (⟨dx, upd_same.trans (congrArg (fun q => some (HO.ins A.cP dx q)) sP_sent_off)⟩) ((Fr.of s).trans fr_upd))
theorem fP_on_court (T : Txt K mg A) (h : PlAt A H a p) : Fd K H a "on_court" (.bl p.onCourt) := let ⟨dx, e⟩ := h; ⟨_, dx, _, e, T.clP, T.aP_on_court, lP_on_court⟩
theorem wP_on_court (T : Txt K mg A) (h : PlAt A H a p) {z : Bool} (hv : Ev tv σ H (.bl z)) (ha : Ev ta σ H (.ref a)) (k : ∀ H', PlAt A H' a { p with onCourt := z } → Fr [a] H H' → D.nx σ H') : sFld K ta tv "on_court" D σ H := let ⟨dx, e⟩ := h; s_fld hv ha e T.clP T.aP_on_court (by show 7 < 1000; decide) (fun H1 s => k _ (⟨dx, upd_same.trans (congrArg (fun q => some (HO.ins A.cP dx q)) sP_on_court)⟩) ((Fr.of s).trans fr_upd))
theorem fT_players (T : Txt K mg A) (h : TH A H a l t) : Fd K H a "players" (.ref l) := let ⟨dx, e⟩ := h; ⟨_, dx, _, e, T.clT, T.aT_players, lT_players⟩
theorem fT_fouls (T : Txt K mg A) (h : TH A H a l t) : Fd K H a "fouls" (.int t.fouls) := let ⟨dx, e⟩ := h; ⟨_, dx, _, e, T.clT, T.aT_fouls, lT_fouls⟩
theorem wT_fouls (T : Txt K mg A) (h : TH A H a l t) {z : Int} (hv : Ev tv σ H (.int z)) (ha : Ev ta σ H (.ref a)) (k : ∀ H', TH A H' a l { t with fouls := z } → Fr [a] H H' → D.nx σ H') : sFld K ta tv "fouls" D σ H := let ⟨dx, e⟩ := h; s_fld hv ha e T.clT T.aT_fouls (by show 3 < 1000; decide) (fun H1 s => k _ (⟨dx, upd_same.trans (congrArg (fun q => some (HO.ins A.cT dx q)) sT_fouls)⟩) ((Fr.of s).trans fr_upd))
theorem addT_fouls (T : Txt K mg A) (h : TH A H a l t) (ha : Ev ta σ H (.ref a)) (hv : Ev tv σ H (.int y)) (k : ∀ H', TH A H' a l { t with fouls := t.fouls + y } → Fr [a] H H' → D.nx σ H') : sFldAug K ta tv rAdd "fouls" D σ H := let ⟨dx, e⟩ := h; s_fldaug ha hv e T.clT T.aT_fouls lT_fouls rv_add (by show 3 < 1000; decide) (fun H1 s => k _ (⟨dx, upd_same.trans (congrArg (fun q => some (HO.ins A.cT dx q)) sT_fouls)⟩) ((Fr.of s).trans fr_upd))
theorem decT_fouls (T : Txt K mg A) (h : TH A H a l t) (ha : Ev ta σ H (.ref a)) (hv : Ev tv σ H (.int y)) (k : ∀ H', TH A H' a l { t with fouls := t.fouls - y } → Fr [a] H H' → D.nx σ H') : sFldAug K ta tv rSub "fouls" D σ H := let ⟨dx, e⟩ := h; s_fldaug ha hv e T.clT T.aT_fouls lT_fouls rv_sub (by show 3 < 1000; decide) (fun H1 s => k _ (⟨dx, upd_same.trans (congrArg (fun q => some (HO.ins A.cT dx q)) sT_fouls)⟩) ((Fr.of s).trans fr_upd))
theorem fT_timeouts (T : Txt K mg A) (h : TH A H a l t) : Fd K H a "timeouts" (.int t.timeouts) := let ⟨dx, e⟩ := h; ⟨_, dx, _, e, T.clT, T.aT_timeouts, lT_timeouts⟩
theorem wT_timeouts (T : Txt K mg A) (h : TH A H a l t) {z : Int} (hv : Ev tv σ H (.int z)) (ha : Ev ta σ H (.ref a)) (k : ∀ H', TH A H' a l { t with timeouts := z } → Fr [a] H H' → D.nx σ H') : sFld K ta tv "timeouts" D σ H := let ⟨dx, e⟩ := h; s_fld hv ha e T.clT T.aT_timeouts (by show 3 < 1000; decide) (fun H1 s => k _ (⟨dx, upd_same.trans (congrArg (fun q => some (HO.ins A.cT dx q)) sT_timeouts)⟩) ((Fr.of s).trans fr_upd))
theorem addT_timeouts (T : Txt K mg A) (h : TH A H a l t) (ha : Ev ta σ H (.ref a)) (hv : Ev tv σ H (.int y)) (k : ∀ H', TH A H' a l { t with timeouts := t.timeouts + y } → Fr [a] H H' → D.nx σ H') : sFldAug K ta tv rAdd "timeouts" D σ H := let ⟨dx, e⟩ := h; s_fldaug ha hv e T.clT T.aT_timeouts lT_timeouts rv_add (by show 3 < 1000; decide) (fun H1 s => k _ (⟨dx, upd_same.trans (congrArg (fun q => some (HO.ins A.cT dx q)) sT_timeouts)⟩) ((Fr.of s).trans fr_upd))
theorem decT_timeouts (T : Txt K mg A) (h : TH A H a l t) (ha : Ev ta σ H (.ref a)) (hv : Ev tv σ H (.int y)) (k : ∀ H', TH A H' a l { t with timeouts := t.timeouts - y } → Fr [a] H H' → D.nx σ H') : sFldAug K ta tv rSub "timeouts" D σ H := let ⟨dx, e⟩ := h; s_fldaug ha hv e T.clT T.aT_timeouts lT_timeouts rv_sub (by show 3 < 1000; decide) (fun H1 s => k _ (⟨dx, upd_same.trans (congrArg (fun q => some (HO.ins A.cT dx q)) sT_timeouts)⟩) ((Fr.of s).trans fr_upd))
theorem fC_period (T : Txt K mg A) (h : GameAt A H L m) : Fd K H L.c "period" (.int m.period) := let ⟨dx, e⟩ := h.c; ⟨_, dx, _, e, T.clC, T.aC_period, lC_period⟩
theorem wC_period (T : Txt K mg A) (h : GameAt A H L m) {z : Int} (hv : Ev tv σ H (.int z)) (ha : Ev ta σ H (.ref L.c)) (k : ∀ H', GameAt A H' L { m with period := z } → Fr [L.c] H H' → D.nx σ H') : sFld K ta tv "period" D σ H := let ⟨dx, e⟩ := h.c; s_fld hv ha e T.clC T.aC_period (by show 3 < 1000; decide) (fun H1 s => k _ ((h.same s).setC fr_upd ⟨dx, upd_same.trans (congrArg (fun q => some (HO.ins A.cC dx q)) sC_period)⟩ rfl rfl rfl rfl) ((Fr.of s).trans fr_upd))
theorem addC_period (T : Txt K mg A) (h : GameAt A H L m) (ha : Ev ta σ H (.ref L.c)) (hv : Ev tv σ H (.int y)) (k : ∀ H', GameAt A H' L { m with period := m.period + y } → Fr [L.c] H H' → D.nx σ H') : sFldAug K ta tv rAdd "period" D σ H := let ⟨dx, e⟩ := h.c; s_fldaug ha hv e T.clC T.aC_period lC_period rv_add (by show 3 < 1000; decide) (fun H1 s => k _ ((h.same s).setC fr_upd ⟨dx, upd_same.trans (congrArg (fun q => some (HO.ins A.cC dx q)) sC_period)⟩ rfl rfl rfl rfl) ((Fr.of s).trans fr_upd))
theorem decC_period (T : Txt K mg A) (h : GameAt A H L m) (ha : Ev ta σ H (.ref L.c)) (hv : Ev tv σ H (.int y)) (k : ∀ H', GameAt A H' L { m with period := m.period - y } → Fr [L.c] H H' → D.nx σ H') : sFldAug K ta tv rSub "period" D σ H := let ⟨dx, e⟩ := h.c; s_fldaug ha hv e T.clC T.aC_period lC_period rv_sub (by show 3 < 1000; decide) (fun H1 s => k _ ((h.same s).setC fr_upd ⟨dx, upd_same.trans (congrArg (fun q => some (HO.ins A.cC dx q)) sC_period)⟩ rfl rfl rfl rfl) ((Fr.of s).trans fr_upd))
theorem fC_left (T : Txt K mg A) (h : GameAt A H L m) : Fd K H L.c "left" (.int m.left) := let ⟨dx, e⟩ := h.c; ⟨_, dx, _, e, T.clC, T.aC_left, lC_left⟩
theorem wC_left (T : Txt K mg A) (h : GameAt A H L m) {z : Int} (hv : Ev tv σ H (.int z)) (ha : Ev ta σ H (.ref L.c)) (k : ∀ H', GameAt A H' L { m with left := z } → Fr [L.c] H H' → D.nx σ H') : sFld K ta tv "left" D σ H := let ⟨dx, e⟩ := h.c; s_fld hv ha e T.clC T.aC_left (by show 3 < 1000; decide) (fun H1 s => k _ ((h.same s).setC fr_upd ⟨dx, upd_same.trans (congrArg (fun q => some (HO.ins A.cC dx q)) sC_left)⟩ rfl rfl rfl rfl) ((Fr.of s).trans fr_upd))
theorem addC_left (T : Txt K mg A) (h : GameAt A H L m) (ha : Ev ta σ H (.ref L.c)) (hv : Ev tv σ H (.int y)) (k : ∀ H', GameAt A H' L { m with left := m.left + y } → Fr [L.c] H H' → D.nx σ H') : sFldAug K ta tv rAdd "left" D σ H := let ⟨dx, e⟩ := h.c; s_fldaug ha hv e T.clC T.aC_left lC_left rv_add (by show 3 < 1000; decide) (fun H1 s => k _ ((h.same s).setC fr_upd ⟨dx, upd_same.trans (congrArg (fun q => some (HO.ins A.cC dx q)) sC_left)⟩ rfl rfl rfl rfl) ((Fr.of s).trans fr_upd))
theorem decC_left (T : Txt K mg A) (h : GameAt A H L m) (ha : Ev ta σ H (.ref L.c)) (hv : Ev tv σ H (.int y)) (k : ∀ H', GameAt A H' L { m with left := m.left - y } → Fr [L.c] H H' → D.nx σ H') : sFldAug K ta tv rSub "left" D σ H := let ⟨dx, e⟩ := h.c; s_fldaug ha hv e T.clC T.aC_left lC_left rv_sub (by show 3 < 1000; decide) (fun H1 s => k _ ((h.same s).setC fr_upd ⟨dx, upd_same.trans (congrArg (fun q => some (HO.ins A.cC dx q)) sC_left)⟩ rfl rfl rfl rfl) ((Fr.of s).trans fr_upd))
theorem fC_shot (T : Txt K mg A) (h : GameAt A H L m) : Fd K H L.c "shot" (.int m.shot) := let ⟨dx, e⟩ := h.c; ⟨_, dx, _, e, T.clC, T.aC_shot, lC_shot⟩
theorem wC_shot (T : Txt K mg A) (h : GameAt A H L m) {z : Int} (hv : Ev tv σ H (.int z)) (ha : Ev ta σ H (.ref L.c)) (k : ∀ H', GameAt A H' L { m with shot := z } → Fr [L.c] H H' → D.nx σ H') : sFld K ta tv "shot" D σ H := let ⟨dx, e⟩ := h.c; s_fld hv ha e T.clC T.aC_shot (by show 3 < 1000; decide) (fun H1 s => k _ ((h.same s).setC fr_upd ⟨dx, upd_same.trans (congrArg (fun q => some (HO.ins A.cC dx q)) sC_shot)⟩ rfl rfl rfl rfl) ((Fr.of s).trans fr_upd))
theorem addC_shot (T : Txt K mg A) (h : GameAt A H L m) (ha : Ev ta σ H (.ref L.c)) (hv : Ev tv σ H (.int y)) (k : ∀ H', GameAt A H' L { m with shot := m.shot + y } → Fr [L.c] H H' → D.nx σ H') : sFldAug K ta tv rAdd "shot" D σ H := let ⟨dx, e⟩ := h.c; s_fldaug ha hv e T.clC T.aC_shot lC_shot rv_add (by show 3 < 1000; decide) (fun H1 s => k _ ((h.same s).setC fr_upd ⟨dx, upd_same.trans (congrArg (fun q => some (HO.ins A.cC dx q)) sC_shot)⟩ rfl rfl rfl rfl) ((Fr.of s).trans fr_upd))
theorem decC_shot (T : Txt K mg A) (h : GameAt A H L m) (ha : Ev ta σ H (.ref L.c)) (hv : Ev tv σ H (.int y)) (k : ∀ H', GameAt A H' L { m with shot := m.shot - y } → Fr [L.c] H H' → D.nx σ H') : sFldAug K ta tv rSub "shot" D σ H := let ⟨dx, e⟩ := h.c; s_fldaug ha hv e T.clC T.aC_shot lC_shot rv_sub (by show 3 < 1000; decide) (fun H1 s => k _ ((h.same s).setC fr_upd ⟨dx, upd_same.trans (congrArg (fun q => some (HO.ins A.cC dx q)) sC_shot)⟩ rfl rfl rfl rfl) ((Fr.of s).trans fr_upd))
theorem fH_many (T : Txt K mg A) (h : GameAt A H L m) : Fd K H L.th "many" (.int m.many) := let ⟨dx, e⟩ := h.th; ⟨_, dx, _, e, T.clH, T.aH_many, lH_many⟩
theorem wH_many (T : Txt K mg A) (h : GameAt A H L m) {z : Int} (hv : Ev tv σ H (.int z)) (ha : Ev ta σ H (.ref L.th)) (k : ∀ H', GameAt A H' L { m with many := z } → Fr [L.th] H H' → D.nx σ H') : sFld K ta tv "many" D σ H := let ⟨dx, e⟩ := h.th; s_fld hv ha e T.clH T.aH_many (by show 3 < 1000; decide) (fun H1 s => k _ ((h.same s).setH fr_upd ⟨dx, upd_same.trans (congrArg (fun q => some (HO.ins A.cH dx q)) sH_many)⟩ rfl rfl rfl rfl) ((Fr.of s).trans fr_upd))
theorem addH_many (T : Txt K mg A) (h : GameAt A H L m) (ha : Ev ta σ H (.ref L.th)) (hv : Ev tv σ H (.int y)) (k : ∀ H', GameAt A H' L { m with many := m.many + y } → Fr [L.th] H H' → D.nx σ H') : sFldAug K ta tv rAdd "many" D σ H := let ⟨dx, e⟩ := h.th; s_fldaug ha hv e T.clH T.aH_many lH_many rv_add (by show 3 < 1000; decide) (fun H1 s => k _ ((h.same s).setH fr_upd ⟨dx, upd_same.trans (congrArg (fun q => some (HO.ins A.cH dx q)) sH_many)⟩ rfl rfl rfl rfl) ((Fr.of s).trans fr_upd))
theorem decH_many (T : Txt K mg A) (h : GameAt A H L m) (ha : Ev ta σ H (.ref L.th)) (hv : Ev tv σ H (.int y)) (k : ∀ H', GameAt A H' L { m with many := m.many - y } → Fr [L.th] H H' → D.nx σ H') : sFldAug K ta tv rSub "many" D σ H := let ⟨dx, e⟩ := h.th; s_fldaug ha hv e T.clH T.aH_many lH_many rv_sub (by show 3 < 1000; decide) (fun H1 s => k _ ((h.same s).setH fr_upd ⟨dx, upd_same.trans (congrArg (fun q => some (HO.ins A.cH dx q)) sH_many)⟩ rfl rfl rfl rfl) ((Fr.of s).trans fr_upd))
theorem fH_side (T : Txt K mg A) (h : GameAt A H L m) : Fd K H L.th "side" (.int m.side) := let ⟨dx, e⟩ := h.th; ⟨_, dx, _, e, T.clH, T.aH_side, lH_side⟩
theorem wH_side (T : Txt K mg A) (h : GameAt A H L m) {z : Int} (hv : Ev tv σ H (.int z)) (ha : Ev ta σ H (.ref L.th)) (k : ∀ H', GameAt A H' L { m with side := z } → Fr [L.th] H H' → D.nx σ H') : sFld K ta tv "side" D σ H := let ⟨dx, e⟩ := h.th; s_fld hv ha e T.clH T.aH_side (by show 3 < 1000; decide) (fun H1 s => k _ ((h.same s).setH fr_upd ⟨dx, upd_same.trans (congrArg (fun q => some (HO.ins A.cH dx q)) sH_side)⟩ rfl rfl rfl rfl) ((Fr.of s).trans fr_upd))
theorem addH_side (T : Txt K mg A) (h : GameAt A H L m) (ha : Ev ta σ H (.ref L.th)) (hv : Ev tv σ H (.int y)) (k : ∀ H', GameAt A H' L { m with side := m.side + y } → Fr [L.th] H H' → D.nx σ H') : sFldAug K ta tv rAdd "side" D σ H := let ⟨dx, e⟩ := h.th; s_fldaug ha hv e T.clH T.aH_side lH_side rv_add (by show 3 < 1000; decide) (fun H1 s => k _ ((h.same s).setH fr_upd ⟨dx, upd_same.trans (congrArg (fun q => some (HO.ins A.cH dx q)) sH_side)⟩ rfl rfl rfl rfl) ((Fr.of s).trans fr_upd))
theorem decH_side (T : Txt K mg A) (h : GameAt A H L m) (ha : Ev ta σ H (.ref L.th)) (hv : Ev tv σ H (.int y)) (k : ∀ H', GameAt A H' L { m with side := m.side - y } → Fr [L.th] H H' → D.nx σ H') : sFldAug K ta tv rSub "side" D σ H := let ⟨dx, e⟩ := h.th; s_fldaug ha hv e T.clH T.aH_side lH_side rv_sub (by show 3 < 1000; decide) (fun H1 s => k _ ((h.same s).setH fr_upd ⟨dx, upd_same.trans (congrArg (fun q => some (HO.ins A.cH dx q)) sH_side)⟩ rfl rfl rfl rfl) ((Fr.of s).trans fr_upd))
theorem fH_behind (T : Txt K mg A) (h : GameAt A H L m) : Fd K H L.th "behind" (.int m.behind) := let ⟨dx, e⟩ := h.th; ⟨_, dx, _, e, T.clH, T.aH_behind, lH_behind⟩
theorem wH_behind (T : Txt K mg A) (h : GameAt A H L m) {z : Int} (hv : Ev tv σ H (.int z)) (ha : Ev ta σ H (.ref L.th)) (k : ∀ H', GameAt A H' L { m with behind := z } → Fr [L.th] H H' → D.nx σ H') : sFld K ta tv "behind" D σ H := let ⟨dx, e⟩ := h.th; s_fld hv ha e T.clH T.aH_behind (by show 3 < 1000; decide) (fun H1 s => k _ ((h.same s).setH fr_upd ⟨dx, upd_same.trans (congrArg (fun q => some (HO.ins A.cH dx q)) sH_behind)⟩ rfl rfl rfl rfl) ((Fr.of s).trans fr_upd))
theorem addH_behind (T : Txt K mg A) (h : GameAt A H L m) (ha : Ev ta σ H (.ref L.th)) (hv : Ev tv σ H (.int y)) (k : ∀ H', GameAt A H' L { m with behind := m.behind + y } → Fr [L.th] H H' → D.nx σ H') : sFldAug K ta tv rAdd "behind" D σ H := let ⟨dx, e⟩ := h.th; s_fldaug ha hv e T.clH T.aH_behind lH_behind rv_add (by show 3 < 1000; decide) (fun H1 s => k _ ((h.same s).setH fr_upd ⟨dx, upd_same.trans (congrArg (fun q => some (HO.ins A.cH dx q)) sH_behind)⟩ rfl rfl rfl rfl) ((Fr.of s).trans fr_upd))
theorem decH_behind (T : Txt K mg A) (h : GameAt A H L m) (ha : Ev ta σ H (.ref L.th)) (hv : Ev tv σ H (.int y)) (k : ∀ H', GameAt A H' L { m with behind := m.behind - y } → Fr [L.th] H H' → D.nx σ H') : sFldAug K ta tv rSub "behind" D σ H := let ⟨dx, e⟩ := h.th; s_fldaug ha hv e T.clH T.aH_behind lH_behind rv_sub (by show 3 < 1000; decide) (fun H1 s => k _ ((h.same s).setH fr_upd ⟨dx, upd_same.trans (congrArg (fun q => some (HO.ins A.cH dx q)) sH_behind)⟩ rfl rfl rfl rfl) ((Fr.of s).trans fr_upd))
theorem fG_teams (T : Txt K mg A) (h : GameAt A H L m) : Fd K H L.g "teams" (.ref L.tl) := let ⟨dx, e⟩ := h.g; ⟨_, dx, _, e, T.clG, T.aG_teams, lG_teams⟩
theorem fG_clock (T : Txt K mg A) (h : GameAt A H L m) : Fd K H L.g "clock" (.ref L.c) := let ⟨dx, e⟩ := h.g; ⟨_, dx, _, e, T.clG, T.aG_clock, lG_clock⟩
theorem fG_throws (T : Txt K mg A) (h : GameAt A H L m) : Fd K H L.g "throws" (.ref L.th) := let ⟨dx, e⟩ := h.g; ⟨_, dx, _, e, T.clG, T.aG_throws, lG_throws⟩
theorem fG_ball (T : Txt K mg A) (h : GameAt A H L m) : Fd K H L.g "ball" (.int m.ball) := let ⟨dx, e⟩ := h.g; ⟨_, dx, _, e, T.clG, T.aG_ball, lG_ball⟩
theorem wG_ball (T : Txt K mg A) (h : GameAt A H L m) {z : Int} (hv : Ev tv σ H (.int z)) (ha : Ev ta σ H (.ref L.g)) (k : ∀ H', GameAt A H' L { m with ball := z } → Fr [L.g] H H' → D.nx σ H') : sFld K ta tv "ball" D σ H := let ⟨dx, e⟩ := h.g; s_fld hv ha e T.clG T.aG_ball (by show 8 < 1000; decide) (fun H1 s => k _ ((h.same s).setG fr_upd ⟨dx, upd_same.trans (congrArg (fun q => some (HO.ins A.cG dx q)) sG_ball)⟩ rfl rfl rfl rfl) ((Fr.of s).trans fr_upd))
theorem addG_ball (T : Txt K mg A) (h : GameAt A H L m) (ha : Ev ta σ H (.ref L.g)) (hv : Ev tv σ H (.int y)) (k : ∀ H', GameAt A H' L { m with ball := m.ball + y } → Fr [L.g] H H' → D.nx σ H') : sFldAug K ta tv rAdd "ball" D σ H := let ⟨dx, e⟩ := h.g; s_fldaug ha hv e T.clG T.aG_ball lG_ball rv_add (by show 8 < 1000; decide) (fun H1 s => k _ ((h.same s).setG fr_upd ⟨dx, upd_same.trans (congrArg (fun q => some (HO.ins A.cG dx q)) sG_ball)⟩ rfl rfl rfl rfl) ((Fr.of s).trans fr_upd))
theorem decG_ball (T : Txt K mg A) (h : GameAt A H L m) (ha : Ev ta σ H (.ref L.g)) (hv : Ev tv σ H (.int y)) (k : ∀ H', GameAt A H' L { m with ball := m.ball - y } → Fr [L.g] H H' → D.nx σ H') : sFldAug K ta tv rSub "ball" D σ H := let ⟨dx, e⟩ := h.g; s_fldaug ha hv e T.clG T.aG_ball lG_ball rv_sub (by show 8 < 1000; decide) (fun H1 s => k _ ((h.same s).setG fr_upd ⟨dx, upd_same.trans (congrArg (fun q => some (HO.ins A.cG dx q)) sG_ball)⟩ rfl rfl rfl rfl) ((Fr.of s).trans fr_upd))
theorem fG_arrow (T : Txt K mg A) (h : GameAt A H L m) : Fd K H L.g "arrow" (.int m.arrow) := let ⟨dx, e⟩ := h.g; ⟨_, dx, _, e, T.clG, T.aG_arrow, lG_arrow⟩
theorem wG_arrow (T : Txt K mg A) (h : GameAt A H L m) {z : Int} (hv : Ev tv σ H (.int z)) (ha : Ev ta σ H (.ref L.g)) (k : ∀ H', GameAt A H' L { m with arrow := z } → Fr [L.g] H H' → D.nx σ H') : sFld K ta tv "arrow" D σ H := let ⟨dx, e⟩ := h.g; s_fld hv ha e T.clG T.aG_arrow (by show 8 < 1000; decide) (fun H1 s => k _ ((h.same s).setG fr_upd ⟨dx, upd_same.trans (congrArg (fun q => some (HO.ins A.cG dx q)) sG_arrow)⟩ rfl rfl rfl rfl) ((Fr.of s).trans fr_upd))
theorem addG_arrow (T : Txt K mg A) (h : GameAt A H L m) (ha : Ev ta σ H (.ref L.g)) (hv : Ev tv σ H (.int y)) (k : ∀ H', GameAt A H' L { m with arrow := m.arrow + y } → Fr [L.g] H H' → D.nx σ H') : sFldAug K ta tv rAdd "arrow" D σ H := let ⟨dx, e⟩ := h.g; s_fldaug ha hv e T.clG T.aG_arrow lG_arrow rv_add (by show 8 < 1000; decide) (fun H1 s => k _ ((h.same s).setG fr_upd ⟨dx, upd_same.trans (congrArg (fun q => some (HO.ins A.cG dx q)) sG_arrow)⟩ rfl rfl rfl rfl) ((Fr.of s).trans fr_upd))
theorem decG_arrow (T : Txt K mg A) (h : GameAt A H L m) (ha : Ev ta σ H (.ref L.g)) (hv : Ev tv σ H (.int y)) (k : ∀ H', GameAt A H' L { m with arrow := m.arrow - y } → Fr [L.g] H H' → D.nx σ H') : sFldAug K ta tv rSub "arrow" D σ H := let ⟨dx, e⟩ := h.g; s_fldaug ha hv e T.clG T.aG_arrow lG_arrow rv_sub (by show 8 < 1000; decide) (fun H1 s => k _ ((h.same s).setG fr_upd ⟨dx, upd_same.trans (congrArg (fun q => some (HO.ins A.cG dx q)) sG_arrow)⟩ rfl rfl rfl rfl) ((Fr.of s).trans fr_upd))
theorem fG_missed (T : Txt K mg A) (h : GameAt A H L m) : Fd K H L.g "missed" (.int m.missed) := let ⟨dx, e⟩ := h.g; ⟨_, dx, _, e, T.clG, T.aG_missed, lG_missed⟩
theorem wG_missed (T : Txt K mg A) (h : GameAt A H L m) {z : Int} (hv : Ev tv σ H (.int z)) (ha : Ev ta σ H (.ref L.g)) (k : ∀ H', GameAt A H' L { m with missed := z } → Fr [L.g] H H' → D.nx σ H') : sFld K ta tv "missed" D σ H := let ⟨dx, e⟩ := h.g; s_fld hv ha e T.clG T.aG_missed (by show 8 < 1000; decide) (fun H1 s => k _ ((h.same s).setG fr_upd ⟨dx, upd_same.trans (congrArg (fun q => some (HO.ins A.cG dx q)) sG_missed)⟩ rfl rfl rfl rfl) ((Fr.of s).trans fr_upd))
theorem addG_missed (T : Txt K mg A) (h : GameAt A H L m) (ha : Ev ta σ H (.ref L.g)) (hv : Ev tv σ H (.int y)) (k : ∀ H', GameAt A H' L { m with missed := m.missed + y } → Fr [L.g] H H' → D.nx σ H') : sFldAug K ta tv rAdd "missed" D σ H := let ⟨dx, e⟩ := h.g; s_fldaug ha hv e T.clG T.aG_missed lG_missed rv_add (by show 8 < 1000; decide) (fun H1 s => k _ ((h.same s).setG fr_upd ⟨dx, upd_same.trans (congrArg (fun q => some (HO.ins A.cG dx q)) sG_missed)⟩ rfl rfl rfl rfl) ((Fr.of s).trans fr_upd))
theorem decG_missed (T : Txt K mg A) (h : GameAt A H L m) (ha : Ev ta σ H (.ref L.g)) (hv : Ev tv σ H (.int y)) (k : ∀ H', GameAt A H' L { m with missed := m.missed - y } → Fr [L.g] H H' → D.nx σ H') : sFldAug K ta tv rSub "missed" D σ H := let ⟨dx, e⟩ := h.g; s_fldaug ha hv e T.clG T.aG_missed lG_missed rv_sub (by show 8 < 1000; decide) (fun H1 s => k _ ((h.same s).setG fr_upd ⟨dx, upd_same.trans (congrArg (fun q => some (HO.ins A.cG dx q)) sG_missed)⟩ rfl rfl rfl rfl) ((Fr.of s).trans fr_upd))
theorem fG_ring (T : Txt K mg A) (h : GameAt A H L m) : Fd K H L.g "ring" (.int m.ring) := let ⟨dx, e⟩ := h.g; ⟨_, dx, _, e, T.clG, T.aG_ring, lG_ring⟩
theorem wG_ring (T : Txt K mg A) (h : GameAt A H L m) {z : Int} (hv : Ev tv σ H (.int z)) (ha : Ev ta σ H (.ref L.g)) (k : ∀ H', GameAt A H' L { m with ring := z } → Fr [L.g] H H' → D.nx σ H') : sFld K ta tv "ring" D σ H := let ⟨dx, e⟩ := h.g; s_fld hv ha e T.clG T.aG_ring (by show 8 < 1000; decide) (fun H1 s => k _ ((h.same s).setG fr_upd ⟨dx, upd_same.trans (congrArg (fun q => some (HO.ins A.cG dx q)) sG_ring)⟩ rfl rfl rfl rfl) ((Fr.of s).trans fr_upd))
theorem addG_ring (T : Txt K mg A) (h : GameAt A H L m) (ha : Ev ta σ H (.ref L.g)) (hv : Ev tv σ H (.int y)) (k : ∀ H', GameAt A H' L { m with ring := m.ring + y } → Fr [L.g] H H' → D.nx σ H') : sFldAug K ta tv rAdd "ring" D σ H := let ⟨dx, e⟩ := h.g; s_fldaug ha hv e T.clG T.aG_ring lG_ring rv_add (by show 8 < 1000; decide) (fun H1 s => k _ ((h.same s).setG fr_upd ⟨dx, upd_same.trans (congrArg (fun q => some (HO.ins A.cG dx q)) sG_ring)⟩ rfl rfl rfl rfl) ((Fr.of s).trans fr_upd))
theorem decG_ring (T : Txt K mg A) (h : GameAt A H L m) (ha : Ev ta σ H (.ref L.g)) (hv : Ev tv σ H (.int y)) (k : ∀ H', GameAt A H' L { m with ring := m.ring - y } → Fr [L.g] H H' → D.nx σ H') : sFldAug K ta tv rSub "ring" D σ H := let ⟨dx, e⟩ := h.g; s_fldaug ha hv e T.clG T.aG_ring lG_ring rv_sub (by show 8 < 1000; decide) (fun H1 s => k _ ((h.same s).setG fr_upd ⟨dx, upd_same.trans (congrArg (fun q => some (HO.ins A.cG dx q)) sG_ring)⟩ rfl rfl rfl rfl) ((Fr.of s).trans fr_upd))
theorem fG_winner (T : Txt K mg A) (h : GameAt A H L m) : Fd K H L.g "winner" (.int m.winner) := let ⟨dx, e⟩ := h.g; ⟨_, dx, _, e, T.clG, T.aG_winner, lG_winner⟩
theorem wG_winner (T : Txt K mg A) (h : GameAt A H L m) {z : Int} (hv : Ev tv σ H (.int z)) (ha : Ev ta σ H (.ref L.g)) (k : ∀ H', GameAt A H' L { m with winner := z } → Fr [L.g] H H' → D.nx σ H') : sFld K ta tv "winner" D σ H := let ⟨dx, e⟩ := h.g; s_fld hv ha e T.clG T.aG_winner (by show 8 < 1000; decide) (fun H1 s => k _ ((h.same s).setG fr_upd ⟨dx, upd_same.trans (congrArg (fun q => some (HO.ins A.cG dx q)) sG_winner)⟩ rfl rfl rfl rfl) ((Fr.of s).trans fr_upd))
theorem addG_winner (T : Txt K mg A) (h : GameAt A H L m) (ha : Ev ta σ H (.ref L.g)) (hv : Ev tv σ H (.int y)) (k : ∀ H', GameAt A H' L { m with winner := m.winner + y } → Fr [L.g] H H' → D.nx σ H') : sFldAug K ta tv rAdd "winner" D σ H := let ⟨dx, e⟩ := h.g; s_fldaug ha hv e T.clG T.aG_winner lG_winner rv_add (by show 8 < 1000; decide) (fun H1 s => k _ ((h.same s).setG fr_upd ⟨dx, upd_same.trans (congrArg (fun q => some (HO.ins A.cG dx q)) sG_winner)⟩ rfl rfl rfl rfl) ((Fr.of s).trans fr_upd))
theorem decG_winner (T : Txt K mg A) (h : GameAt A H L m) (ha : Ev ta σ H (.ref L.g)) (hv : Ev tv σ H (.int y)) (k : ∀ H', GameAt A H' L { m with winner := m.winner - y } → Fr [L.g] H H' → D.nx σ H') : sFldAug K ta tv rSub "winner" D σ H := let ⟨dx, e⟩ := h.g; s_fldaug ha hv e T.clG T.aG_winner lG_winner rv_sub (by show 8 < 1000; decide) (fun H1 s => k _ ((h.same s).setG fr_upd ⟨dx, upd_same.trans (congrArg (fun q => some (HO.ins A.cG dx q)) sG_winner)⟩ rfl rfl rfl rfl) ((Fr.of s).trans fr_upd))
end
end CtW
/-! The promises. -/
namespace CtW
open PySem PySem.Spec PyProof.Rows L2
/-- a new list of whole numbers is handed back, all else as it was -/
def NewL (H : Hp) (ns : List Int) (Q : VK) : Prop := ∀ H' q, Same H H' → H q = none → H' q = some (.lst (ns.map V.int)) → Q (.ref q) H'
/-- a value is handed back, all as it was -/
def Val (H : Hp) (v : V) (Q : VK) : Prop := ∀ H', Same H H' → Q v H'
/-- the game changed -/
def GProc (A : Ad) (L : GL) (H : Hp) (m : Ct.Gm) (Q : VK) : Prop := ∀ H', GameAt A H' L m → Fr L.own H H' → Q .non H'
def FrO (L : GL) : Option Ct.Gm → Hp → Hp → Prop
  | none => Same
  | some _ => Fr L.own
theorem FrO.of {L : GL} {o : Option Ct.Gm} {H H' : Hp} (h : Same H H') : FrO L o H H' := by
  cases o with
  | none => exact h
  | some m => exact Fr.of h
/-- the game changed, a new list of whole numbers handed back -/
def Ans (A : Ad) (L : GL) (v : V) (o : Option Ct.Gm) (H : Hp) (r : Ct.Rs) (Q : VK) : Prop := ∀ H' q, GmO A H' L v r.1 → FrO L o H H' → H q = none → H' q = some (.lst (r.2.map V.int)) → Q (.ref q) H'
def ClAt (H0 H : Hp) (t : Addr) (c : Ct.Cl) : Prop := ∃ p1 p2, H0 p1 = none ∧ H0 p2 = none ∧ H t = some (.tup [.int c.word, .ref p1, .ref p2]) ∧ H p1 = some (.lst (c.nums.map V.int)) ∧ H p2 = some (.lst (c.more.map V.int))
structure ClsAt (H0 H : Hp) (ts : List Addr) (cs : List Ct.Cl) : Prop where
  len : ts.length = cs.length
  at_ : ∀ (i : Nat) t c, ts[i]? = some t → cs[i]? = some c → ClAt H0 H t c

def sp_init_Player (K : PySem.W.Frag) (A : Ad) : Sp := fun vs H Q _ => ∃ (a dx : Addr) (n : Int) (c : Bool), vs = [.ref a, .int n, .bl c] ∧ H a = some (.ins A.cP dx []) ∧ ∀ H', PlAt A H' a (Ct.Pl.fresh n c) → Fr [a] H H' → Q .non H'
theorem len_init_Player {K : PySem.W.Frag} {A : Ad} {vs : List V} {H : Hp} {Q : VK} {E : XK} (h : sp_init_Player K A vs H Q E) : vs.length = 3 := by
  obtain ⟨_, _, _, _, rfl, _⟩ := h
  rfl
def sp_is_out (K : PySem.W.Frag) (A : Ad) : Sp := fun vs H Q _ => ∃ (a : Addr) (p : Ct.Pl), vs = [.ref a] ∧ PlAt A H a p ∧ Val H (.bl p.isOut) Q
theorem len_is_out {K : PySem.W.Frag} {A : Ad} {vs : List V} {H : Hp} {Q : VK} {E : XK} (h : sp_is_out K A vs H Q E) : vs.length = 1 := by
  obtain ⟨_, _, rfl, _⟩ := h
  rfl
def sp_is_on_bench (K : PySem.W.Frag) (A : Ad) : Sp := fun vs H Q _ => ∃ (a : Addr) (p : Ct.Pl), vs = [.ref a] ∧ PlAt A H a p ∧ Val H (.bl p.isBench) Q
theorem len_is_on_bench {K : PySem.W.Frag} {A : Ad} {vs : List V} {H : Hp} {Q : VK} {E : XK} (h : sp_is_on_bench K A vs H Q E) : vs.length = 1 := by
  obtain ⟨_, _, rfl, _⟩ := h
  rfl
def sp_note_foul (K : PySem.W.Frag) (A : Ad) : Sp := fun vs H Q _ => ∃ (a : Addr) (p : Ct.Pl) (k : Int), vs = [.ref a, .int k] ∧ PlAt A H a p ∧ ∀ H', PlAt A H' a (p.noted k) → Fr [a] H H' → Q .non H'
theorem len_note_foul {K : PySem.W.Frag} {A : Ad} {vs : List V} {H : Hp} {Q : VK} {E : XK} (h : sp_note_foul K A vs H Q E) : vs.length = 2 := by
  obtain ⟨_, _, _, rfl, _⟩ := h
  rfl
def sp_written (K : PySem.W.Frag) (A : Ad) : Sp := fun vs H Q _ => ∃ (a : Addr) (p : Ct.Pl), vs = [.ref a] ∧ PlAt A H a p ∧ NewL H p.written Q
theorem len_written {K : PySem.W.Frag} {A : Ad} {vs : List V} {H : Hp} {Q : VK} {E : XK} (h : sp_written K A vs H Q E) : vs.length = 1 := by
  obtain ⟨_, _, rfl, _⟩ := h
  rfl
def sp_other (K : PySem.W.Frag) (A : Ad) : Sp := fun vs H Q _ => ∃ (s : Int), vs = [.int s] ∧ Val H (.int (1 - s)) Q
theorem len_other {K : PySem.W.Frag} {A : Ad} {vs : List V} {H : Hp} {Q : VK} {E : XK} (h : sp_other K A vs H Q E) : vs.length = 1 := by
  obtain ⟨_, rfl, _⟩ := h
  rfl
def sp_is_side (K : PySem.W.Frag) (A : Ad) : Sp := fun vs H Q _ => ∃ (n : Int), vs = [.int n] ∧ Val H (.bl (Ct.isSide n)) Q
theorem len_is_side {K : PySem.W.Frag} {A : Ad} {vs : List V} {H : Hp} {Q : VK} {E : XK} (h : sp_is_side K A vs H Q E) : vs.length = 1 := by
  obtain ⟨_, rfl, _⟩ := h
  rfl
def sp_is_number (K : PySem.W.Frag) (A : Ad) : Sp := fun vs H Q _ => ∃ (n : Int), vs = [.int n] ∧ Val H (.bl (Ct.isNumber n)) Q
theorem len_is_number {K : PySem.W.Frag} {A : Ad} {vs : List V} {H : Hp} {Q : VK} {E : XK} (h : sp_is_number K A vs H Q E) : vs.length = 1 := by
  obtain ⟨_, rfl, _⟩ := h
  rfl
def sp_is_truth (K : PySem.W.Frag) (A : Ad) : Sp := fun vs H Q _ => ∃ (n : Int), vs = [.int n] ∧ Val H (.bl (Ct.isSide n)) Q
theorem len_is_truth {K : PySem.W.Frag} {A : Ad} {vs : List V} {H : Hp} {Q : VK} {E : XK} (h : sp_is_truth K A vs H Q E) : vs.length = 1 := by
  obtain ⟨_, rfl, _⟩ := h
  rfl
def sp_init_Team (K : PySem.W.Frag) (A : Ad) : Sp := fun vs H Q _ => ∃ (a dx l : Addr) (ns : List Int), vs = [.ref a, .ref l] ∧ H a = some (.ins A.cT dx []) ∧ SqL K H l (ns.map V.int) ∧ ns.length ≤ 12 ∧ ∀ H' x, x.t = a → TmAt A H' x (Ct.Tm.fresh ns) → x.own.Nodup → (∀ b ∈ x.own, b = a ∨ H b = none) → Fr [a] H H' → Q .non H'
theorem len_init_Team {K : PySem.W.Frag} {A : Ad} {vs : List V} {H : Hp} {Q : VK} {E : XK} (h : sp_init_Team K A vs H Q E) : vs.length = 2 := by
  obtain ⟨_, _, _, _, rfl, _⟩ := h
  rfl
def sp_are_players (K : PySem.W.Frag) (A : Ad) : Sp := fun vs H Q _ => ∃ (l : Addr) (ns : List Int), vs = [.ref l] ∧ SqL K H l (ns.map V.int) ∧ ∀ H', Same H H' → Q (.bl (Ct.arePlayers ns)) H'
theorem len_are_players {K : PySem.W.Frag} {A : Ad} {vs : List V} {H : Hp} {Q : VK} {E : XK} (h : sp_are_players K A vs H Q E) : vs.length = 1 := by
  obtain ⟨_, _, rfl, _⟩ := h
  rfl
def sp_points_of (K : PySem.W.Frag) (A : Ad) : Sp := fun vs H Q _ => ∃ (x : TL) (t : Ct.Tm), vs = [.ref x.t] ∧ TmAt A H x t ∧ ∀ H', Same H H' → Q (.int t.points) H'
theorem len_points_of {K : PySem.W.Frag} {A : Ad} {vs : List V} {H : Hp} {Q : VK} {E : XK} (h : sp_points_of K A vs H Q E) : vs.length = 1 := by
  obtain ⟨_, _, rfl, _⟩ := h
  rfl
def sp_on_court (K : PySem.W.Frag) (A : Ad) : Sp := fun vs H Q _ => ∃ (x : TL) (t : Ct.Tm) (n : Int), vs = [.ref x.t, .int n] ∧ TmAt A H x t ∧ (t.findC n = none → Val H .non Q) ∧ ∀ i a p, t.findC n = some i → x.ps[i]? = some a → t.players[i]? = some p → Val H (.ref a) Q
theorem len_on_court {K : PySem.W.Frag} {A : Ad} {vs : List V} {H : Hp} {Q : VK} {E : XK} (h : sp_on_court K A vs H Q E) : vs.length = 2 := by
  obtain ⟨_, _, _, rfl, _⟩ := h
  rfl
def sp_on_bench (K : PySem.W.Frag) (A : Ad) : Sp := fun vs H Q _ => ∃ (x : TL) (t : Ct.Tm) (n : Int), vs = [.ref x.t, .int n] ∧ TmAt A H x t ∧ (t.findB n = none → Val H .non Q) ∧ ∀ i a p, t.findB n = some i → x.ps[i]? = some a → t.players[i]? = some p → Val H (.ref a) Q
theorem len_on_bench {K : PySem.W.Frag} {A : Ad} {vs : List V} {H : Hp} {Q : VK} {E : XK} (h : sp_on_bench K A vs H Q E) : vs.length = 2 := by
  obtain ⟨_, _, _, rfl, _⟩ := h
  rfl
def sp_many_on_court (K : PySem.W.Frag) (A : Ad) : Sp := fun vs H Q _ => ∃ (x : TL) (t : Ct.Tm), vs = [.ref x.t] ∧ TmAt A H x t ∧ ∀ H', Same H H' → Q (.int t.many) H'
theorem len_many_on_court {K : PySem.W.Frag} {A : Ad} {vs : List V} {H : Hp} {Q : VK} {E : XK} (h : sp_many_on_court K A vs H Q E) : vs.length = 1 := by
  obtain ⟨_, _, rfl, _⟩ := h
  rfl
def sp_is_short (K : PySem.W.Frag) (A : Ad) : Sp := fun vs H Q _ => ∃ (x : TL) (t : Ct.Tm), vs = [.ref x.t] ∧ TmAt A H x t ∧ ∀ H', Same H H' → Q (.bl t.short) H'
theorem len_is_short {K : PySem.W.Frag} {A : Ad} {vs : List V} {H : Hp} {Q : VK} {E : XK} (h : sp_is_short K A vs H Q E) : vs.length = 1 := by
  obtain ⟨_, _, rfl, _⟩ := h
  rfl
def sp_sheet_of (K : PySem.W.Frag) (A : Ad) : Sp := fun vs H Q _ => ∃ (x : TL) (t : Ct.Tm), vs = [.ref x.t] ∧ TmAt A H x t ∧ NewL H t.sheet Q
theorem len_sheet_of {K : PySem.W.Frag} {A : Ad} {vs : List V} {H : Hp} {Q : VK} {E : XK} (h : sp_sheet_of K A vs H Q E) : vs.length = 1 := by
  obtain ⟨_, _, rfl, _⟩ := h
  rfl
def sp_init_Clock (K : PySem.W.Frag) (A : Ad) : Sp := fun vs H Q _ => ∃ (a dx : Addr), vs = [.ref a] ∧ H a = some (.ins A.cC dx []) ∧ ∀ H', (∃ dx, H' a = some (.ins A.cC dx (cF (Ct.Gm.fresh [] [])))) → Fr [a] H H' → Q .non H'
theorem len_init_Clock {K : PySem.W.Frag} {A : Ad} {vs : List V} {H : Hp} {Q : VK} {E : XK} (h : sp_init_Clock K A vs H Q E) : vs.length = 1 := by
  obtain ⟨_, _, rfl, _⟩ := h
  rfl
def sp_init_Throws (K : PySem.W.Frag) (A : Ad) : Sp := fun vs H Q _ => ∃ (a dx : Addr), vs = [.ref a] ∧ H a = some (.ins A.cH dx []) ∧ ∀ H', (∃ dx, H' a = some (.ins A.cH dx (hF (Ct.Gm.fresh [] [])))) → Fr [a] H H' → Q .non H'
theorem len_init_Throws {K : PySem.W.Frag} {A : Ad} {vs : List V} {H : Hp} {Q : VK} {E : XK} (h : sp_init_Throws K A vs H Q E) : vs.length = 1 := by
  obtain ⟨_, _, rfl, _⟩ := h
  rfl
def sp_init_Game (K : PySem.W.Frag) (A : Ad) : Sp := fun vs H Q _ => ∃ (a dx l l2 : Addr) (xs ys : List Int), vs = [.ref a, .ref l, .ref l2] ∧ H a = some (.ins A.cG dx []) ∧ SqL K H l (xs.map V.int) ∧ SqL K H l2 (ys.map V.int) ∧ xs.length ≤ 12 ∧ ys.length ≤ 12 ∧ ∀ H' L, L.g = a → GameAt A H' L (Ct.Gm.fresh xs ys) → (∀ b ∈ L.own, b = a ∨ H b = none) → Fr [a] H H' → Q .non H'
theorem len_init_Game {K : PySem.W.Frag} {A : Ad} {vs : List V} {H : Hp} {Q : VK} {E : XK} (h : sp_init_Game K A vs H Q E) : vs.length = 3 := by
  obtain ⟨_, _, _, _, _, _, rfl, _⟩ := h
  rfl
def sp_stands (K : PySem.W.Frag) (A : Ad) : Sp := fun vs H Q _ => ∃ (v : V) (L : GL) (o : Option Ct.Gm), vs = [v] ∧ GmO A H L v o ∧ NewL H (Ct.standsO o) Q
theorem len_stands {K : PySem.W.Frag} {A : Ad} {vs : List V} {H : Hp} {Q : VK} {E : XK} (h : sp_stands K A vs H Q E) : vs.length = 1 := by
  obtain ⟨_, _, _, rfl, _⟩ := h
  rfl
def sp_is_played (K : PySem.W.Frag) (A : Ad) : Sp := fun vs H Q _ => ∃ (v : V) (L : GL) (o : Option Ct.Gm), vs = [v] ∧ GmO A H L v o ∧ Val H (.bl (Ct.isPlayed o)) Q
theorem len_is_played {K : PySem.W.Frag} {A : Ad} {vs : List V} {H : Hp} {Q : VK} {E : XK} (h : sp_is_played K A vs H Q E) : vs.length = 1 := by
  obtain ⟨_, _, _, rfl, _⟩ := h
  rfl
def sp_refusal (K : PySem.W.Frag) (A : Ad) : Sp := fun vs H Q _ => ∃ (v : V) (L : GL) (o : Option Ct.Gm) (r : Bool), vs = [v, .bl r] ∧ GmO A H L v o ∧ Val H (.int (Ct.refusal o r)) Q
theorem len_refusal {K : PySem.W.Frag} {A : Ad} {vs : List V} {H : Hp} {Q : VK} {E : XK} (h : sp_refusal K A vs H Q E) : vs.length = 2 := by
  obtain ⟨_, _, _, _, rfl, _⟩ := h
  rfl
def sp_is_any_short (K : PySem.W.Frag) (A : Ad) : Sp := fun vs H Q _ => ∃ (L : GL) (m : Ct.Gm), vs = [.ref L.g] ∧ GameAt A H L m ∧ ∀ H', Same H H' → Q (.bl m.anyShort) H'
theorem len_is_any_short {K : PySem.W.Frag} {A : Ad} {vs : List V} {H : Hp} {Q : VK} {E : XK} (h : sp_is_any_short K A vs H Q E) : vs.length = 1 := by
  obtain ⟨_, _, rfl, _⟩ := h
  rfl
def sp_refusal_in_play (K : PySem.W.Frag) (A : Ad) : Sp := fun vs H Q _ => ∃ (v : V) (L : GL) (o : Option Ct.Gm) (r : Bool), vs = [v, .bl r] ∧ GmO A H L v o ∧ ∀ H', Same H H' → Q (.int (Ct.refusalP o r)) H'
theorem len_refusal_in_play {K : PySem.W.Frag} {A : Ad} {vs : List V} {H : Hp} {Q : VK} {E : XK} (h : sp_refusal_in_play K A vs H Q E) : vs.length = 2 := by
  obtain ⟨_, _, _, _, rfl, _⟩ := h
  rfl
def sp_give_ball (K : PySem.W.Frag) (A : Ad) : Sp := fun vs H Q _ => ∃ (L : GL) (m : Ct.Gm) (s t : Int), vs = [.ref L.g, .int s, .int t] ∧ GameAt A H L m ∧ GProc A L H (m.give s t) Q
theorem len_give_ball {K : PySem.W.Frag} {A : Ad} {vs : List V} {H : Hp} {Q : VK} {E : XK} (h : sp_give_ball K A vs H Q E) : vs.length = 3 := by
  obtain ⟨_, _, _, _, rfl, _⟩ := h
  rfl
def sp_miss_by (K : PySem.W.Frag) (A : Ad) : Sp := fun vs H Q _ => ∃ (L : GL) (m : Ct.Gm) (s r : Int), vs = [.ref L.g, .int s, .int r] ∧ GameAt A H L m ∧ GProc A L H (m.missBy s r) Q
theorem len_miss_by {K : PySem.W.Frag} {A : Ad} {vs : List V} {H : Hp} {Q : VK} {E : XK} (h : sp_miss_by K A vs H Q E) : vs.length = 3 := by
  obtain ⟨_, _, _, _, rfl, _⟩ := h
  rfl
def sp_end_game (K : PySem.W.Frag) (A : Ad) : Sp := fun vs H Q _ => ∃ (L : GL) (m : Ct.Gm) (s : Int), vs = [.ref L.g, .int s] ∧ GameAt A H L m ∧ GProc A L H (m.over s) Q
theorem len_end_game {K : PySem.W.Frag} {A : Ad} {vs : List V} {H : Hp} {Q : VK} {E : XK} (h : sp_end_game K A vs H Q E) : vs.length = 2 := by
  obtain ⟨_, _, _, rfl, _⟩ := h
  rfl
def sp_turn_arrow (K : PySem.W.Frag) (A : Ad) : Sp := fun vs H Q _ => ∃ (L : GL) (m : Ct.Gm), vs = [.ref L.g] ∧ GameAt A H L m ∧ GProc A L H m.turn Q
theorem len_turn_arrow {K : PySem.W.Frag} {A : Ad} {vs : List V} {H : Hp} {Q : VK} {E : XK} (h : sp_turn_arrow K A vs H Q E) : vs.length = 1 := by
  obtain ⟨_, _, rfl, _⟩ := h
  rfl
def sp_count_anew (K : PySem.W.Frag) (A : Ad) : Sp := fun vs H Q _ => ∃ (a l : Addr) (t : Ct.Tm) (p : Int), vs = [.ref a, .int p] ∧ TH A H a l t ∧ ∀ H', TH A H' a l (t.anew p) → Fr [a] H H' → Q .non H'
theorem len_count_anew {K : PySem.W.Frag} {A : Ad} {vs : List V} {H : Hp} {Q : VK} {E : XK} (h : sp_count_anew K A vs H Q E) : vs.length = 2 := by
  obtain ⟨_, _, _, _, rfl, _⟩ := h
  rfl
def sp_begin_period (K : PySem.W.Frag) (A : Ad) : Sp := fun vs H Q _ => ∃ (L : GL) (m : Ct.Gm), vs = [.ref L.g] ∧ GameAt A H L m ∧ GProc A L H m.nextP Q
theorem len_begin_period {K : PySem.W.Frag} {A : Ad} {vs : List V} {H : Hp} {Q : VK} {E : XK} (h : sp_begin_period K A vs H Q E) : vs.length = 1 := by
  obtain ⟨_, _, rfl, _⟩ := h
  rfl
def sp_end_period (K : PySem.W.Frag) (A : Ad) : Sp := fun vs H Q _ => ∃ (L : GL) (m : Ct.Gm), vs = [.ref L.g] ∧ GameAt A H L m ∧ GProc A L H m.endP Q
theorem len_end_period {K : PySem.W.Frag} {A : Ad} {vs : List V} {H : Hp} {Q : VK} {E : XK} (h : sp_end_period K A vs H Q E) : vs.length = 1 := by
  obtain ⟨_, _, rfl, _⟩ := h
  rfl
def sp_sub (K : PySem.W.Frag) (A : Ad) : Sp := fun vs H Q _ => ∃ (v : V) (L : GL) (o : Option Ct.Gm) (s x y : Int), vs = [v, .int s, .int x, .int y] ∧ GmO A H L v o ∧ Ans A L v o H (Ct.sub o s x y) Q
theorem len_sub {K : PySem.W.Frag} {A : Ad} {vs : List V} {H : Hp} {Q : VK} {E : XK} (h : sp_sub K A vs H Q E) : vs.length = 4 := by
  obtain ⟨_, _, _, _, _, _, rfl, _⟩ := h
  rfl
def sp_enter (K : PySem.W.Frag) (A : Ad) : Sp := fun vs H Q _ => ∃ (v : V) (L : GL) (o : Option Ct.Gm) (s x : Int), vs = [v, .int s, .int x] ∧ GmO A H L v o ∧ Ans A L v o H (Ct.enter o s x) Q
theorem len_enter {K : PySem.W.Frag} {A : Ad} {vs : List V} {H : Hp} {Q : VK} {E : XK} (h : sp_enter K A vs H Q E) : vs.length = 3 := by
  obtain ⟨_, _, _, _, _, rfl, _⟩ := h
  rfl
def sp_most_timeouts (K : PySem.W.Frag) (A : Ad) : Sp := fun vs H Q _ => ∃ (p : Int), vs = [.int p] ∧ Val H (.int (Ct.mostT p)) Q
theorem len_most_timeouts {K : PySem.W.Frag} {A : Ad} {vs : List V} {H : Hp} {Q : VK} {E : XK} (h : sp_most_timeouts K A vs H Q E) : vs.length = 1 := by
  obtain ⟨_, rfl, _⟩ := h
  rfl
def sp_timeout (K : PySem.W.Frag) (A : Ad) : Sp := fun vs H Q _ => ∃ (v : V) (L : GL) (o : Option Ct.Gm) (s : Int), vs = [v, .int s] ∧ GmO A H L v o ∧ Ans A L v o H (Ct.timeout o s) Q
theorem len_timeout {K : PySem.W.Frag} {A : Ad} {vs : List V} {H : Hp} {Q : VK} {E : XK} (h : sp_timeout K A vs H Q E) : vs.length = 2 := by
  obtain ⟨_, _, _, _, rfl, _⟩ := h
  rfl
def sp_sheet (K : PySem.W.Frag) (A : Ad) : Sp := fun vs H Q _ => ∃ (v : V) (L : GL) (o : Option Ct.Gm) (s : Int), vs = [v, .int s] ∧ GmO A H L v o ∧ NewL H (Ct.sheet o s).2 Q
theorem len_sheet {K : PySem.W.Frag} {A : Ad} {vs : List V} {H : Hp} {Q : VK} {E : XK} (h : sp_sheet K A vs H Q E) : vs.length = 2 := by
  obtain ⟨_, _, _, _, rfl, _⟩ := h
  rfl
def sp_throws_for (K : PySem.W.Frag) (A : Ad) : Sp := fun vs H Q _ => ∃ (L : GL) (m : Ct.Gm) (s n b : Int), vs = [.ref L.g, .int s, .int n, .int b] ∧ GameAt A H L m ∧ GProc A L H (m.throwsFor s n b) Q
theorem len_throws_for {K : PySem.W.Frag} {A : Ad} {vs : List V} {H : Hp} {Q : VK} {E : XK} (h : sp_throws_for K A vs H Q E) : vs.length = 4 := by
  obtain ⟨_, _, _, _, _, rfl, _⟩ := h
  rfl
def sp_bring (K : PySem.W.Frag) (A : Ad) : Sp := fun vs H Q _ => ∃ (L : GL) (m : Ct.Gm) (s k z : Int), vs = [.ref L.g, .int s, .int k, .int z] ∧ GameAt A H L m ∧ Ct.isSide s = true ∧ GProc A L H (m.bring s k z) Q
theorem len_bring {K : PySem.W.Frag} {A : Ad} {vs : List V} {H : Hp} {Q : VK} {E : XK} (h : sp_bring K A vs H Q E) : vs.length = 4 := by
  obtain ⟨_, _, _, _, _, rfl, _⟩ := h
  rfl
def sp_is_right_foul (K : PySem.W.Frag) (A : Ad) : Sp := fun vs H Q _ => ∃ (s n k z : Int), vs = [.int s, .int n, .int k, .int z] ∧ Val H (.bl (Ct.rightFoul s n k z)) Q
theorem len_is_right_foul {K : PySem.W.Frag} {A : Ad} {vs : List V} {H : Hp} {Q : VK} {E : XK} (h : sp_is_right_foul K A vs H Q E) : vs.length = 4 := by
  obtain ⟨_, _, _, _, rfl, _⟩ := h
  rfl
def sp_is_shot_strange (K : PySem.W.Frag) (A : Ad) : Sp := fun vs H Q _ => ∃ (L : GL) (m : Ct.Gm) (s k z : Int), vs = [.ref L.g, .int s, .int k, .int z] ∧ GameAt A H L m ∧ Val H (.bl (m.strange s k z)) Q
theorem len_is_shot_strange {K : PySem.W.Frag} {A : Ad} {vs : List V} {H : Hp} {Q : VK} {E : XK} (h : sp_is_shot_strange K A vs H Q E) : vs.length = 4 := by
  obtain ⟨_, _, _, _, _, rfl, _⟩ := h
  rfl
def sp_foul (K : PySem.W.Frag) (A : Ad) : Sp := fun vs H Q _ => ∃ (v : V) (L : GL) (o : Option Ct.Gm) (s n k z : Int), vs = [v, .int s, .int n, .int k, .int z] ∧ GmO A H L v o ∧ Ans A L v o H (Ct.foul o s n k z) Q
theorem len_foul {K : PySem.W.Frag} {A : Ad} {vs : List V} {H : Hp} {Q : VK} {E : XK} (h : sp_foul K A vs H Q E) : vs.length = 5 := by
  obtain ⟨_, _, _, _, _, _, _, rfl, _⟩ := h
  rfl
def sp_go_on_behind (K : PySem.W.Frag) (A : Ad) : Sp := fun vs H Q _ => ∃ (L : GL) (m : Ct.Gm) (g : Int), vs = [.ref L.g, .int g] ∧ GameAt A H L m ∧ GProc A L H (m.behindLast g) Q
theorem len_go_on_behind {K : PySem.W.Frag} {A : Ad} {vs : List V} {H : Hp} {Q : VK} {E : XK} (h : sp_go_on_behind K A vs H Q E) : vs.length = 2 := by
  obtain ⟨_, _, _, rfl, _⟩ := h
  rfl
def sp_throw (K : PySem.W.Frag) (A : Ad) : Sp := fun vs H Q _ => ∃ (v : V) (L : GL) (o : Option Ct.Gm) (n g : Int), vs = [v, .int n, .int g] ∧ GmO A H L v o ∧ Ct.OkO o ∧ Ans A L v o H (Ct.throw_ o n g) Q
theorem len_throw {K : PySem.W.Frag} {A : Ad} {vs : List V} {H : Hp} {Q : VK} {E : XK} (h : sp_throw K A vs H Q E) : vs.length = 3 := by
  obtain ⟨_, _, _, _, _, rfl, _⟩ := h
  rfl
def sp_tip (K : PySem.W.Frag) (A : Ad) : Sp := fun vs H Q _ => ∃ (v : V) (L : GL) (o : Option Ct.Gm) (s : Int), vs = [v, .int s] ∧ GmO A H L v o ∧ Ans A L v o H (Ct.tip o s) Q
theorem len_tip {K : PySem.W.Frag} {A : Ad} {vs : List V} {H : Hp} {Q : VK} {E : XK} (h : sp_tip K A vs H Q E) : vs.length = 2 := by
  obtain ⟨_, _, _, _, rfl, _⟩ := h
  rfl
def sp_time_to_stop (K : PySem.W.Frag) (A : Ad) : Sp := fun vs H Q _ => ∃ (L : GL) (m : Ct.Gm), vs = [.ref L.g] ∧ GameAt A H L m ∧ Val H (.int m.toStop) Q
theorem len_time_to_stop {K : PySem.W.Frag} {A : Ad} {vs : List V} {H : Hp} {Q : VK} {E : XK} (h : sp_time_to_stop K A vs H Q E) : vs.length = 1 := by
  obtain ⟨_, _, rfl, _⟩ := h
  rfl
def sp_let_run (K : PySem.W.Frag) (A : Ad) : Sp := fun vs H Q _ => ∃ (L : GL) (m : Ct.Gm) (t : Int), vs = [.ref L.g, .int t] ∧ GameAt A H L m ∧ GProc A L H (m.letRun t) Q
theorem len_let_run {K : PySem.W.Frag} {A : Ad} {vs : List V} {H : Hp} {Q : VK} {E : XK} (h : sp_let_run K A vs H Q E) : vs.length = 2 := by
  obtain ⟨_, _, _, rfl, _⟩ := h
  rfl
def sp_run (K : PySem.W.Frag) (A : Ad) : Sp := fun vs H Q _ => ∃ (v : V) (L : GL) (o : Option Ct.Gm) (t : Int), vs = [v, .int t] ∧ GmO A H L v o ∧ Ans A L v o H (Ct.run o t) Q
theorem len_run {K : PySem.W.Frag} {A : Ad} {vs : List V} {H : Hp} {Q : VK} {E : XK} (h : sp_run K A vs H Q E) : vs.length = 2 := by
  obtain ⟨_, _, _, _, rfl, _⟩ := h
  rfl
def sp_basket (K : PySem.W.Frag) (A : Ad) : Sp := fun vs H Q _ => ∃ (v : V) (L : GL) (o : Option Ct.Gm) (n p : Int), vs = [v, .int n, .int p] ∧ GmO A H L v o ∧ Ct.OkO o ∧ Ans A L v o H (Ct.basket o n p) Q
theorem len_basket {K : PySem.W.Frag} {A : Ad} {vs : List V} {H : Hp} {Q : VK} {E : XK} (h : sp_basket K A vs H Q E) : vs.length = 3 := by
  obtain ⟨_, _, _, _, _, rfl, _⟩ := h
  rfl
def sp_miss (K : PySem.W.Frag) (A : Ad) : Sp := fun vs H Q _ => ∃ (v : V) (L : GL) (o : Option Ct.Gm) (n r : Int), vs = [v, .int n, .int r] ∧ GmO A H L v o ∧ Ct.OkO o ∧ Ans A L v o H (Ct.miss o n r) Q
theorem len_miss {K : PySem.W.Frag} {A : Ad} {vs : List V} {H : Hp} {Q : VK} {E : XK} (h : sp_miss K A vs H Q E) : vs.length = 3 := by
  obtain ⟨_, _, _, _, _, rfl, _⟩ := h
  rfl
def sp_shot_behind (K : PySem.W.Frag) (A : Ad) : Sp := fun vs H Q _ => ∃ (L : GL) (m : Ct.Gm) (s : Int), vs = [.ref L.g, .int s] ∧ GameAt A H L m ∧ Val H (.int (m.shotBehind s)) Q
theorem len_shot_behind {K : PySem.W.Frag} {A : Ad} {vs : List V} {H : Hp} {Q : VK} {E : XK} (h : sp_shot_behind K A vs H Q E) : vs.length = 2 := by
  obtain ⟨_, _, _, rfl, _⟩ := h
  rfl
def sp_rebound (K : PySem.W.Frag) (A : Ad) : Sp := fun vs H Q _ => ∃ (v : V) (L : GL) (o : Option Ct.Gm) (s : Int), vs = [v, .int s] ∧ GmO A H L v o ∧ Ans A L v o H (Ct.rebound o s) Q
theorem len_rebound {K : PySem.W.Frag} {A : Ad} {vs : List V} {H : Hp} {Q : VK} {E : XK} (h : sp_rebound K A vs H Q E) : vs.length = 2 := by
  obtain ⟨_, _, _, _, rfl, _⟩ := h
  rfl
def sp_lose (K : PySem.W.Frag) (A : Ad) : Sp := fun vs H Q _ => ∃ (v : V) (L : GL) (o : Option Ct.Gm), vs = [v] ∧ GmO A H L v o ∧ Ans A L v o H (Ct.lose o) Q
theorem len_lose {K : PySem.W.Frag} {A : Ad} {vs : List V} {H : Hp} {Q : VK} {E : XK} (h : sp_lose K A vs H Q E) : vs.length = 1 := by
  obtain ⟨_, _, _, rfl, _⟩ := h
  rfl
def sp_held (K : PySem.W.Frag) (A : Ad) : Sp := fun vs H Q _ => ∃ (v : V) (L : GL) (o : Option Ct.Gm), vs = [v] ∧ GmO A H L v o ∧ Ans A L v o H (Ct.held o) Q
theorem len_held {K : PySem.W.Frag} {A : Ad} {vs : List V} {H : Hp} {Q : VK} {E : XK} (h : sp_held K A vs H Q E) : vs.length = 1 := by
  obtain ⟨_, _, _, rfl, _⟩ := h
  rfl
def sp_rows_at (K : PySem.W.Frag) (A : Ad) : Sp := fun vs H Q _ => ∃ (c : Addr) (l pre xs ys rest : List Int), vs = [.ref c, .int (pre.length : Nat)] ∧ SqL K H c (l.map V.int) ∧ l = pre ++ (xs.length : Int) :: (xs ++ (ys.length : Int) :: (ys ++ rest)) ∧ ∀ H' p1 p2 p3, Same H H' → H p1 = none → H p2 = none → H p3 = none → H' p1 = some (.lst (xs.map V.int)) → H' p2 = some (.lst (ys.map V.int)) → H' p3 = some (.tup [.ref p1, .ref p2, .int ((pre.length + 1 + xs.length + 1 + ys.length : Nat) : Int)]) → Q (.ref p3) H'
theorem len_rows_at {K : PySem.W.Frag} {A : Ad} {vs : List V} {H : Hp} {Q : VK} {E : XK} (h : sp_rows_at K A vs H Q E) : vs.length = 2 := by
  obtain ⟨_, _, _, _, _, _, rfl, _⟩ := h
  rfl
def sp_parted (K : PySem.W.Frag) (A : Ad) : Sp := fun vs H Q _ => ∃ (c : Addr) (l : List Int) (cs : List Ct.Cl), vs = [.ref c] ∧ SqL K H c (l.map V.int) ∧ Ct.Parse l cs ∧ l.length ≤ 30000 ∧ ∀ H' f ts, Same H H' → H f = none → H' f = some (.lst (ts.map V.ref)) → ClsAt H H' ts cs → Q (.ref f) H'
theorem len_parted {K : PySem.W.Frag} {A : Ad} {vs : List V} {H : Hp} {Q : VK} {E : XK} (h : sp_parted K A vs H Q E) : vs.length = 1 := by
  obtain ⟨_, _, _, rfl, _⟩ := h
  rfl
def sp_now (K : PySem.W.Frag) (A : Ad) : Sp := fun vs H Q _ => ∃ (v : V) (L : GL) (o : Option Ct.Gm), vs = [v] ∧ GmO A H L v o ∧ NewL H (Ct.now o).2 Q
theorem len_now {K : PySem.W.Frag} {A : Ad} {vs : List V} {H : Hp} {Q : VK} {E : XK} (h : sp_now K A vs H Q E) : vs.length = 1 := by
  obtain ⟨_, _, _, rfl, _⟩ := h
  rfl
def sp_in_play (K : PySem.W.Frag) (A : Ad) : Sp := fun vs H Q _ => ∃ (v : V) (L : GL) (o : Option Ct.Gm) (n : Int) (l : Addr) (ns : List Int), vs = [v, .int n, .ref l] ∧ GmO A H L v o ∧ Ct.OkO o ∧ SqL K H l (ns.map V.int) ∧ 2 ≤ n ∧ n ≤ 8 ∧ ns.length = Ct.count n ∧ Ans A L v o H (Ct.inPlay o n ns) Q
theorem len_in_play {K : PySem.W.Frag} {A : Ad} {vs : List V} {H : Hp} {Q : VK} {E : XK} (h : sp_in_play K A vs H Q E) : vs.length = 3 := by
  obtain ⟨_, _, _, _, _, _, rfl, _⟩ := h
  rfl
def sp_beside_play (K : PySem.W.Frag) (A : Ad) : Sp := fun vs H Q _ => ∃ (v : V) (L : GL) (o : Option Ct.Gm) (n : Int) (l : Addr) (ns : List Int), vs = [v, .int n, .ref l] ∧ GmO A H L v o ∧ Ct.OkO o ∧ SqL K H l (ns.map V.int) ∧ 9 ≤ n ∧ n ≤ 15 ∧ ns.length = Ct.count n ∧ Ans A L v o H (Ct.beside o n ns) Q
theorem len_beside_play {K : PySem.W.Frag} {A : Ad} {vs : List V} {H : Hp} {Q : VK} {E : XK} (h : sp_beside_play K A vs H Q E) : vs.length = 3 := by
  obtain ⟨_, _, _, _, _, _, rfl, _⟩ := h
  rfl
def sp_answers (K : PySem.W.Frag) (A : Ad) : Sp := fun vs H Q _ => ∃ (c : Addr) (l : List Int), vs = [.ref c] ∧ SqL K H c (l.map V.int) ∧ l.length ≤ 30000 ∧ PyKg67.answers_asked l = true ∧ ∀ H' p, H' p = some (.lst ((PyKg67.answers l).map V.int)) → Q (.ref p) H'
theorem len_answers {K : PySem.W.Frag} {A : Ad} {vs : List V} {H : Hp} {Q : VK} {E : XK} (h : sp_answers K A vs H Q E) : vs.length = 1 := by
  obtain ⟨_, _, rfl, _⟩ := h
  rfl
end CtW
/-! The defs as they stand, their readings, the derivations of these. -/
namespace CtW
open PySem PySem.Spec PyProof.Rows L2
abbrev s_init_Player : Stmt := inClass (top 5) 0
theorem sc_init_Player : FnScope ["self", "number", "on_court"] ["self", "number", "on_court"] (defScope s_init_Player) := ⟨rfl, rfl, rfl, by decide +kernel, rfl, by decide +kernel, by decide +kernel⟩

abbrev s_is_out : Stmt := top 6
theorem sc_is_out : FnScope ["player"] ["player"] (defScope s_is_out) := ⟨rfl, rfl, rfl, by decide +kernel, rfl, by decide +kernel, by decide +kernel⟩

abbrev s_is_on_bench : Stmt := top 7
theorem sc_is_on_bench : FnScope ["player"] ["player"] (defScope s_is_on_bench) := ⟨rfl, rfl, rfl, by decide +kernel, rfl, by decide +kernel, by decide +kernel⟩

abbrev s_note_foul : Stmt := top 8
theorem sc_note_foul : FnScope ["player", "kind"] ["player", "kind"] (defScope s_note_foul) := ⟨rfl, rfl, rfl, by decide +kernel, rfl, by decide +kernel, by decide +kernel⟩

abbrev s_written : Stmt := top 9
theorem sc_written : FnScope ["player", "fouls"] ["player"] (defScope s_written) := ⟨rfl, rfl, rfl, by decide +kernel, rfl, by decide +kernel, by decide +kernel⟩

abbrev s_other : Stmt := top 31
theorem sc_other : FnScope ["side"] ["side"] (defScope s_other) := ⟨rfl, rfl, rfl, by decide +kernel, rfl, by decide +kernel, by decide +kernel⟩

abbrev s_is_side : Stmt := top 32
theorem sc_is_side : FnScope ["number"] ["number"] (defScope s_is_side) := ⟨rfl, rfl, rfl, by decide +kernel, rfl, by decide +kernel, by decide +kernel⟩

abbrev s_is_number : Stmt := top 33
theorem sc_is_number : FnScope ["number"] ["number"] (defScope s_is_number) := ⟨rfl, rfl, rfl, by decide +kernel, rfl, by decide +kernel, by decide +kernel⟩

abbrev s_is_truth : Stmt := top 34
theorem sc_is_truth : FnScope ["number"] ["number"] (defScope s_is_truth) := ⟨rfl, rfl, rfl, by decide +kernel, rfl, by decide +kernel, by decide +kernel⟩

abbrev s_init_Team : Stmt := inClass (top 36) 0
theorem sc_init_Team : FnScope ["self", "numbers", "at", "number"] ["self", "numbers"] (defScope s_init_Team) := ⟨rfl, rfl, rfl, by decide +kernel, rfl, by decide +kernel, by decide +kernel⟩

abbrev s_are_players : Stmt := top 37
theorem sc_are_players : FnScope ["numbers", "at", "number"] ["numbers"] (defScope s_are_players) := ⟨rfl, rfl, rfl, by decide +kernel, rfl, by decide +kernel, by decide +kernel⟩

abbrev s_points_of : Stmt := top 38
theorem sc_points_of : FnScope ["team", "player"] ["team"] (defScope s_points_of) := ⟨rfl, rfl, rfl, by decide +kernel, rfl, by decide +kernel, by decide +kernel⟩

abbrev s_on_court : Stmt := top 39
theorem sc_on_court : FnScope ["team", "number", "player"] ["team", "number"] (defScope s_on_court) := ⟨rfl, rfl, rfl, by decide +kernel, rfl, by decide +kernel, by decide +kernel⟩

abbrev s_on_bench : Stmt := top 40
theorem sc_on_bench : FnScope ["team", "number", "player"] ["team", "number"] (defScope s_on_bench) := ⟨rfl, rfl, rfl, by decide +kernel, rfl, by decide +kernel, by decide +kernel⟩

abbrev s_many_on_court : Stmt := top 41
theorem sc_many_on_court : FnScope ["team", "player"] ["team"] (defScope s_many_on_court) := ⟨rfl, rfl, rfl, by decide +kernel, rfl, by decide +kernel, by decide +kernel⟩

abbrev s_is_short : Stmt := top 42
theorem sc_is_short : FnScope ["team", "player"] ["team"] (defScope s_is_short) := ⟨rfl, rfl, rfl, by decide +kernel, rfl, by decide +kernel, by decide +kernel⟩

abbrev s_sheet_of : Stmt := top 43
theorem sc_sheet_of : FnScope ["team", "found", "player"] ["team"] (defScope s_sheet_of) := ⟨rfl, rfl, rfl, by decide +kernel, rfl, by decide +kernel, by decide +kernel⟩

abbrev s_init_Clock : Stmt := inClass (top 46) 0
theorem sc_init_Clock : FnScope ["self"] ["self"] (defScope s_init_Clock) := ⟨rfl, rfl, rfl, by decide +kernel, rfl, by decide +kernel, by decide +kernel⟩

abbrev s_init_Throws : Stmt := inClass (top 47) 0
theorem sc_init_Throws : FnScope ["self"] ["self"] (defScope s_init_Throws) := ⟨rfl, rfl, rfl, by decide +kernel, rfl, by decide +kernel, by decide +kernel⟩

abbrev s_init_Game : Stmt := inClass (top 48) 0
theorem sc_init_Game : FnScope ["self", "first", "second"] ["self", "first", "second"] (defScope s_init_Game) := ⟨rfl, rfl, rfl, by decide +kernel, rfl, by decide +kernel, by decide +kernel⟩

abbrev s_stands : Stmt := top 49
theorem sc_stands : FnScope ["game", "points", "team", "clocks"] ["game"] (defScope s_stands) := ⟨rfl, rfl, rfl, by decide +kernel, rfl, by decide +kernel, by decide +kernel⟩

abbrev s_is_played : Stmt := top 50
theorem sc_is_played : FnScope ["game"] ["game"] (defScope s_is_played) := ⟨rfl, rfl, rfl, by decide +kernel, rfl, by decide +kernel, by decide +kernel⟩

abbrev s_refusal : Stmt := top 51
theorem sc_refusal : FnScope ["game", "right"] ["game", "right"] (defScope s_refusal) := ⟨rfl, rfl, rfl, by decide +kernel, rfl, by decide +kernel, by decide +kernel⟩

abbrev s_is_any_short : Stmt := top 52
theorem sc_is_any_short : FnScope ["game"] ["game"] (defScope s_is_any_short) := ⟨rfl, rfl, rfl, by decide +kernel, rfl, by decide +kernel, by decide +kernel⟩

abbrev s_refusal_in_play : Stmt := top 53
theorem sc_refusal_in_play : FnScope ["game", "right", "found"] ["game", "right"] (defScope s_refusal_in_play) := ⟨rfl, rfl, rfl, by decide +kernel, rfl, by decide +kernel, by decide +kernel⟩

abbrev s_give_ball : Stmt := top 54
theorem sc_give_ball : FnScope ["game", "side", "shot"] ["game", "side", "shot"] (defScope s_give_ball) := ⟨rfl, rfl, rfl, by decide +kernel, rfl, by decide +kernel, by decide +kernel⟩

abbrev s_miss_by : Stmt := top 55
theorem sc_miss_by : FnScope ["game", "side", "ring"] ["game", "side", "ring"] (defScope s_miss_by) := ⟨rfl, rfl, rfl, by decide +kernel, rfl, by decide +kernel, by decide +kernel⟩

abbrev s_end_game : Stmt := top 56
theorem sc_end_game : FnScope ["game", "winner"] ["game", "winner"] (defScope s_end_game) := ⟨rfl, rfl, rfl, by decide +kernel, rfl, by decide +kernel, by decide +kernel⟩

abbrev s_turn_arrow : Stmt := top 57
theorem sc_turn_arrow : FnScope ["game"] ["game"] (defScope s_turn_arrow) := ⟨rfl, rfl, rfl, by decide +kernel, rfl, by decide +kernel, by decide +kernel⟩

abbrev s_count_anew : Stmt := top 58
theorem sc_count_anew : FnScope ["team", "period"] ["team", "period"] (defScope s_count_anew) := ⟨rfl, rfl, rfl, by decide +kernel, rfl, by decide +kernel, by decide +kernel⟩

abbrev s_begin_period : Stmt := top 59
theorem sc_begin_period : FnScope ["game", "period", "team"] ["game"] (defScope s_begin_period) := ⟨rfl, rfl, rfl, by decide +kernel, rfl, by decide +kernel, by decide +kernel⟩

abbrev s_end_period : Stmt := top 60
theorem sc_end_period : FnScope ["game", "first", "second"] ["game"] (defScope s_end_period) := ⟨rfl, rfl, rfl, by decide +kernel, rfl, by decide +kernel, by decide +kernel⟩

abbrev s_sub : Stmt := top 63
theorem sc_sub : FnScope ["game", "side", "goes", "comes", "found", "leaving", "coming"] ["game", "side", "goes", "comes"] (defScope s_sub) := ⟨rfl, rfl, rfl, by decide +kernel, rfl, by decide +kernel, by decide +kernel⟩

abbrev s_enter : Stmt := top 64
theorem sc_enter : FnScope ["game", "side", "comes", "found", "team", "coming"] ["game", "side", "comes"] (defScope s_enter) := ⟨rfl, rfl, rfl, by decide +kernel, rfl, by decide +kernel, by decide +kernel⟩

abbrev s_most_timeouts : Stmt := top 65
theorem sc_most_timeouts : FnScope ["period"] ["period"] (defScope s_most_timeouts) := ⟨rfl, rfl, rfl, by decide +kernel, rfl, by decide +kernel, by decide +kernel⟩

abbrev s_timeout : Stmt := top 66
theorem sc_timeout : FnScope ["game", "side", "found", "team"] ["game", "side"] (defScope s_timeout) := ⟨rfl, rfl, rfl, by decide +kernel, rfl, by decide +kernel, by decide +kernel⟩

abbrev s_sheet : Stmt := top 67
theorem sc_sheet : FnScope ["game", "side"] ["game", "side"] (defScope s_sheet) := ⟨rfl, rfl, rfl, by decide +kernel, rfl, by decide +kernel, by decide +kernel⟩

abbrev s_throws_for : Stmt := top 72
theorem sc_throws_for : FnScope ["game", "side", "many", "behind"] ["game", "side", "many", "behind"] (defScope s_throws_for) := ⟨rfl, rfl, rfl, by decide +kernel, rfl, by decide +kernel, by decide +kernel⟩

abbrev s_bring : Stmt := top 73
theorem sc_bring : FnScope ["game", "side", "kind", "shot", "rival"] ["game", "side", "kind", "shot"] (defScope s_bring) := ⟨rfl, rfl, rfl, by decide +kernel, rfl, by decide +kernel, by decide +kernel⟩

abbrev s_is_right_foul : Stmt := top 74
theorem sc_is_right_foul : FnScope ["side", "number", "kind", "shot"] ["side", "number", "kind", "shot"] (defScope s_is_right_foul) := ⟨rfl, rfl, rfl, by decide +kernel, rfl, by decide +kernel, by decide +kernel⟩

abbrev s_is_shot_strange : Stmt := top 75
theorem sc_is_shot_strange : FnScope ["game", "side", "kind", "shot"] ["game", "side", "kind", "shot"] (defScope s_is_shot_strange) := ⟨rfl, rfl, rfl, by decide +kernel, rfl, by decide +kernel, by decide +kernel⟩

abbrev s_foul : Stmt := top 76
theorem sc_foul : FnScope ["game", "side", "number", "kind", "shot", "found", "team", "player"] ["game", "side", "number", "kind", "shot"] (defScope s_foul) := ⟨rfl, rfl, rfl, by decide +kernel, rfl, by decide +kernel, by decide +kernel⟩

abbrev s_go_on_behind : Stmt := top 77
theorem sc_go_on_behind : FnScope ["game", "good", "side"] ["game", "good"] (defScope s_go_on_behind) := ⟨rfl, rfl, rfl, by decide +kernel, rfl, by decide +kernel, by decide +kernel⟩

abbrev s_throw : Stmt := top 78
theorem sc_throw : FnScope ["game", "number", "good", "found", "team", "player"] ["game", "number", "good"] (defScope s_throw) := ⟨rfl, rfl, rfl, by decide +kernel, rfl, by decide +kernel, by decide +kernel⟩

abbrev s_tip : Stmt := top 80
theorem sc_tip : FnScope ["game", "side"] ["game", "side"] (defScope s_tip) := ⟨rfl, rfl, rfl, by decide +kernel, rfl, by decide +kernel, by decide +kernel⟩

abbrev s_time_to_stop : Stmt := top 81
theorem sc_time_to_stop : FnScope ["game"] ["game"] (defScope s_time_to_stop) := ⟨rfl, rfl, rfl, by decide +kernel, rfl, by decide +kernel, by decide +kernel⟩

abbrev s_let_run : Stmt := top 82
theorem sc_let_run : FnScope ["game", "tenths"] ["game", "tenths"] (defScope s_let_run) := ⟨rfl, rfl, rfl, by decide +kernel, rfl, by decide +kernel, by decide +kernel⟩

abbrev s_run : Stmt := top 83
theorem sc_run : FnScope ["game", "tenths", "found", "ran"] ["game", "tenths"] (defScope s_run) := ⟨rfl, rfl, rfl, by decide +kernel, rfl, by decide +kernel, by decide +kernel⟩

abbrev s_basket : Stmt := top 84
theorem sc_basket : FnScope ["game", "number", "points", "found", "team", "player"] ["game", "number", "points"] (defScope s_basket) := ⟨rfl, rfl, rfl, by decide +kernel, rfl, by decide +kernel, by decide +kernel⟩

abbrev s_miss : Stmt := top 85
theorem sc_miss : FnScope ["game", "number", "ring", "found"] ["game", "number", "ring"] (defScope s_miss) := ⟨rfl, rfl, rfl, by decide +kernel, rfl, by decide +kernel, by decide +kernel⟩

abbrev s_shot_behind : Stmt := top 86
theorem sc_shot_behind : FnScope ["game", "side"] ["game", "side"] (defScope s_shot_behind) := ⟨rfl, rfl, rfl, by decide +kernel, rfl, by decide +kernel, by decide +kernel⟩

abbrev s_rebound : Stmt := top 87
theorem sc_rebound : FnScope ["game", "side", "found"] ["game", "side"] (defScope s_rebound) := ⟨rfl, rfl, rfl, by decide +kernel, rfl, by decide +kernel, by decide +kernel⟩

abbrev s_lose : Stmt := top 88
theorem sc_lose : FnScope ["game", "found"] ["game"] (defScope s_lose) := ⟨rfl, rfl, rfl, by decide +kernel, rfl, by decide +kernel, by decide +kernel⟩

abbrev s_held : Stmt := top 89
theorem sc_held : FnScope ["game", "found"] ["game"] (defScope s_held) := ⟨rfl, rfl, rfl, by decide +kernel, rfl, by decide +kernel, by decide +kernel⟩

abbrev s_rows_at : Stmt := top 93
theorem sc_rows_at : FnScope ["calls", "at", "middle", "end"] ["calls", "at"] (defScope s_rows_at) := ⟨rfl, rfl, rfl, by decide +kernel, rfl, by decide +kernel, by decide +kernel⟩

abbrev s_parted : Stmt := top 94
theorem sc_parted : FnScope ["calls", "found", "at", "word", "first", "second", "end"] ["calls"] (defScope s_parted) := ⟨rfl, rfl, rfl, by decide +kernel, rfl, by decide +kernel, by decide +kernel⟩

abbrev s_now : Stmt := top 95
theorem sc_now : FnScope ["game"] ["game"] (defScope s_now) := ⟨rfl, rfl, rfl, by decide +kernel, rfl, by decide +kernel, by decide +kernel⟩

abbrev s_in_play : Stmt := top 96
theorem sc_in_play : FnScope ["game", "word", "told"] ["game", "word", "told"] (defScope s_in_play) := ⟨rfl, rfl, rfl, by decide +kernel, rfl, by decide +kernel, by decide +kernel⟩

abbrev s_beside_play : Stmt := top 97
theorem sc_beside_play : FnScope ["game", "word", "told"] ["game", "word", "told"] (defScope s_beside_play) := ⟨rfl, rfl, rfl, by decide +kernel, rfl, by decide +kernel, by decide +kernel⟩

abbrev s_answers : Stmt := top 98
theorem sc_answers : FnScope ["calls", "game", "found", "word", "told", "more", "answer"] ["calls"] (defScope s_answers) := ⟨rfl, rfl, rfl, by decide +kernel, rfl, by decide +kernel, by decide +kernel⟩

def t_init_Player (K : PySem.W.Frag) (A : Ad) : TS := (tSeq (sFld K (tVar 0) (tVar 1) "number") (tSeq (sFld K (tVar 0) (tC (.int 0)) "points") (tSeq (sFld K (tVar 0) (tC (.int 0)) "personal") (tSeq (sFld K (tVar 0) (tC (.int 0)) "technical") (tSeq (sFld K (tVar 0) (tC (.int 0)) "heavy") (tSeq (sFld K (tVar 0) (tC (.bl false)) "sent_off") (sFld K (tVar 0) (tVar 2) "on_court")))))))

def t_is_out (K : PySem.W.Frag) (A : Ad) : TS := (tSeq (tIfS (tOr (tB (tFld K (tVar 0) "sent_off")) (tTest (tOp rGeI (tOp rAddI (tFld K (tVar 0) "technical") (tFld K (tVar 0) "heavy")) (tC (.int (2)))))) (tRet (tC (.bl true))) tNext) (tRet (tOp rGeI (tOp rAddI (tOp rAddI (tFld K (tVar 0) "personal") (tFld K (tVar 0) "technical")) (tFld K (tVar 0) "heavy")) (tC (.int (5))))))

def t_is_on_bench (K : PySem.W.Frag) (A : Ad) : TS := (tRet (tAndV (tNotV (tFld K (tVar 0) "on_court")) (tNotV (tCall (sp_is_out K A) [] E0 (tCons (tVar 0) tNil)))))

def t_note_foul (K : PySem.W.Frag) (A : Ad) : TS := (tSeq (tIfS (tTest (tOp rEq (tVar 1) (tC (.int 0)))) (sFldAug K (tVar 0) (tC (.int 1)) rAdd "personal") (tIfS (tTest (tOp rEq (tVar 1) (tC (.int (1))))) (sFldAug K (tVar 0) (tC (.int 1)) rAdd "technical") (sFldAug K (tVar 0) (tC (.int 1)) rAdd "heavy"))) (tSeq (tIfS (tTest (tOp rEq (tVar 1) (tC (.int (3))))) (sFld K (tVar 0) (tC (.bl true)) "sent_off") tNext) (tIfS (tB (tCall (sp_is_out K A) [] E0 (tCons (tVar 0) tNil))) (sFld K (tVar 0) (tC (.bl false)) "on_court") tNext)))

def t_written (K : PySem.W.Frag) (A : Ad) : TS := (tSeq (tAsg (tLst (tCons (tFld K (tVar 0) "personal") (tCons (tFld K (tVar 0) "technical") (tCons (tFld K (tVar 0) "heavy") tNil)))) (gName 1)) (tRet (tOp rCat (tOp rCat (tLst (tCons (tFld K (tVar 0) "number") (tCons (tFld K (tVar 0) "points") tNil))) (tVar 1)) (tLst (tCons (tCB rInt1 (tCons (tCall (sp_is_out K A) [] E0 (tCons (tVar 0) tNil)) tNil)) (tCons (tCB rInt1 (tCons (tFld K (tVar 0) "on_court") tNil)) tNil))))))

def t_other (K : PySem.W.Frag) (A : Ad) : TS := (tRet (tOp rSubI (tC (.int 1)) (tVar 0)))

def t_is_side (K : PySem.W.Frag) (A : Ad) : TS := (tRet (tOrV (tOp rEq (tVar 0) (tC (.int 0))) (tOp rEq (tVar 0) (tC (.int 1)))))

def t_is_number (K : PySem.W.Frag) (A : Ad) : TS := (tRet (tChain rLeI rLeI (tC (.int 0)) (tVar 0) (tC (.int (99)))))

def t_is_truth (K : PySem.W.Frag) (A : Ad) : TS := (tRet (tOrV (tOp rEq (tVar 0) (tC (.int 0))) (tOp rEq (tVar 0) (tC (.int 1)))))

def t_init_Team (K : PySem.W.Frag) (A : Ad) : TS := (tSeq (sFld K (tVar 0) (tLc (iEnum K (tCons (tVar 1) tNil)) (gTup K 2 (gCons (gName 2) (gCons (gName 3) gNil))) tYes (tMake A.cP (sp_init_Player K A) [] E0 (tCons (tVar 3) (tCons (tOp rLtI (tVar 2) (tC (.int (5)))) tNil))) [2, 3]) "players") (tSeq (sFld K (tVar 0) (tC (.int 0)) "fouls") (sFld K (tVar 0) (tC (.int 0)) "timeouts")))

def t_are_players (K : PySem.W.Frag) (A : Ad) : TS := (tSeq (tIfS (tNot (tTest (tChain rLeI rLeI (tC (.int (5))) (tCB (rLenQ K) (tCons (tVar 0) tNil)) (tC (.int (12)))))) (tRet (tC (.bl false))) tNext) (tSeq (tFor (iEnum K (tCons (tVar 0) tNil)) (gTup K 2 (gCons (gName 1) (gCons (gName 2) gNil))) (tIfS (tOr (tNot (tB (tCall (sp_is_number K A) [] E0 (tCons (tVar 2) tNil)))) (tTest (tOp (rIn K false) (tVar 2) (tSl (rSlL K) (tVar 0) tNoPart (tPart (tVar 1)))))) (tRet (tC (.bl false))) tNext)) (tRet (tC (.bl true)))))

def t_points_of (K : PySem.W.Frag) (A : Ad) : TS := (tRet (tCB (rSum K) (tCons (tLc (iList K (tFld K (tVar 0) "players")) (gName 1) tYes (tFld K (tVar 1) "points") [1]) tNil)))

def t_on_court (K : PySem.W.Frag) (A : Ad) : TS := (tSeq (tFor (iList K (tFld K (tVar 0) "players")) (gName 2) (tIfS (tAnd (tTest (tOp rEq (tFld K (tVar 2) "number") (tVar 1))) (tB (tFld K (tVar 2) "on_court"))) (tRet (tVar 2)) tNext)) (tRet (tC .non)))

def t_on_bench (K : PySem.W.Frag) (A : Ad) : TS := (tSeq (tFor (iList K (tFld K (tVar 0) "players")) (gName 2) (tIfS (tAnd (tTest (tOp rEq (tFld K (tVar 2) "number") (tVar 1))) (tB (tCall (sp_is_on_bench K A) [] E0 (tCons (tVar 2) tNil)))) (tRet (tVar 2)) tNext)) (tRet (tC .non)))

def t_many_on_court (K : PySem.W.Frag) (A : Ad) : TS := (tRet (tCB (rLenQ K) (tCons (tLc (iList K (tFld K (tVar 0) "players")) (gName 1) (tB (tFld K (tVar 1) "on_court")) (tVar 1) [1]) tNil)))

def t_is_short (K : PySem.W.Frag) (A : Ad) : TS := (tRet (tAndV (tOp rLtI (tCall (sp_many_on_court K A) [] E0 (tCons (tVar 0) tNil)) (tC (.int (5)))) (tCB (rAny K) (tCons (tLc (iList K (tFld K (tVar 0) "players")) (gName 1) tYes (tCall (sp_is_on_bench K A) [] E0 (tCons (tVar 1) tNil)) [1]) tNil))))

def t_sheet_of (K : PySem.W.Frag) (A : Ad) : TS := (tSeq (tAsg (tLst (tCons (tCall (sp_points_of K A) [] E0 (tCons (tVar 0) tNil)) (tCons (tFld K (tVar 0) "fouls") (tCons (tFld K (tVar 0) "timeouts") tNil)))) (gName 1)) (tSeq (tFor (iList K (tFld K (tVar 0) "players")) (gName 2) (tDrop (tBM K "list" rExtend (tVar 1) (tCons (tCall (sp_written K A) [] E0 (tCons (tVar 2) tNil)) tNil)))) (tRet (tVar 1))))

def t_init_Clock (K : PySem.W.Frag) (A : Ad) : TS := (tSeq (sFld K (tVar 0) (tC (.int 0)) "period") (tSeq (sFld K (tVar 0) (tC (.int 0)) "left") (sFld K (tVar 0) (tC (.int 0)) "shot")))

def t_init_Throws (K : PySem.W.Frag) (A : Ad) : TS := (tSeq (sFld K (tVar 0) (tC (.int 0)) "many") (tSeq (sFld K (tVar 0) (tC (.int 0)) "side") (sFld K (tVar 0) (tC (.int (0))) "behind")))

def t_init_Game (K : PySem.W.Frag) (A : Ad) : TS := (tSeq (sFld K (tVar 0) (tLst (tCons (tMake A.cT (sp_init_Team K A) [] E0 (tCons (tVar 1) tNil)) (tCons (tMake A.cT (sp_init_Team K A) [] E0 (tCons (tVar 2) tNil)) tNil))) "teams") (tSeq (sFld K (tVar 0) (tMake A.cC (sp_init_Clock K A) [] E0 tNil) "clock") (tSeq (sFld K (tVar 0) (tMake A.cH (sp_init_Throws K A) [] E0 tNil) "throws") (tSeq (sFld K (tVar 0) (tC (.int (-1))) "ball") (tSeq (sFld K (tVar 0) (tC (.int 0)) "arrow") (tSeq (sFld K (tVar 0) (tC (.int 0)) "missed") (tSeq (sFld K (tVar 0) (tC (.int 0)) "ring") (sFld K (tVar 0) (tC (.int (-1))) "winner"))))))))

def t_stands (K : PySem.W.Frag) (A : Ad) : TS := (tSeq (tIfS (tTest (tOp rIsNo (tVar 0) (tC .non))) (tRet (tLst (tCons (tC (.int 0)) (tCons (tC (.int 0)) (tCons (tC (.int 0)) (tCons (tC (.int 0)) (tCons (tC (.int 0)) (tCons (tC (.int (-1))) (tCons (tC (.int 0)) (tCons (tC (.int 0)) (tCons (tC (.int (-1))) tNil))))))))))) tNext) (tSeq (tAsg (tLc (iList K (tFld K (tVar 0) "teams")) (gName 2) tYes (tCall (sp_points_of K A) [] E0 (tCons (tVar 2) tNil)) [2]) (gName 1)) (tSeq (tAsg (tLst (tCons (tFld K (tFld K (tVar 0) "clock") "period") (tCons (tFld K (tFld K (tVar 0) "clock") "left") (tCons (tFld K (tFld K (tVar 0) "clock") "shot") tNil)))) (gName 3)) (tRet (tOp rCat (tOp rCat (tVar 1) (tVar 3)) (tLst (tCons (tFld K (tVar 0) "ball") (tCons (tFld K (tVar 0) "arrow") (tCons (tFld K (tFld K (tVar 0) "throws") "many") (tCons (tFld K (tVar 0) "winner") tNil))))))))))

def t_is_played (K : PySem.W.Frag) (A : Ad) : TS := (tRet (tAndV (tOp rNotNo (tVar 0) (tC .non)) (tAndV (tOp rGtI (tFld K (tFld K (tVar 0) "clock") "period") (tC (.int 0))) (tOp rEq (tFld K (tVar 0) "winner") (tC (.int (-1)))))))

def t_refusal (K : PySem.W.Frag) (A : Ad) : TS := (tSeq (tIfS (tNot (tB (tVar 1))) (tRet (tC (.int (-1)))) tNext) (tSeq (tIfS (tNot (tB (tCall (sp_is_played K A) [] E0 (tCons (tVar 0) tNil)))) (tRet (tC (.int (-2)))) tNext) (tRet (tC (.int 0)))))

def t_is_any_short (K : PySem.W.Frag) (A : Ad) : TS := (tRet (tOrV (tCall (sp_is_short K A) [] E0 (tCons (tOp (rIxL K) (tFld K (tVar 0) "teams") (tC (.int 0))) tNil)) (tCall (sp_is_short K A) [] E0 (tCons (tOp (rIxL K) (tFld K (tVar 0) "teams") (tC (.int 1))) tNil))))

def t_refusal_in_play (K : PySem.W.Frag) (A : Ad) : TS := (tSeq (tAsg (tCall (sp_refusal K A) [] E0 (tCons (tVar 0) (tCons (tVar 1) tNil))) (gName 2)) (tSeq (tIfS (tTest (tOp rNe (tVar 2) (tC (.int 0)))) (tRet (tVar 2)) tNext) (tSeq (tIfS (tTest (tOp rGtI (tFld K (tFld K (tVar 0) "throws") "many") (tC (.int 0)))) (tRet (tC (.int (-3)))) tNext) (tSeq (tIfS (tB (tCall (sp_is_any_short K A) [] E0 (tCons (tVar 0) tNil))) (tRet (tC (.int (-6)))) tNext) (tRet (tC (.int 0)))))))

def t_give_ball (K : PySem.W.Frag) (A : Ad) : TS := (tSeq (sFld K (tVar 0) (tVar 1) "ball") (sFld K (tFld K (tVar 0) "clock") (tVar 2) "shot"))

def t_miss_by (K : PySem.W.Frag) (A : Ad) : TS := (tSeq (sFld K (tVar 0) (tC (.int (-1))) "ball") (tSeq (sFld K (tVar 0) (tVar 1) "missed") (sFld K (tVar 0) (tVar 2) "ring")))

def t_end_game (K : PySem.W.Frag) (A : Ad) : TS := (tSeq (sFld K (tVar 0) (tVar 1) "winner") (tSeq (sFld K (tVar 0) (tC (.int (-1))) "ball") (sFld K (tFld K (tVar 0) "throws") (tC (.int 0)) "many")))

def t_turn_arrow (K : PySem.W.Frag) (A : Ad) : TS := (sFld K (tVar 0) (tCall (sp_other K A) [] E0 (tCons (tFld K (tVar 0) "arrow") tNil)) "arrow")

def t_count_anew (K : PySem.W.Frag) (A : Ad) : TS := (tSeq (tIfS (tTest (tOp rLeI (tVar 1) (tC (.int (4))))) (sFld K (tVar 0) (tC (.int 0)) "fouls") tNext) (tIfS (tOr (tTest (tOp rEq (tVar 1) (tC (.int (3))))) (tTest (tOp rGtI (tVar 1) (tC (.int (4)))))) (sFld K (tVar 0) (tC (.int 0)) "timeouts") tNext))

def t_begin_period (K : PySem.W.Frag) (A : Ad) : TS := (tSeq (tAsg (tOp rAddI (tFld K (tFld K (tVar 0) "clock") "period") (tC (.int 1))) (gName 1)) (tSeq (sFld K (tFld K (tVar 0) "clock") (tVar 1) "period") (tSeq (sFld K (tFld K (tVar 0) "clock") (tIf (tTest (tOp rLeI (tVar 1) (tC (.int (4))))) (tC (.int (6000))) (tC (.int (3000)))) "left") (tSeq (tFor (iList K (tFld K (tVar 0) "teams")) (gName 2) (tDrop (tCall (sp_count_anew K A) [] E0 (tCons (tVar 2) (tCons (tVar 1) tNil))))) (tSeq (tDrop (tCall (sp_give_ball K A) [] E0 (tCons (tVar 0) (tCons (tFld K (tVar 0) "arrow") (tCons (tC (.int (240))) tNil))))) (tDrop (tCall (sp_turn_arrow K A) [] E0 (tCons (tVar 0) tNil))))))))

def t_end_period (K : PySem.W.Frag) (A : Ad) : TS := (tSeq (tPar 1 2 (tCons (tCall (sp_points_of K A) [] E0 (tCons (tOp (rIxL K) (tFld K (tVar 0) "teams") (tC (.int 0))) tNil)) (tCons (tCall (sp_points_of K A) [] E0 (tCons (tOp (rIxL K) (tFld K (tVar 0) "teams") (tC (.int 1))) tNil)) tNil))) (tIfS (tAnd (tTest (tOp rGeI (tFld K (tFld K (tVar 0) "clock") "period") (tC (.int (4))))) (tTest (tOp rGtI (tVar 1) (tVar 2)))) (tDrop (tCall (sp_end_game K A) [] E0 (tCons (tVar 0) (tCons (tC (.int 0)) tNil)))) (tIfS (tAnd (tTest (tOp rGeI (tFld K (tFld K (tVar 0) "clock") "period") (tC (.int (4))))) (tTest (tOp rGtI (tVar 2) (tVar 1)))) (tDrop (tCall (sp_end_game K A) [] E0 (tCons (tVar 0) (tCons (tC (.int 1)) tNil)))) (tDrop (tCall (sp_begin_period K A) [] E0 (tCons (tVar 0) tNil))))))

def t_sub (K : PySem.W.Frag) (A : Ad) : TS := (tSeq (tAsg (tCall (sp_refusal K A) [] E0 (tCons (tVar 0) (tCons (tAndV (tCall (sp_is_side K A) [] E0 (tCons (tVar 1) tNil)) (tAndV (tCall (sp_is_number K A) [] E0 (tCons (tVar 2) tNil)) (tCall (sp_is_number K A) [] E0 (tCons (tVar 3) tNil)))) tNil))) (gName 4)) (tSeq (tIfS (tTest (tOp rNe (tVar 4) (tC (.int 0)))) (tRet (tLst (tCons (tVar 4) tNil))) tNext) (tSeq (tAsg (tCall (sp_on_court K A) [] E0 (tCons (tOp (rIxL K) (tFld K (tVar 0) "teams") (tVar 1)) (tCons (tVar 2) tNil))) (gName 5)) (tSeq (tAsg (tCall (sp_on_bench K A) [] E0 (tCons (tOp (rIxL K) (tFld K (tVar 0) "teams") (tVar 1)) (tCons (tVar 3) tNil))) (gName 6)) (tSeq (tIfS (tOr (tTest (tOp rIsNo (tVar 5) (tC .non))) (tTest (tOp rIsNo (tVar 6) (tC .non)))) (tRet (tLst (tCons (tC (.int (-5))) tNil))) tNext) (tSeq (sFld K (tVar 5) (tC (.bl false)) "on_court") (tSeq (sFld K (tVar 6) (tC (.bl true)) "on_court") (tRet (tLst (tCons (tC (.int 0)) tNil))))))))))

def t_enter (K : PySem.W.Frag) (A : Ad) : TS := (tSeq (tAsg (tCall (sp_refusal K A) [] E0 (tCons (tVar 0) (tCons (tAndV (tCall (sp_is_side K A) [] E0 (tCons (tVar 1) tNil)) (tCall (sp_is_number K A) [] E0 (tCons (tVar 2) tNil))) tNil))) (gName 3)) (tSeq (tIfS (tTest (tOp rNe (tVar 3) (tC (.int 0)))) (tRet (tLst (tCons (tVar 3) tNil))) tNext) (tSeq (tAsg (tOp (rIxL K) (tFld K (tVar 0) "teams") (tVar 1)) (gName 4)) (tSeq (tAsg (tCall (sp_on_bench K A) [] E0 (tCons (tVar 4) (tCons (tVar 2) tNil))) (gName 5)) (tSeq (tIfS (tOr (tTest (tOp rGeI (tCall (sp_many_on_court K A) [] E0 (tCons (tVar 4) tNil)) (tC (.int (5))))) (tTest (tOp rIsNo (tVar 5) (tC .non)))) (tRet (tLst (tCons (tC (.int (-5))) tNil))) tNext) (tSeq (sFld K (tVar 5) (tC (.bl true)) "on_court") (tRet (tLst (tCons (tCall (sp_many_on_court K A) [] E0 (tCons (tVar 4) tNil)) tNil)))))))))

def t_most_timeouts (K : PySem.W.Frag) (A : Ad) : TS := (tSeq (tIfS (tTest (tOp rLeI (tVar 0) (tC (.int (2))))) (tRet (tC (.int 2))) tNext) (tSeq (tIfS (tTest (tOp rLeI (tVar 0) (tC (.int (4))))) (tRet (tC (.int 3))) tNext) (tRet (tC (.int 1)))))

def t_timeout (K : PySem.W.Frag) (A : Ad) : TS := (tSeq (tAsg (tCall (sp_refusal K A) [] E0 (tCons (tVar 0) (tCons (tCall (sp_is_side K A) [] E0 (tCons (tVar 1) tNil)) tNil))) (gName 2)) (tSeq (tIfS (tTest (tOp rNe (tVar 2) (tC (.int 0)))) (tRet (tLst (tCons (tVar 2) tNil))) tNext) (tSeq (tAsg (tOp (rIxL K) (tFld K (tVar 0) "teams") (tVar 1)) (gName 3)) (tSeq (tIfS (tTest (tOp rGeI (tFld K (tVar 3) "timeouts") (tCall (sp_most_timeouts K A) [] E0 (tCons (tFld K (tFld K (tVar 0) "clock") "period") tNil)))) (tRet (tLst (tCons (tC (.int (-5))) tNil))) tNext) (tSeq (sFldAug K (tVar 3) (tC (.int 1)) rAdd "timeouts") (tRet (tLst (tCons (tFld K (tVar 3) "timeouts") tNil))))))))

def t_sheet (K : PySem.W.Frag) (A : Ad) : TS := (tSeq (tIfS (tNot (tB (tCall (sp_is_side K A) [] E0 (tCons (tVar 1) tNil)))) (tRet (tLst (tCons (tC (.int (-1))) tNil))) tNext) (tSeq (tIfS (tTest (tOp rIsNo (tVar 0) (tC .non))) (tRet (tLst (tCons (tC (.int 0)) (tCons (tC (.int 0)) (tCons (tC (.int 0)) tNil))))) tNext) (tRet (tCall (sp_sheet_of K A) [] E0 (tCons (tOp (rIxL K) (tFld K (tVar 0) "teams") (tVar 1)) tNil)))))

def t_throws_for (K : PySem.W.Frag) (A : Ad) : TS := (tSeq (sFld K (tFld K (tVar 0) "throws") (tVar 2) "many") (tSeq (sFld K (tFld K (tVar 0) "throws") (tVar 1) "side") (sFld K (tFld K (tVar 0) "throws") (tVar 3) "behind")))

def t_bring (K : PySem.W.Frag) (A : Ad) : TS := (tSeq (tAsg (tCall (sp_other K A) [] E0 (tCons (tVar 1) tNil)) (gName 4)) (tIfS (tTest (tOp rEq (tVar 2) (tC (.int (1))))) (tDrop (tCall (sp_throws_for K A) [] E0 (tCons (tVar 0) (tCons (tVar 4) (tCons (tC (.int 1)) (tCons (tC (.int (0))) tNil)))))) (tIfS (tTest (tOp rNe (tVar 2) (tC (.int (0))))) (tDrop (tCall (sp_throws_for K A) [] E0 (tCons (tVar 0) (tCons (tVar 4) (tCons (tIf (tTest (tOp rGtI (tVar 3) (tC (.int 0)))) (tVar 3) (tC (.int 2))) (tCons (tC (.int (1))) tNil)))))) (tIfS (tTest (tOp rGtI (tVar 3) (tC (.int 0)))) (tDrop (tCall (sp_throws_for K A) [] E0 (tCons (tVar 0) (tCons (tVar 4) (tCons (tVar 3) (tCons (tC (.int (2))) tNil)))))) (tIfS (tTest (tOp rEq (tFld K (tVar 0) "ball") (tVar 1))) (tDrop (tCall (sp_give_ball K A) [] E0 (tCons (tVar 0) (tCons (tVar 4) (tCons (tC (.int (240))) tNil))))) (tIfS (tTest (tOp rGeI (tFld K (tOp (rIxL K) (tFld K (tVar 0) "teams") (tVar 1)) "fouls") (tC (.int (5))))) (tDrop (tCall (sp_throws_for K A) [] E0 (tCons (tVar 0) (tCons (tVar 4) (tCons (tC (.int 2)) (tCons (tC (.int (2))) tNil)))))) (tIfS (tTest (tOp rEq (tFld K (tVar 0) "ball") (tVar 4))) (tDrop (tCall (sp_give_ball K A) [] E0 (tCons (tVar 0) (tCons (tVar 4) (tCons (tCB rMax2 (tCons (tFld K (tFld K (tVar 0) "clock") "shot") (tCons (tC (.int (140))) tNil))) tNil))))) (tDrop (tCall (sp_give_ball K A) [] E0 (tCons (tVar 0) (tCons (tVar 4) (tCons (tC (.int (240))) tNil))))))))))))

def t_is_right_foul (K : PySem.W.Frag) (A : Ad) : TS := (tRet (tAndV (tCall (sp_is_side K A) [] E0 (tCons (tVar 0) tNil)) (tAndV (tCall (sp_is_number K A) [] E0 (tCons (tVar 1) tNil)) (tAndV (tChain rLeI rLeI (tC (.int 0)) (tVar 2) (tC (.int 3))) (tChain rLeI rLeI (tC (.int 0)) (tVar 3) (tC (.int 3)))))))

def t_is_shot_strange (K : PySem.W.Frag) (A : Ad) : TS := (tRet (tOrV (tAndV (tOp rGtI (tVar 3) (tC (.int 0))) (tOp rEq (tVar 2) (tC (.int (1))))) (tAndV (tOp rGtI (tVar 3) (tC (.int 1))) (tOp rEq (tFld K (tVar 0) "ball") (tVar 1)))))

def t_foul (K : PySem.W.Frag) (A : Ad) : TS := (tSeq (tAsg (tCall (sp_refusal_in_play K A) [] E0 (tCons (tVar 0) (tCons (tCall (sp_is_right_foul K A) [] E0 (tCons (tVar 1) (tCons (tVar 2) (tCons (tVar 3) (tCons (tVar 4) tNil))))) tNil))) (gName 5)) (tSeq (tIfS (tTest (tOp rNe (tVar 5) (tC (.int 0)))) (tRet (tLst (tCons (tVar 5) tNil))) tNext) (tSeq (tAsg (tOp (rIxL K) (tFld K (tVar 0) "teams") (tVar 1)) (gName 6)) (tSeq (tAsg (tCall (sp_on_court K A) [] E0 (tCons (tVar 6) (tCons (tVar 2) tNil))) (gName 7)) (tSeq (tIfS (tTest (tOp rIsNo (tVar 7) (tC .non))) (tRet (tLst (tCons (tC (.int (-5))) tNil))) tNext) (tSeq (tIfS (tB (tCall (sp_is_shot_strange K A) [] E0 (tCons (tVar 0) (tCons (tVar 1) (tCons (tVar 3) (tCons (tVar 4) tNil)))))) (tRet (tLst (tCons (tC (.int (-4))) tNil))) tNext) (tSeq (tDrop (tCall (sp_note_foul K A) [] E0 (tCons (tVar 7) (tCons (tVar 3) tNil)))) (tSeq (sFldAug K (tVar 6) (tC (.int 1)) rAdd "fouls") (tSeq (tIfS (tTest (tOp rLtI (tCall (sp_many_on_court K A) [] E0 (tCons (tVar 6) tNil)) (tC (.int (2))))) (tDrop (tCall (sp_end_game K A) [] E0 (tCons (tVar 0) (tCons (tCall (sp_other K A) [] E0 (tCons (tVar 1) tNil)) tNil)))) (tDrop (tCall (sp_bring K A) [] E0 (tCons (tVar 0) (tCons (tVar 1) (tCons (tVar 3) (tCons (tVar 4) tNil))))))) (tRet (tOp rCat (tLst (tCons (tFld K (tVar 6) "fouls") tNil)) (tCall (sp_stands K A) [] E0 (tCons (tVar 0) tNil)))))))))))))

def t_go_on_behind (K : PySem.W.Frag) (A : Ad) : TS := (tSeq (tAsg (tFld K (tFld K (tVar 0) "throws") "side") (gName 2)) (tIfS (tTest (tOp rEq (tFld K (tFld K (tVar 0) "throws") "behind") (tC (.int (1))))) (tDrop (tCall (sp_give_ball K A) [] E0 (tCons (tVar 0) (tCons (tVar 2) (tCons (tC (.int (140))) tNil))))) (tIfS (tAnd (tTest (tOp rEq (tFld K (tFld K (tVar 0) "throws") "behind") (tC (.int (2))))) (tTest (tOp rEq (tVar 1) (tC (.int 1))))) (tDrop (tCall (sp_give_ball K A) [] E0 (tCons (tVar 0) (tCons (tCall (sp_other K A) [] E0 (tCons (tVar 2) tNil)) (tCons (tC (.int (240))) tNil))))) (tIfS (tTest (tOp rEq (tFld K (tFld K (tVar 0) "throws") "behind") (tC (.int (2))))) (tDrop (tCall (sp_miss_by K A) [] E0 (tCons (tVar 0) (tCons (tVar 2) (tCons (tC (.int 1)) tNil))))) tNext))))

def t_throw (K : PySem.W.Frag) (A : Ad) : TS := (tSeq (tAsg (tCall (sp_refusal K A) [] E0 (tCons (tVar 0) (tCons (tAndV (tCall (sp_is_number K A) [] E0 (tCons (tVar 1) tNil)) (tCall (sp_is_truth K A) [] E0 (tCons (tVar 2) tNil))) tNil))) (gName 3)) (tSeq (tIfS (tTest (tOp rNe (tVar 3) (tC (.int 0)))) (tRet (tLst (tCons (tVar 3) tNil))) tNext) (tSeq (tIfS (tTest (tOp rEq (tFld K (tFld K (tVar 0) "throws") "many") (tC (.int 0)))) (tRet (tLst (tCons (tC (.int (-3))) tNil))) tNext) (tSeq (tIfS (tB (tCall (sp_is_any_short K A) [] E0 (tCons (tVar 0) tNil))) (tRet (tLst (tCons (tC (.int (-6))) tNil))) tNext) (tSeq (tAsg (tOp (rIxL K) (tFld K (tVar 0) "teams") (tFld K (tFld K (tVar 0) "throws") "side")) (gName 4)) (tSeq (tAsg (tCall (sp_on_court K A) [] E0 (tCons (tVar 4) (tCons (tVar 1) tNil))) (gName 5)) (tSeq (tIfS (tTest (tOp rIsNo (tVar 5) (tC .non))) (tRet (tLst (tCons (tC (.int (-5))) tNil))) tNext) (tSeq (sFldAug K (tVar 5) (tVar 2) rAdd "points") (tSeq (sFldAug K (tFld K (tVar 0) "throws") (tC (.int 1)) rSub "many") (tSeq (tIfS (tTest (tOp rEq (tFld K (tFld K (tVar 0) "throws") "many") (tC (.int 0)))) (tDrop (tCall (sp_go_on_behind K A) [] E0 (tCons (tVar 0) (tCons (tVar 2) tNil)))) tNext) (tRet (tOp rCat (tLst (tCons (tCall (sp_points_of K A) [] E0 (tCons (tVar 4) tNil)) tNil)) (tCall (sp_stands K A) [] E0 (tCons (tVar 0) tNil))))))))))))))

def t_tip (K : PySem.W.Frag) (A : Ad) : TS := (tSeq (tIfS (tNot (tB (tCall (sp_is_side K A) [] E0 (tCons (tVar 1) tNil)))) (tRet (tLst (tCons (tC (.int (-1))) tNil))) tNext) (tSeq (tIfS (tOr (tTest (tOp rIsNo (tVar 0) (tC .non))) (tTest (tOp rGtI (tFld K (tFld K (tVar 0) "clock") "period") (tC (.int 0))))) (tRet (tLst (tCons (tC (.int (-2))) tNil))) tNext) (tSeq (sFld K (tVar 0) (tVar 1) "arrow") (tSeq (tDrop (tCall (sp_begin_period K A) [] E0 (tCons (tVar 0) tNil))) (tRet (tOp rCat (tLst (tCons (tC (.int 0)) tNil)) (tCall (sp_stands K A) [] E0 (tCons (tVar 0) tNil))))))))

def t_time_to_stop (K : PySem.W.Frag) (A : Ad) : TS := (tSeq (tIfS (tAnd (tTest (tOp rNe (tFld K (tVar 0) "ball") (tC (.int (-1))))) (tTest (tOp rLtI (tFld K (tFld K (tVar 0) "clock") "shot") (tFld K (tFld K (tVar 0) "clock") "left")))) (tRet (tFld K (tFld K (tVar 0) "clock") "shot")) tNext) (tRet (tFld K (tFld K (tVar 0) "clock") "left")))

def t_let_run (K : PySem.W.Frag) (A : Ad) : TS := (tSeq (sFldAug K (tFld K (tVar 0) "clock") (tVar 1) rSub "left") (tSeq (tIfS (tTest (tOp rNe (tFld K (tVar 0) "ball") (tC (.int (-1))))) (sFldAug K (tFld K (tVar 0) "clock") (tVar 1) rSub "shot") tNext) (tIfS (tTest (tOp rEq (tFld K (tFld K (tVar 0) "clock") "left") (tC (.int 0)))) (tDrop (tCall (sp_end_period K A) [] E0 (tCons (tVar 0) tNil))) (tIfS (tAnd (tTest (tOp rNe (tFld K (tVar 0) "ball") (tC (.int (-1))))) (tTest (tOp rEq (tFld K (tFld K (tVar 0) "clock") "shot") (tC (.int 0))))) (tDrop (tCall (sp_give_ball K A) [] E0 (tCons (tVar 0) (tCons (tCall (sp_other K A) [] E0 (tCons (tFld K (tVar 0) "ball") tNil)) (tCons (tC (.int (240))) tNil))))) tNext))))

def t_run (K : PySem.W.Frag) (A : Ad) : TS := (tSeq (tAsg (tCall (sp_refusal_in_play K A) [] E0 (tCons (tVar 0) (tCons (tChain rLeI rLeI (tC (.int 1)) (tVar 1) (tC (.int (100000)))) tNil))) (gName 2)) (tSeq (tIfS (tTest (tOp rNe (tVar 2) (tC (.int 0)))) (tRet (tLst (tCons (tVar 2) tNil))) tNext) (tSeq (tAsg (tCB rMin2 (tCons (tVar 1) (tCons (tCall (sp_time_to_stop K A) [] E0 (tCons (tVar 0) tNil)) tNil))) (gName 3)) (tSeq (tDrop (tCall (sp_let_run K A) [] E0 (tCons (tVar 0) (tCons (tVar 3) tNil)))) (tRet (tOp rCat (tLst (tCons (tVar 3) tNil)) (tCall (sp_stands K A) [] E0 (tCons (tVar 0) tNil))))))))

def t_basket (K : PySem.W.Frag) (A : Ad) : TS := (tSeq (tAsg (tCall (sp_refusal_in_play K A) [] E0 (tCons (tVar 0) (tCons (tAndV (tCall (sp_is_number K A) [] E0 (tCons (tVar 1) tNil)) (tChain rLeI rLeI (tC (.int 2)) (tVar 2) (tC (.int 3)))) tNil))) (gName 3)) (tSeq (tIfS (tTest (tOp rNe (tVar 3) (tC (.int 0)))) (tRet (tLst (tCons (tVar 3) tNil))) tNext) (tSeq (tIfS (tTest (tOp rEq (tFld K (tVar 0) "ball") (tC (.int (-1))))) (tRet (tLst (tCons (tC (.int (-4))) tNil))) tNext) (tSeq (tAsg (tOp (rIxL K) (tFld K (tVar 0) "teams") (tFld K (tVar 0) "ball")) (gName 4)) (tSeq (tAsg (tCall (sp_on_court K A) [] E0 (tCons (tVar 4) (tCons (tVar 1) tNil))) (gName 5)) (tSeq (tIfS (tTest (tOp rIsNo (tVar 5) (tC .non))) (tRet (tLst (tCons (tC (.int (-5))) tNil))) tNext) (tSeq (sFldAug K (tVar 5) (tVar 2) rAdd "points") (tSeq (tDrop (tCall (sp_give_ball K A) [] E0 (tCons (tVar 0) (tCons (tCall (sp_other K A) [] E0 (tCons (tFld K (tVar 0) "ball") tNil)) (tCons (tC (.int (240))) tNil))))) (tRet (tOp rCat (tLst (tCons (tCall (sp_points_of K A) [] E0 (tCons (tVar 4) tNil)) tNil)) (tCall (sp_stands K A) [] E0 (tCons (tVar 0) tNil))))))))))))

def t_miss (K : PySem.W.Frag) (A : Ad) : TS := (tSeq (tAsg (tCall (sp_refusal_in_play K A) [] E0 (tCons (tVar 0) (tCons (tAndV (tCall (sp_is_number K A) [] E0 (tCons (tVar 1) tNil)) (tCall (sp_is_truth K A) [] E0 (tCons (tVar 2) tNil))) tNil))) (gName 3)) (tSeq (tIfS (tTest (tOp rNe (tVar 3) (tC (.int 0)))) (tRet (tLst (tCons (tVar 3) tNil))) tNext) (tSeq (tIfS (tTest (tOp rEq (tFld K (tVar 0) "ball") (tC (.int (-1))))) (tRet (tLst (tCons (tC (.int (-4))) tNil))) tNext) (tSeq (tIfS (tTest (tOp rIsNo (tCall (sp_on_court K A) [] E0 (tCons (tOp (rIxL K) (tFld K (tVar 0) "teams") (tFld K (tVar 0) "ball")) (tCons (tVar 1) tNil))) (tC .non))) (tRet (tLst (tCons (tC (.int (-5))) tNil))) tNext) (tSeq (tDrop (tCall (sp_miss_by K A) [] E0 (tCons (tVar 0) (tCons (tFld K (tVar 0) "ball") (tCons (tVar 2) tNil))))) (tRet (tOp rCat (tLst (tCons (tC (.int 0)) tNil)) (tCall (sp_stands K A) [] E0 (tCons (tVar 0) tNil)))))))))

def t_shot_behind (K : PySem.W.Frag) (A : Ad) : TS := (tSeq (tIfS (tTest (tOp rNe (tVar 1) (tFld K (tVar 0) "missed"))) (tRet (tC (.int (240)))) tNext) (tSeq (tIfS (tTest (tOp rEq (tFld K (tVar 0) "ring") (tC (.int 1)))) (tRet (tC (.int (140)))) tNext) (tRet (tFld K (tFld K (tVar 0) "clock") "shot"))))

def t_rebound (K : PySem.W.Frag) (A : Ad) : TS := (tSeq (tAsg (tCall (sp_refusal_in_play K A) [] E0 (tCons (tVar 0) (tCons (tCall (sp_is_side K A) [] E0 (tCons (tVar 1) tNil)) tNil))) (gName 2)) (tSeq (tIfS (tTest (tOp rNe (tVar 2) (tC (.int 0)))) (tRet (tLst (tCons (tVar 2) tNil))) tNext) (tSeq (tIfS (tTest (tOp rNe (tFld K (tVar 0) "ball") (tC (.int (-1))))) (tRet (tLst (tCons (tC (.int (-4))) tNil))) tNext) (tSeq (tDrop (tCall (sp_give_ball K A) [] E0 (tCons (tVar 0) (tCons (tVar 1) (tCons (tCall (sp_shot_behind K A) [] E0 (tCons (tVar 0) (tCons (tVar 1) tNil))) tNil))))) (tRet (tOp rCat (tLst (tCons (tC (.int 0)) tNil)) (tCall (sp_stands K A) [] E0 (tCons (tVar 0) tNil))))))))

def t_lose (K : PySem.W.Frag) (A : Ad) : TS := (tSeq (tAsg (tCall (sp_refusal_in_play K A) [] E0 (tCons (tVar 0) (tCons (tC (.bl true)) tNil))) (gName 1)) (tSeq (tIfS (tTest (tOp rNe (tVar 1) (tC (.int 0)))) (tRet (tLst (tCons (tVar 1) tNil))) tNext) (tSeq (tIfS (tTest (tOp rEq (tFld K (tVar 0) "ball") (tC (.int (-1))))) (tRet (tLst (tCons (tC (.int (-4))) tNil))) tNext) (tSeq (tDrop (tCall (sp_give_ball K A) [] E0 (tCons (tVar 0) (tCons (tCall (sp_other K A) [] E0 (tCons (tFld K (tVar 0) "ball") tNil)) (tCons (tC (.int (240))) tNil))))) (tRet (tOp rCat (tLst (tCons (tC (.int 0)) tNil)) (tCall (sp_stands K A) [] E0 (tCons (tVar 0) tNil))))))))

def t_held (K : PySem.W.Frag) (A : Ad) : TS := (tSeq (tAsg (tCall (sp_refusal_in_play K A) [] E0 (tCons (tVar 0) (tCons (tC (.bl true)) tNil))) (gName 1)) (tSeq (tIfS (tTest (tOp rNe (tVar 1) (tC (.int 0)))) (tRet (tLst (tCons (tVar 1) tNil))) tNext) (tSeq (tIfS (tTest (tOp rNe (tFld K (tVar 0) "ball") (tFld K (tVar 0) "arrow"))) (tDrop (tCall (sp_give_ball K A) [] E0 (tCons (tVar 0) (tCons (tFld K (tVar 0) "arrow") (tCons (tC (.int (240))) tNil))))) tNext) (tSeq (tDrop (tCall (sp_turn_arrow K A) [] E0 (tCons (tVar 0) tNil))) (tRet (tOp rCat (tLst (tCons (tC (.int 0)) tNil)) (tCall (sp_stands K A) [] E0 (tCons (tVar 0) tNil))))))))

def t_rows_at (K : PySem.W.Frag) (A : Ad) : TS := (tSeq (tAsg (tOp rAddI (tOp rAddI (tVar 1) (tC (.int 1))) (tOp (rIxL K) (tVar 0) (tVar 1))) (gName 2)) (tSeq (tAsg (tOp rAddI (tOp rAddI (tVar 2) (tC (.int 1))) (tOp (rIxL K) (tVar 0) (tVar 2))) (gName 3)) (tRet (tTup (tCons (tSl (rSlL K) (tVar 0) (tPart (tOp rAddI (tVar 1) (tC (.int 1)))) (tPart (tVar 2))) (tCons (tSl (rSlL K) (tVar 0) (tPart (tOp rAddI (tVar 2) (tC (.int 1)))) (tPart (tVar 3))) (tCons (tVar 3) tNil)))))))

def t_parted (K : PySem.W.Frag) (A : Ad) : TS := (tSeq (tAsg (tLst tNil) (gName 1)) (tSeq (tAsg (tC (.int 0)) (gName 2)) (tSeq (tWhile (tTest (tOp rLtI (tVar 2) (tCB (rLenQ K) (tCons (tVar 0) tNil)))) (tSeq (tAsg (tOp (rIxL K) (tVar 0) (tVar 2)) (gName 3)) (tIfS (tTest (tOp rEq (tVar 3) (tC (.int (1))))) (tSeq (tAsg (tCall (sp_rows_at K A) [] E0 (tCons (tVar 0) (tCons (tOp rAddI (tVar 2) (tC (.int 1))) tNil))) (gTup K 3 (gCons (gName 4) (gCons (gName 5) (gCons (gName 2) gNil))))) (tDrop (tBM K "list" rAppend (tVar 1) (tCons (tTup (tCons (tVar 3) (tCons (tVar 4) (tCons (tVar 5) tNil)))) tNil)))) (tSeq (tAsg (tOp rAddI (tOp rAddI (tVar 2) (tC (.int 1))) (tCnt (tVar 3))) (gName 6)) (tSeq (tDrop (tBM K "list" rAppend (tVar 1) (tCons (tTup (tCons (tVar 3) (tCons (tSl (rSlL K) (tVar 0) (tPart (tOp rAddI (tVar 2) (tC (.int 1)))) (tPart (tVar 6))) (tCons (tLst tNil) tNil)))) tNil))) (tAsg (tVar 6) (gName 2))))))) (tRet (tVar 1)))))

def t_now (K : PySem.W.Frag) (A : Ad) : TS := (tRet (tOp rCat (tLst (tCons (tCB rInt1 (tCons (tOp rNotNo (tVar 0) (tC .non)) tNil)) tNil)) (tCall (sp_stands K A) [] E0 (tCons (tVar 0) tNil))))

def t_in_play (K : PySem.W.Frag) (A : Ad) : TS := (tSeq (tIfS (tTest (tOp rEq (tVar 1) (tC (.int 2)))) (tRet (tCall (sp_tip K A) [] E0 (tCons (tVar 0) (tCons (tOp (rIxL K) (tVar 2) (tC (.int 0))) tNil)))) tNext) (tSeq (tIfS (tTest (tOp rEq (tVar 1) (tC (.int 3)))) (tRet (tCall (sp_run K A) [] E0 (tCons (tVar 0) (tCons (tOp (rIxL K) (tVar 2) (tC (.int 0))) tNil)))) tNext) (tSeq (tIfS (tTest (tOp rEq (tVar 1) (tC (.int 4)))) (tRet (tCall (sp_basket K A) [] E0 (tCons (tVar 0) (tCons (tOp (rIxL K) (tVar 2) (tC (.int 0))) (tCons (tOp (rIxL K) (tVar 2) (tC (.int 1))) tNil))))) tNext) (tSeq (tIfS (tTest (tOp rEq (tVar 1) (tC (.int 5)))) (tRet (tCall (sp_miss K A) [] E0 (tCons (tVar 0) (tCons (tOp (rIxL K) (tVar 2) (tC (.int 0))) (tCons (tOp (rIxL K) (tVar 2) (tC (.int 1))) tNil))))) tNext) (tSeq (tIfS (tTest (tOp rEq (tVar 1) (tC (.int 6)))) (tRet (tCall (sp_rebound K A) [] E0 (tCons (tVar 0) (tCons (tOp (rIxL K) (tVar 2) (tC (.int 0))) tNil)))) tNext) (tSeq (tIfS (tTest (tOp rEq (tVar 1) (tC (.int 7)))) (tRet (tCall (sp_lose K A) [] E0 (tCons (tVar 0) tNil))) tNext) (tRet (tCall (sp_held K A) [] E0 (tCons (tVar 0) tNil)))))))))

def t_beside_play (K : PySem.W.Frag) (A : Ad) : TS := (tSeq (tIfS (tTest (tOp rEq (tVar 1) (tC (.int 9)))) (tRet (tCall (sp_foul K A) [] E0 (tCons (tVar 0) (tCons (tOp (rIxL K) (tVar 2) (tC (.int 0))) (tCons (tOp (rIxL K) (tVar 2) (tC (.int 1))) (tCons (tOp (rIxL K) (tVar 2) (tC (.int 2))) (tCons (tOp (rIxL K) (tVar 2) (tC (.int 3))) tNil))))))) tNext) (tSeq (tIfS (tTest (tOp rEq (tVar 1) (tC (.int 10)))) (tRet (tCall (sp_throw K A) [] E0 (tCons (tVar 0) (tCons (tOp (rIxL K) (tVar 2) (tC (.int 0))) (tCons (tOp (rIxL K) (tVar 2) (tC (.int 1))) tNil))))) tNext) (tSeq (tIfS (tTest (tOp rEq (tVar 1) (tC (.int 11)))) (tRet (tCall (sp_sub K A) [] E0 (tCons (tVar 0) (tCons (tOp (rIxL K) (tVar 2) (tC (.int 0))) (tCons (tOp (rIxL K) (tVar 2) (tC (.int 1))) (tCons (tOp (rIxL K) (tVar 2) (tC (.int 2))) tNil)))))) tNext) (tSeq (tIfS (tTest (tOp rEq (tVar 1) (tC (.int 12)))) (tRet (tCall (sp_enter K A) [] E0 (tCons (tVar 0) (tCons (tOp (rIxL K) (tVar 2) (tC (.int 0))) (tCons (tOp (rIxL K) (tVar 2) (tC (.int 1))) tNil))))) tNext) (tSeq (tIfS (tTest (tOp rEq (tVar 1) (tC (.int 13)))) (tRet (tCall (sp_timeout K A) [] E0 (tCons (tVar 0) (tCons (tOp (rIxL K) (tVar 2) (tC (.int 0))) tNil)))) tNext) (tSeq (tIfS (tTest (tOp rEq (tVar 1) (tC (.int 14)))) (tRet (tCall (sp_now K A) [] E0 (tCons (tVar 0) tNil))) tNext) (tRet (tCall (sp_sheet K A) [] E0 (tCons (tVar 0) (tCons (tOp (rIxL K) (tVar 2) (tC (.int 0))) tNil))))))))))

def t_answers (K : PySem.W.Frag) (A : Ad) : TS := (tSeq (tAsg (tC .non) (gName 1)) (tSeq (tAsg (tLst tNil) (gName 2)) (tSeq (tFor (iList K (tCall (sp_parted K A) [] E0 (tCons (tVar 0) tNil))) (gTup K 3 (gCons (gName 3) (gCons (gName 4) (gCons (gName 5) gNil)))) (tSeq (tAsg (tLst (tCons (tC (.int 0)) tNil)) (gName 6)) (tSeq (tIfS (tAnd (tTest (tOp rEq (tVar 3) (tC (.int (1))))) (tAnd (tB (tCall (sp_are_players K A) [] E0 (tCons (tVar 4) tNil))) (tB (tCall (sp_are_players K A) [] E0 (tCons (tVar 5) tNil))))) (tAsg (tMake A.cG (sp_init_Game K A) [] E0 (tCons (tVar 4) (tCons (tVar 5) tNil))) (gName 1)) (tIfS (tTest (tOp rEq (tVar 3) (tC (.int (1))))) (tAsg (tLst (tCons (tC (.int (-1))) tNil)) (gName 6)) (tIfS (tTest (tOp rLeI (tVar 3) (tC (.int 8)))) (tAsg (tCall (sp_in_play K A) [] E0 (tCons (tVar 1) (tCons (tVar 3) (tCons (tVar 4) tNil)))) (gName 6)) (tAsg (tCall (sp_beside_play K A) [] E0 (tCons (tVar 1) (tCons (tVar 3) (tCons (tVar 4) tNil)))) (gName 6))))) (tSeq (tDrop (tBM K "list" rAppend (tVar 2) (tCons (tCB (rLenQ K) (tCons (tVar 6) tNil)) tNil))) (tDrop (tBM K "list" rExtend (tVar 2) (tCons (tVar 6) tNil))))))) (tRet (tVar 2)))))

theorem tie_init_Player {P : Program} {w : World} {K : PySem.W.Frag} {mg : Str → Option Value} {base : Heap} {A : Ad} (T : Txt K mg A) {f : Addr} {cdv : Value} {Ar : Around} {outer : List Env} {s : Shared} {H : Hp} {E : XK} (hr : Room 0 (Ar.deeper (envOfC "Player.__init__" (defScope s_init_Player) s.heap.objs.size f cdv))) :
    PSs (cxOf CX0 P w K mg base ["self", "number", "on_court"] "Player.__init__" (defScope s_init_Player) f cdv Ar outer s H E).nox (defBody s_init_Player) (t_init_Player K A) := by
  exact (pss_cons (ps_fld (pv 0) (pv 1) rfl) (pss_cons (ps_fld (pv 0) pe_int rfl) (pss_cons (ps_fld (pv 0) pe_int rfl) (pss_cons (ps_fld (pv 0) pe_int rfl) (pss_cons (ps_fld (pv 0) pe_int rfl) (pss_cons (ps_fld (pv 0) pe_bl rfl) (pss_one (ps_fld (pv 0) (pv 2) rfl))))))))

theorem tie_is_out {P : Program} {w : World} {K : PySem.W.Frag} {mg : Str → Option Value} {base : Heap} {A : Ad} (T : Txt K mg A) {f : Addr} {cdv : Value} {Ar : Around} {outer : List Env} {s : Shared} {H : Hp} {E : XK} (hr : Room 0 (Ar.deeper (envOfC "is_out" (defScope s_is_out) s.heap.objs.size f cdv))) :
    PSs (cxOf CX0 P w K mg base ["player"] "is_out" (defScope s_is_out) f cdv Ar outer s H E).nox (defBody s_is_out) (t_is_out K A) := by
  exact (pss_cons (ps_if (PW.pt (pw_or (pt_val (pe_fld (pv 0) rfl)) (pw_or1 (pt_cmpR op_ge (pe_op op_add (pe_fld (pv 0) rfl) (pe_fld (pv 0) rfl)) (pe_gint rfl T.g_HEAVY_OUT) (nomark _))))) (pss_one (ps_ret pe_bl)) pss_nil) (pss_one (ps_ret (pe_cmpR op_ge (pe_op op_add (pe_op op_add (pe_fld (pv 0) rfl) (pe_fld (pv 0) rfl)) (pe_fld (pv 0) rfl)) (pe_gint rfl T.g_FOULS_OUT) (nomark _)))))

theorem tie_is_on_bench {P : Program} {w : World} {K : PySem.W.Frag} {mg : Str → Option Value} {base : Heap} {A : Ad} (T : Txt K mg A) (D_is_out : Def P w K mg base "is_out" ["player"] 1 (sp_is_out K A)) {f : Addr} {cdv : Value} {Ar : Around} {outer : List Env} {s : Shared} {H : Hp} {E : XK} (hr : Room 1 (Ar.deeper (envOfC "is_on_bench" (defScope s_is_on_bench) s.heap.objs.size f cdv))) :
    PSs (cxOf CX0 P w K mg base ["player"] "is_on_bench" (defScope s_is_on_bench) f cdv Ar outer s H E).nox (defBody s_is_on_bench) (t_is_on_bench K A) := by
  exact (pss_one (ps_ret (pe_and (pe_not (pe_fld (pv 0) rfl)) (pe_one (pe_not (pe_def D_is_out (hr.mono (by decide)) rfl (pa_cons (pv 0) pa_nil)))))))

theorem tie_note_foul {P : Program} {w : World} {K : PySem.W.Frag} {mg : Str → Option Value} {base : Heap} {A : Ad} (T : Txt K mg A) (D_is_out : Def P w K mg base "is_out" ["player"] 1 (sp_is_out K A)) {f : Addr} {cdv : Value} {Ar : Around} {outer : List Env} {s : Shared} {H : Hp} {E : XK} (hr : Room 1 (Ar.deeper (envOfC "note_foul" (defScope s_note_foul) s.heap.objs.size f cdv))) :
    PSs (cxOf CX0 P w K mg base ["player", "kind"] "note_foul" (defScope s_note_foul) f cdv Ar outer s H E).nox (defBody s_note_foul) (t_note_foul K A) := by
  exact (pss_cons (ps_if (pt_cmpR op_eq (pv 1) pe_int (nomark _)) (pss_one (ps_fldaug (pv 0) pe_int in_add)) (pss_one (ps_if (pt_cmpR op_eq (pv 1) (pe_gint rfl T.g_TECHNICAL_players) (nomark _)) (pss_one (ps_fldaug (pv 0) pe_int in_add)) (pss_one (ps_fldaug (pv 0) pe_int in_add))))) (pss_cons (ps_if (pt_cmpR op_eq (pv 1) (pe_gint rfl T.g_DISQUALIFYING) (nomark _)) (pss_one (ps_fld (pv 0) pe_bl rfl)) pss_nil) (pss_one (ps_if (pt_val (pe_def D_is_out (hr.mono (by decide)) rfl (pa_cons (pv 0) pa_nil))) (pss_one (ps_fld (pv 0) pe_bl rfl)) pss_nil))))

theorem tie_written {P : Program} {w : World} {K : PySem.W.Frag} {mg : Str → Option Value} {base : Heap} {A : Ad} (T : Txt K mg A) (D_is_out : Def P w K mg base "is_out" ["player"] 1 (sp_is_out K A)) {f : Addr} {cdv : Value} {Ar : Around} {outer : List Env} {s : Shared} {H : Hp} {E : XK} (hr : Room 1 (Ar.deeper (envOfC "written" (defScope s_written) s.heap.objs.size f cdv))) :
    PSs (cxOf CX0 P w K mg base ["player", "fouls"] "written" (defScope s_written) f cdv Ar outer s H E).nox (defBody s_written) (t_written K A) := by
  exact (pss_cons (ps_set (i := 1) sc_written.nd rfl (Or.inl rfl) (pe_lst (pa_cons (pe_fld (pv 0) rfl) (pa_cons (pe_fld (pv 0) rfl) (pa_cons (pe_fld (pv 0) rfl) pa_nil))))) (pss_one (ps_ret (pe_op op_cat (pe_op op_cat (pe_lst (pa_cons (pe_fld (pv 0) rfl) (pa_cons (pe_fld (pv 0) rfl) pa_nil))) (pv 1)) (pe_lst (pa_cons (pe_callTy call_int1 (by rfl) T.n_int (by decide +kernel) (pa_cons (pe_def D_is_out (hr.mono (by decide)) rfl (pa_cons (pv 0) pa_nil)) pa_nil)) (pa_cons (pe_callTy call_int1 (by rfl) T.n_int (by decide +kernel) (pa_cons (pe_fld (pv 0) rfl) pa_nil)) pa_nil)))))))

theorem tie_other {P : Program} {w : World} {K : PySem.W.Frag} {mg : Str → Option Value} {base : Heap} {A : Ad} (T : Txt K mg A) {f : Addr} {cdv : Value} {Ar : Around} {outer : List Env} {s : Shared} {H : Hp} {E : XK} (hr : Room 0 (Ar.deeper (envOfC "other" (defScope s_other) s.heap.objs.size f cdv))) :
    PSs (cxOf CX0 P w K mg base ["side"] "other" (defScope s_other) f cdv Ar outer s H E).nox (defBody s_other) (t_other K A) := by
  exact (pss_one (ps_ret (pe_op op_sub pe_int (pv 0))))

theorem tie_is_side {P : Program} {w : World} {K : PySem.W.Frag} {mg : Str → Option Value} {base : Heap} {A : Ad} (T : Txt K mg A) {f : Addr} {cdv : Value} {Ar : Around} {outer : List Env} {s : Shared} {H : Hp} {E : XK} (hr : Room 0 (Ar.deeper (envOfC "is_side" (defScope s_is_side) s.heap.objs.size f cdv))) :
    PSs (cxOf CX0 P w K mg base ["number"] "is_side" (defScope s_is_side) f cdv Ar outer s H E).nox (defBody s_is_side) (t_is_side K A) := by
  exact (pss_one (ps_ret (pe_or (pe_cmpR op_eq (pv 0) pe_int (nomark _)) (pe_one (pe_cmpR op_eq (pv 0) pe_int (nomark _))))))

theorem tie_is_number {P : Program} {w : World} {K : PySem.W.Frag} {mg : Str → Option Value} {base : Heap} {A : Ad} (T : Txt K mg A) {f : Addr} {cdv : Value} {Ar : Around} {outer : List Env} {s : Shared} {H : Hp} {E : XK} (hr : Room 0 (Ar.deeper (envOfC "is_number" (defScope s_is_number) s.heap.objs.size f cdv))) :
    PSs (cxOf CX0 P w K mg base ["number"] "is_number" (defScope s_is_number) f cdv Ar outer s H E).nox (defBody s_is_number) (t_is_number K A) := by
  exact (pss_one (ps_ret (pe_chain op_le op_le pe_int (pv 0) (pe_gint rfl T.g_GREATEST_NUMBER))))

theorem tie_is_truth {P : Program} {w : World} {K : PySem.W.Frag} {mg : Str → Option Value} {base : Heap} {A : Ad} (T : Txt K mg A) {f : Addr} {cdv : Value} {Ar : Around} {outer : List Env} {s : Shared} {H : Hp} {E : XK} (hr : Room 0 (Ar.deeper (envOfC "is_truth" (defScope s_is_truth) s.heap.objs.size f cdv))) :
    PSs (cxOf CX0 P w K mg base ["number"] "is_truth" (defScope s_is_truth) f cdv Ar outer s H E).nox (defBody s_is_truth) (t_is_truth K A) := by
  exact (pss_one (ps_ret (pe_or (pe_cmpR op_eq (pv 0) pe_int (nomark _)) (pe_one (pe_cmpR op_eq (pv 0) pe_int (nomark _))))))

theorem tie_init_Team {P : Program} {w : World} {K : PySem.W.Frag} {mg : Str → Option Value} {base : Heap} {A : Ad} (T : Txt K mg A) (M_Player : MkD P w K mg base A.cP "Player" ["self", "number", "on_court"] 1 (sp_init_Player K A)) {f : Addr} {cdv : Value} {Ar : Around} {outer : List Env} {s : Shared} {H : Hp} {E : XK} (hr : Room 2 (Ar.deeper (envOfC "Team.__init__" (defScope s_init_Team) s.heap.objs.size f cdv))) :
    PSs (cxOf CX0 P w K mg base ["self", "numbers", "at", "number"] "Team.__init__" (defScope s_init_Team) f cdv Ar outer s H E).nox (defBody s_init_Team) (t_init_Team K A) := by
  exact (pss_cons (ps_fld (pv 0) (pe_lc (own := [("at", 2), ("number", 3)]) rfl sc_init_Team.nd (pi_enum (by rfl) T.n_enumerate (pa_cons (pv 1) pa_nil)) (blkOk_by (own := [("at", 2), ("number", 3)]) (N := ["self", "numbers", "at", "number"]) (sc := defScope s_init_Team) (by decide +kernel)) (fun _ _ _ _ _ => (pg_tup rfl (pgs_cons (pg_name (i := 2) sc_init_Team.nd rfl (Or.inl rfl)) (pgs_cons (pg_name (i := 3) sc_init_Team.nd rfl (Or.inl rfl)) pgs_nil)))) (fun _ _ _ _ _ => pts_nil) (fun _ _ _ _ _ => (pe_mk M_Player (hr.mono (by decide)) rfl (pa_cons (pv 3) (pa_cons (pe_cmpR op_lt (pv 2) (pe_gint rfl T.g_FIVE) (nomark _)) pa_nil))))) rfl) (pss_cons (ps_fld (pv 0) pe_int rfl) (pss_one (ps_fld (pv 0) pe_int rfl))))

theorem tie_are_players {P : Program} {w : World} {K : PySem.W.Frag} {mg : Str → Option Value} {base : Heap} {A : Ad} (T : Txt K mg A) (D_is_number : Def P w K mg base "is_number" ["number"] 1 (sp_is_number K A)) {f : Addr} {cdv : Value} {Ar : Around} {outer : List Env} {s : Shared} {H : Hp} {E : XK} (hr : Room 1 (Ar.deeper (envOfC "are_players" (defScope s_are_players) s.heap.objs.size f cdv))) :
    PSs (cxOf CX0 P w K mg base ["numbers", "at", "number"] "are_players" (defScope s_are_players) f cdv Ar outer s H E).nox (defBody s_are_players) (t_are_players K A) := by
  exact (pss_cons (ps_if (pt_not (pt_chain op_le op_le (pe_gint rfl T.g_FEWEST_PLAYERS) (pe_callB call_len_seq (by rfl) T.n_len (by decide +kernel) (pa_cons (pv 0) pa_nil)) (pe_gint rfl T.g_MOST_PLAYERS))) (pss_one (ps_ret pe_bl)) pss_nil) (pss_cons (ps_for PassesOwn.never rfl (pi_enum (by rfl) T.n_enumerate (pa_cons (pv 0) pa_nil)) (pg_tup rfl (pgs_cons (pg_name (i := 1) sc_are_players.nd rfl (Or.inl rfl)) (pgs_cons (pg_name (i := 2) sc_are_players.nd rfl (Or.inl rfl)) pgs_nil))) (pss_one (ps_if (PW.pt (pw_or (pt_not (pt_val (pe_def D_is_number (hr.mono (by decide)) rfl (pa_cons (pv 2) pa_nil)))) (pw_or1 (pt_cmpR op_in_seq (pv 2) (pe_slice sl_list (pv 0) po_none (po_some (pv 1))) (by rfl))))) (pss_one (ps_ret pe_bl)) pss_nil))) (pss_one (ps_ret pe_bl))))

theorem tie_points_of {P : Program} {w : World} {K : PySem.W.Frag} {mg : Str → Option Value} {base : Heap} {A : Ad} (T : Txt K mg A) {f : Addr} {cdv : Value} {Ar : Around} {outer : List Env} {s : Shared} {H : Hp} {E : XK} (hr : Room 0 (Ar.deeper (envOfC "points_of" (defScope s_points_of) s.heap.objs.size f cdv))) :
    PSs (cxOf CX0 P w K mg base ["team", "player"] "points_of" (defScope s_points_of) f cdv Ar outer s H E).nox (defBody s_points_of) (t_points_of K A) := by
  exact (pss_one (ps_ret (pe_callB (cr_sum rfl) (by rfl) T.n_sum (by decide +kernel) (pa_cons (pe_lc (own := [("player", 1)]) rfl sc_points_of.nd (pi_list (pe_fld (pv 0) rfl)) (blkOk_by (own := [("player", 1)]) (N := ["team", "player"]) (sc := defScope s_points_of) (by decide +kernel)) (fun _ _ _ _ _ => (pg_name (i := 1) sc_points_of.nd rfl (Or.inl rfl))) (fun _ _ _ _ _ => pts_nil) (fun _ _ _ _ _ => (pe_fld (pv 1) rfl))) pa_nil))))

theorem tie_on_court {P : Program} {w : World} {K : PySem.W.Frag} {mg : Str → Option Value} {base : Heap} {A : Ad} (T : Txt K mg A) {f : Addr} {cdv : Value} {Ar : Around} {outer : List Env} {s : Shared} {H : Hp} {E : XK} (hr : Room 0 (Ar.deeper (envOfC "on_court" (defScope s_on_court) s.heap.objs.size f cdv))) :
    PSs (cxOf CX0 P w K mg base ["team", "number", "player"] "on_court" (defScope s_on_court) f cdv Ar outer s H E).nox (defBody s_on_court) (t_on_court K A) := by
  exact (pss_cons (ps_for PassesOwn.never rfl (pi_list (pe_fld (pv 0) rfl)) (pg_name (i := 2) sc_on_court.nd rfl (Or.inl rfl)) (pss_one (ps_if (PW.pt (pw_and (pt_cmpR op_eq (pe_fld (pv 2) rfl) (pv 1) (nomark _)) (pw_and1 (pt_val (pe_fld (pv 2) rfl))))) (pss_one (ps_ret (pv 2))) pss_nil))) (pss_one (ps_ret pe_non)))

theorem tie_on_bench {P : Program} {w : World} {K : PySem.W.Frag} {mg : Str → Option Value} {base : Heap} {A : Ad} (T : Txt K mg A) (D_is_on_bench : Def P w K mg base "is_on_bench" ["player"] 2 (sp_is_on_bench K A)) {f : Addr} {cdv : Value} {Ar : Around} {outer : List Env} {s : Shared} {H : Hp} {E : XK} (hr : Room 2 (Ar.deeper (envOfC "on_bench" (defScope s_on_bench) s.heap.objs.size f cdv))) :
    PSs (cxOf CX0 P w K mg base ["team", "number", "player"] "on_bench" (defScope s_on_bench) f cdv Ar outer s H E).nox (defBody s_on_bench) (t_on_bench K A) := by
  exact (pss_cons (ps_for PassesOwn.never rfl (pi_list (pe_fld (pv 0) rfl)) (pg_name (i := 2) sc_on_bench.nd rfl (Or.inl rfl)) (pss_one (ps_if (PW.pt (pw_and (pt_cmpR op_eq (pe_fld (pv 2) rfl) (pv 1) (nomark _)) (pw_and1 (pt_val (pe_def D_is_on_bench (hr.mono (by decide)) rfl (pa_cons (pv 2) pa_nil)))))) (pss_one (ps_ret (pv 2))) pss_nil))) (pss_one (ps_ret pe_non)))

theorem tie_many_on_court {P : Program} {w : World} {K : PySem.W.Frag} {mg : Str → Option Value} {base : Heap} {A : Ad} (T : Txt K mg A) {f : Addr} {cdv : Value} {Ar : Around} {outer : List Env} {s : Shared} {H : Hp} {E : XK} (hr : Room 0 (Ar.deeper (envOfC "many_on_court" (defScope s_many_on_court) s.heap.objs.size f cdv))) :
    PSs (cxOf CX0 P w K mg base ["team", "player"] "many_on_court" (defScope s_many_on_court) f cdv Ar outer s H E).nox (defBody s_many_on_court) (t_many_on_court K A) := by
  exact (pss_one (ps_ret (pe_callB call_len_seq (by rfl) T.n_len (by decide +kernel) (pa_cons (pe_lc (own := [("player", 1)]) rfl sc_many_on_court.nd (pi_list (pe_fld (pv 0) rfl)) (blkOk_by (own := [("player", 1)]) (N := ["team", "player"]) (sc := defScope s_many_on_court) (by decide +kernel)) (fun _ _ _ _ _ => (pg_name (i := 1) sc_many_on_court.nd rfl (Or.inl rfl))) (fun _ _ _ _ _ => (pts_one (pt_val (pe_fld (pv 1) rfl)))) (fun _ _ _ _ _ => (pv 1))) pa_nil))))

theorem tie_is_short {P : Program} {w : World} {K : PySem.W.Frag} {mg : Str → Option Value} {base : Heap} {A : Ad} (T : Txt K mg A) (D_many_on_court : Def P w K mg base "many_on_court" ["team"] 1 (sp_many_on_court K A)) (D_is_on_bench : Def P w K mg base "is_on_bench" ["player"] 2 (sp_is_on_bench K A)) {f : Addr} {cdv : Value} {Ar : Around} {outer : List Env} {s : Shared} {H : Hp} {E : XK} (hr : Room 2 (Ar.deeper (envOfC "is_short" (defScope s_is_short) s.heap.objs.size f cdv))) :
    PSs (cxOf CX0 P w K mg base ["team", "player"] "is_short" (defScope s_is_short) f cdv Ar outer s H E).nox (defBody s_is_short) (t_is_short K A) := by
  exact (pss_one (ps_ret (pe_and (pe_cmpR op_lt (pe_def D_many_on_court (hr.mono (by decide)) rfl (pa_cons (pv 0) pa_nil)) (pe_gint rfl T.g_FIVE) (nomark _)) (pe_one (pe_callB (cr_any rfl) (by rfl) T.n_any (by decide +kernel) (pa_cons (pe_lc (own := [("player", 1)]) rfl sc_is_short.nd (pi_list (pe_fld (pv 0) rfl)) (blkOk_by (own := [("player", 1)]) (N := ["team", "player"]) (sc := defScope s_is_short) (by decide +kernel)) (fun _ _ _ _ _ => (pg_name (i := 1) sc_is_short.nd rfl (Or.inl rfl))) (fun _ _ _ _ _ => pts_nil) (fun _ _ _ _ _ => (pe_def D_is_on_bench (hr.mono (by decide)) rfl (pa_cons (pv 1) pa_nil)))) pa_nil))))))

theorem tie_sheet_of {P : Program} {w : World} {K : PySem.W.Frag} {mg : Str → Option Value} {base : Heap} {A : Ad} (T : Txt K mg A) (D_points_of : Def P w K mg base "points_of" ["team"] 1 (sp_points_of K A)) (D_written : Def P w K mg base "written" ["player"] 2 (sp_written K A)) {f : Addr} {cdv : Value} {Ar : Around} {outer : List Env} {s : Shared} {H : Hp} {E : XK} (hr : Room 2 (Ar.deeper (envOfC "sheet_of" (defScope s_sheet_of) s.heap.objs.size f cdv))) :
    PSs (cxOf CX0 P w K mg base ["team", "found", "player"] "sheet_of" (defScope s_sheet_of) f cdv Ar outer s H E).nox (defBody s_sheet_of) (t_sheet_of K A) := by
  exact (pss_cons (ps_set (i := 1) sc_sheet_of.nd rfl (Or.inl rfl) (pe_lst (pa_cons (pe_def D_points_of (hr.mono (by decide)) rfl (pa_cons (pv 0) pa_nil)) (pa_cons (pe_fld (pv 0) rfl) (pa_cons (pe_fld (pv 0) rfl) pa_nil))))) (pss_cons (ps_for PassesOwn.never rfl (pi_list (pe_fld (pv 0) rfl)) (pg_name (i := 2) sc_sheet_of.nd rfl (Or.inl rfl)) (pss_one (ps_expr (pe_bm PySem.F.plainAttrs_list PySem.F.slot_list_extend PySem.F.type_list_extend mt_extend (pv 1) (pa_cons (pe_def D_written (hr.mono (by decide)) rfl (pa_cons (pv 2) pa_nil)) pa_nil))))) (pss_one (ps_ret (pv 1)))))

theorem tie_init_Clock {P : Program} {w : World} {K : PySem.W.Frag} {mg : Str → Option Value} {base : Heap} {A : Ad} (T : Txt K mg A) {f : Addr} {cdv : Value} {Ar : Around} {outer : List Env} {s : Shared} {H : Hp} {E : XK} (hr : Room 0 (Ar.deeper (envOfC "Clock.__init__" (defScope s_init_Clock) s.heap.objs.size f cdv))) :
    PSs (cxOf CX0 P w K mg base ["self"] "Clock.__init__" (defScope s_init_Clock) f cdv Ar outer s H E).nox (defBody s_init_Clock) (t_init_Clock K A) := by
  exact (pss_cons (ps_fld (pv 0) pe_int rfl) (pss_cons (ps_fld (pv 0) pe_int rfl) (pss_one (ps_fld (pv 0) pe_int rfl))))

theorem tie_init_Throws {P : Program} {w : World} {K : PySem.W.Frag} {mg : Str → Option Value} {base : Heap} {A : Ad} (T : Txt K mg A) {f : Addr} {cdv : Value} {Ar : Around} {outer : List Env} {s : Shared} {H : Hp} {E : XK} (hr : Room 0 (Ar.deeper (envOfC "Throws.__init__" (defScope s_init_Throws) s.heap.objs.size f cdv))) :
    PSs (cxOf CX0 P w K mg base ["self"] "Throws.__init__" (defScope s_init_Throws) f cdv Ar outer s H E).nox (defBody s_init_Throws) (t_init_Throws K A) := by
  exact (pss_cons (ps_fld (pv 0) pe_int rfl) (pss_cons (ps_fld (pv 0) pe_int rfl) (pss_one (ps_fld (pv 0) (pe_gint rfl T.g_AS_IT_WAS) rfl))))

theorem tie_init_Game {P : Program} {w : World} {K : PySem.W.Frag} {mg : Str → Option Value} {base : Heap} {A : Ad} (T : Txt K mg A) (M_Team : MkD P w K mg base A.cT "Team" ["self", "numbers"] 3 (sp_init_Team K A)) (M_Clock : MkD P w K mg base A.cC "Clock" ["self"] 1 (sp_init_Clock K A)) (M_Throws : MkD P w K mg base A.cH "Throws" ["self"] 1 (sp_init_Throws K A)) {f : Addr} {cdv : Value} {Ar : Around} {outer : List Env} {s : Shared} {H : Hp} {E : XK} (hr : Room 4 (Ar.deeper (envOfC "Game.__init__" (defScope s_init_Game) s.heap.objs.size f cdv))) :
    PSs (cxOf CX0 P w K mg base ["self", "first", "second"] "Game.__init__" (defScope s_init_Game) f cdv Ar outer s H E).nox (defBody s_init_Game) (t_init_Game K A) := by
  exact (pss_cons (ps_fld (pv 0) (pe_lst (pa_cons (pe_mk M_Team (hr.mono (by decide)) rfl (pa_cons (pv 1) pa_nil)) (pa_cons (pe_mk M_Team (hr.mono (by decide)) rfl (pa_cons (pv 2) pa_nil)) pa_nil))) rfl) (pss_cons (ps_fld (pv 0) (pe_mk0 M_Clock (hr.mono (by decide)) rfl) rfl) (pss_cons (ps_fld (pv 0) (pe_mk0 M_Throws (hr.mono (by decide)) rfl) rfl) (pss_cons (ps_fld (pv 0) (pe_gint rfl T.g_NOBODY) rfl) (pss_cons (ps_fld (pv 0) pe_int rfl) (pss_cons (ps_fld (pv 0) pe_int rfl) (pss_cons (ps_fld (pv 0) pe_int rfl) (pss_one (ps_fld (pv 0) (pe_gint rfl T.g_NOBODY) rfl)))))))))

theorem tie_stands {P : Program} {w : World} {K : PySem.W.Frag} {mg : Str → Option Value} {base : Heap} {A : Ad} (T : Txt K mg A) (D_points_of : Def P w K mg base "points_of" ["team"] 1 (sp_points_of K A)) {f : Addr} {cdv : Value} {Ar : Around} {outer : List Env} {s : Shared} {H : Hp} {E : XK} (hr : Room 1 (Ar.deeper (envOfC "stands" (defScope s_stands) s.heap.objs.size f cdv))) :
    PSs (cxOf CX0 P w K mg base ["game", "points", "team", "clocks"] "stands" (defScope s_stands) f cdv Ar outer s H E).nox (defBody s_stands) (t_stands K A) := by
  exact (pss_cons (ps_if (pt_cmpR op_isN (pv 0) pe_non (nomark _)) (pss_one (ps_ret (pe_lst (pa_cons pe_int (pa_cons pe_int (pa_cons pe_int (pa_cons pe_int (pa_cons pe_int (pa_cons (pe_gint rfl T.g_NOBODY) (pa_cons pe_int (pa_cons pe_int (pa_cons (pe_gint rfl T.g_NOBODY) pa_nil)))))))))))) pss_nil) (pss_cons (ps_setLc (i := 1) (own := [("team", 2)]) rfl sc_stands.nd rfl rfl (sw_true rfl rfl rfl (by decide +kernel)) (pi_list (pe_fld (pv 0) rfl)) (blkOk_by (own := [("team", 2)]) (N := ["game", "points", "team", "clocks"]) (sc := defScope s_stands) (by decide +kernel)) (fun _ _ _ _ _ => (pg_name (i := 2) sc_stands.nd rfl (Or.inl rfl))) (fun _ _ _ _ _ => pts_nil) (fun _ _ _ _ _ => (pe_def D_points_of (hr.mono (by decide)) rfl (pa_cons (pv 2) pa_nil)))) (pss_cons (ps_set (i := 3) sc_stands.nd rfl (Or.inl rfl) (pe_lst (pa_cons (pe_fld (pe_fld (pv 0) rfl) rfl) (pa_cons (pe_fld (pe_fld (pv 0) rfl) rfl) (pa_cons (pe_fld (pe_fld (pv 0) rfl) rfl) pa_nil))))) (pss_one (ps_ret (pe_op op_cat (pe_op op_cat (pv 1) (pv 3)) (pe_lst (pa_cons (pe_fld (pv 0) rfl) (pa_cons (pe_fld (pv 0) rfl) (pa_cons (pe_fld (pe_fld (pv 0) rfl) rfl) (pa_cons (pe_fld (pv 0) rfl) pa_nil)))))))))))

theorem tie_is_played {P : Program} {w : World} {K : PySem.W.Frag} {mg : Str → Option Value} {base : Heap} {A : Ad} (T : Txt K mg A) {f : Addr} {cdv : Value} {Ar : Around} {outer : List Env} {s : Shared} {H : Hp} {E : XK} (hr : Room 0 (Ar.deeper (envOfC "is_played" (defScope s_is_played) s.heap.objs.size f cdv))) :
    PSs (cxOf CX0 P w K mg base ["game"] "is_played" (defScope s_is_played) f cdv Ar outer s H E).nox (defBody s_is_played) (t_is_played K A) := by
  exact (pss_one (ps_ret (pe_and (pe_cmpR op_notN (pv 0) pe_non (nomark _)) (pe_and (pe_cmpR op_gt (pe_fld (pe_fld (pv 0) rfl) rfl) pe_int (nomark _)) (pe_one (pe_cmpR op_eq (pe_fld (pv 0) rfl) (pe_gint rfl T.g_NOBODY) (nomark _)))))))

theorem tie_refusal {P : Program} {w : World} {K : PySem.W.Frag} {mg : Str → Option Value} {base : Heap} {A : Ad} (T : Txt K mg A) (D_is_played : Def P w K mg base "is_played" ["game"] 1 (sp_is_played K A)) {f : Addr} {cdv : Value} {Ar : Around} {outer : List Env} {s : Shared} {H : Hp} {E : XK} (hr : Room 1 (Ar.deeper (envOfC "refusal" (defScope s_refusal) s.heap.objs.size f cdv))) :
    PSs (cxOf CX0 P w K mg base ["game", "right"] "refusal" (defScope s_refusal) f cdv Ar outer s H E).nox (defBody s_refusal) (t_refusal K A) := by
  exact (pss_cons (ps_if (pt_not (pt_val (pv 1))) (pss_one (ps_ret (pe_gint rfl T.g_WRONG))) pss_nil) (pss_cons (ps_if (pt_not (pt_val (pe_def D_is_played (hr.mono (by decide)) rfl (pa_cons (pv 0) pa_nil)))) (pss_one (ps_ret (pe_gint rfl T.g_NOT_PLAYED))) pss_nil) (pss_one (ps_ret pe_int))))

theorem tie_is_any_short {P : Program} {w : World} {K : PySem.W.Frag} {mg : Str → Option Value} {base : Heap} {A : Ad} (T : Txt K mg A) (D_is_short : Def P w K mg base "is_short" ["team"] 3 (sp_is_short K A)) {f : Addr} {cdv : Value} {Ar : Around} {outer : List Env} {s : Shared} {H : Hp} {E : XK} (hr : Room 3 (Ar.deeper (envOfC "is_any_short" (defScope s_is_any_short) s.heap.objs.size f cdv))) :
    PSs (cxOf CX0 P w K mg base ["game"] "is_any_short" (defScope s_is_any_short) f cdv Ar outer s H E).nox (defBody s_is_any_short) (t_is_any_short K A) := by
  exact (pss_one (ps_ret (pe_or (pe_def D_is_short (hr.mono (by decide)) rfl (pa_cons (pe_ix ix_list (pe_fld (pv 0) rfl) pe_int (fun _ _ => rfl)) pa_nil)) (pe_one (pe_def D_is_short (hr.mono (by decide)) rfl (pa_cons (pe_ix ix_list (pe_fld (pv 0) rfl) pe_int (fun _ _ => rfl)) pa_nil))))))

theorem tie_refusal_in_play {P : Program} {w : World} {K : PySem.W.Frag} {mg : Str → Option Value} {base : Heap} {A : Ad} (T : Txt K mg A) (D_refusal : Def P w K mg base "refusal" ["game", "right"] 2 (sp_refusal K A)) (D_is_any_short : Def P w K mg base "is_any_short" ["game"] 4 (sp_is_any_short K A)) {f : Addr} {cdv : Value} {Ar : Around} {outer : List Env} {s : Shared} {H : Hp} {E : XK} (hr : Room 4 (Ar.deeper (envOfC "refusal_in_play" (defScope s_refusal_in_play) s.heap.objs.size f cdv))) :
    PSs (cxOf CX0 P w K mg base ["game", "right", "found"] "refusal_in_play" (defScope s_refusal_in_play) f cdv Ar outer s H E).nox (defBody s_refusal_in_play) (t_refusal_in_play K A) := by
  exact (pss_cons (ps_set (i := 2) sc_refusal_in_play.nd rfl (Or.inl rfl) (pe_def D_refusal (hr.mono (by decide)) rfl (pa_cons (pv 0) (pa_cons (pv 1) pa_nil)))) (pss_cons (ps_if (pt_cmpR op_ne (pv 2) pe_int (nomark _)) (pss_one (ps_ret (pv 2))) pss_nil) (pss_cons (ps_if (pt_cmpR op_gt (pe_fld (pe_fld (pv 0) rfl) rfl) pe_int (nomark _)) (pss_one (ps_ret (pe_gint rfl T.g_THROWS_THERE))) pss_nil) (pss_cons (ps_if (pt_val (pe_def D_is_any_short (hr.mono (by decide)) rfl (pa_cons (pv 0) pa_nil))) (pss_one (ps_ret (pe_gint rfl T.g_COURT_SHORT))) pss_nil) (pss_one (ps_ret pe_int))))))

theorem tie_give_ball {P : Program} {w : World} {K : PySem.W.Frag} {mg : Str → Option Value} {base : Heap} {A : Ad} (T : Txt K mg A) {f : Addr} {cdv : Value} {Ar : Around} {outer : List Env} {s : Shared} {H : Hp} {E : XK} (hr : Room 0 (Ar.deeper (envOfC "give_ball" (defScope s_give_ball) s.heap.objs.size f cdv))) :
    PSs (cxOf CX0 P w K mg base ["game", "side", "shot"] "give_ball" (defScope s_give_ball) f cdv Ar outer s H E).nox (defBody s_give_ball) (t_give_ball K A) := by
  exact (pss_cons (ps_fld (pv 0) (pv 1) rfl) (pss_one (ps_fld (pe_fld (pv 0) rfl) (pv 2) rfl)))

theorem tie_miss_by {P : Program} {w : World} {K : PySem.W.Frag} {mg : Str → Option Value} {base : Heap} {A : Ad} (T : Txt K mg A) {f : Addr} {cdv : Value} {Ar : Around} {outer : List Env} {s : Shared} {H : Hp} {E : XK} (hr : Room 0 (Ar.deeper (envOfC "miss_by" (defScope s_miss_by) s.heap.objs.size f cdv))) :
    PSs (cxOf CX0 P w K mg base ["game", "side", "ring"] "miss_by" (defScope s_miss_by) f cdv Ar outer s H E).nox (defBody s_miss_by) (t_miss_by K A) := by
  exact (pss_cons (ps_fld (pv 0) (pe_gint rfl T.g_NOBODY) rfl) (pss_cons (ps_fld (pv 0) (pv 1) rfl) (pss_one (ps_fld (pv 0) (pv 2) rfl))))

theorem tie_end_game {P : Program} {w : World} {K : PySem.W.Frag} {mg : Str → Option Value} {base : Heap} {A : Ad} (T : Txt K mg A) {f : Addr} {cdv : Value} {Ar : Around} {outer : List Env} {s : Shared} {H : Hp} {E : XK} (hr : Room 0 (Ar.deeper (envOfC "end_game" (defScope s_end_game) s.heap.objs.size f cdv))) :
    PSs (cxOf CX0 P w K mg base ["game", "winner"] "end_game" (defScope s_end_game) f cdv Ar outer s H E).nox (defBody s_end_game) (t_end_game K A) := by
  exact (pss_cons (ps_fld (pv 0) (pv 1) rfl) (pss_cons (ps_fld (pv 0) (pe_gint rfl T.g_NOBODY) rfl) (pss_one (ps_fld (pe_fld (pv 0) rfl) pe_int rfl))))

theorem tie_turn_arrow {P : Program} {w : World} {K : PySem.W.Frag} {mg : Str → Option Value} {base : Heap} {A : Ad} (T : Txt K mg A) (D_other : Def P w K mg base "other" ["side"] 1 (sp_other K A)) {f : Addr} {cdv : Value} {Ar : Around} {outer : List Env} {s : Shared} {H : Hp} {E : XK} (hr : Room 1 (Ar.deeper (envOfC "turn_arrow" (defScope s_turn_arrow) s.heap.objs.size f cdv))) :
    PSs (cxOf CX0 P w K mg base ["game"] "turn_arrow" (defScope s_turn_arrow) f cdv Ar outer s H E).nox (defBody s_turn_arrow) (t_turn_arrow K A) := by
  exact (pss_one (ps_fld (pv 0) (pe_def D_other (hr.mono (by decide)) rfl (pa_cons (pe_fld (pv 0) rfl) pa_nil)) rfl))

theorem tie_count_anew {P : Program} {w : World} {K : PySem.W.Frag} {mg : Str → Option Value} {base : Heap} {A : Ad} (T : Txt K mg A) {f : Addr} {cdv : Value} {Ar : Around} {outer : List Env} {s : Shared} {H : Hp} {E : XK} (hr : Room 0 (Ar.deeper (envOfC "count_anew" (defScope s_count_anew) s.heap.objs.size f cdv))) :
    PSs (cxOf CX0 P w K mg base ["team", "period"] "count_anew" (defScope s_count_anew) f cdv Ar outer s H E).nox (defBody s_count_anew) (t_count_anew K A) := by
  exact (pss_cons (ps_if (pt_cmpR op_le (pv 1) (pe_gint rfl T.g_QUARTERS) (nomark _)) (pss_one (ps_fld (pv 0) pe_int rfl)) pss_nil) (pss_one (ps_if (PW.pt (pw_or (pt_cmpR op_eq (pv 1) (pe_gint rfl T.g_FIRST_OF_LAST_TWO) (nomark _)) (pw_or1 (pt_cmpR op_gt (pv 1) (pe_gint rfl T.g_QUARTERS) (nomark _))))) (pss_one (ps_fld (pv 0) pe_int rfl)) pss_nil)))

theorem tie_begin_period {P : Program} {w : World} {K : PySem.W.Frag} {mg : Str → Option Value} {base : Heap} {A : Ad} (T : Txt K mg A) (D_count_anew : Def P w K mg base "count_anew" ["team", "period"] 1 (sp_count_anew K A)) (D_give_ball : Def P w K mg base "give_ball" ["game", "side", "shot"] 1 (sp_give_ball K A)) (D_turn_arrow : Def P w K mg base "turn_arrow" ["game"] 2 (sp_turn_arrow K A)) {f : Addr} {cdv : Value} {Ar : Around} {outer : List Env} {s : Shared} {H : Hp} {E : XK} (hr : Room 2 (Ar.deeper (envOfC "begin_period" (defScope s_begin_period) s.heap.objs.size f cdv))) :
    PSs (cxOf CX0 P w K mg base ["game", "period", "team"] "begin_period" (defScope s_begin_period) f cdv Ar outer s H E).nox (defBody s_begin_period) (t_begin_period K A) := by
  exact (pss_cons (ps_set (i := 1) sc_begin_period.nd rfl (Or.inl rfl) (pe_op op_add (pe_fld (pe_fld (pv 0) rfl) rfl) pe_int)) (pss_cons (ps_fld (pe_fld (pv 0) rfl) (pv 1) rfl) (pss_cons (ps_fld (pe_fld (pv 0) rfl) (pe_ifExp (pt_cmpR op_le (pv 1) (pe_gint rfl T.g_QUARTERS) (nomark _)) (pe_gint rfl T.g_QUARTER) (pe_gint rfl T.g_EXTRA)) rfl) (pss_cons (ps_for PassesOwn.never rfl (pi_list (pe_fld (pv 0) rfl)) (pg_name (i := 2) sc_begin_period.nd rfl (Or.inl rfl)) (pss_one (ps_expr (pe_def D_count_anew (hr.mono (by decide)) rfl (pa_cons (pv 2) (pa_cons (pv 1) pa_nil)))))) (pss_cons (ps_expr (pe_def D_give_ball (hr.mono (by decide)) rfl (pa_cons (pv 0) (pa_cons (pe_fld (pv 0) rfl) (pa_cons (pe_gint rfl T.g_FULL_SHOT) pa_nil))))) (pss_one (ps_expr (pe_def D_turn_arrow (hr.mono (by decide)) rfl (pa_cons (pv 0) pa_nil)))))))))

theorem tie_end_period {P : Program} {w : World} {K : PySem.W.Frag} {mg : Str → Option Value} {base : Heap} {A : Ad} (T : Txt K mg A) (D_points_of : Def P w K mg base "points_of" ["team"] 1 (sp_points_of K A)) (D_end_game : Def P w K mg base "end_game" ["game", "winner"] 1 (sp_end_game K A)) (D_begin_period : Def P w K mg base "begin_period" ["game"] 3 (sp_begin_period K A)) {f : Addr} {cdv : Value} {Ar : Around} {outer : List Env} {s : Shared} {H : Hp} {E : XK} (hr : Room 3 (Ar.deeper (envOfC "end_period" (defScope s_end_period) s.heap.objs.size f cdv))) :
    PSs (cxOf CX0 P w K mg base ["game", "first", "second"] "end_period" (defScope s_end_period) f cdv Ar outer s H E).nox (defBody s_end_period) (t_end_period K A) := by
  exact (pss_cons (ps_par (i := 1) (j := 2) rfl sc_end_period.nd rfl rfl (by decide) rfl rfl (pa_cons (pe_def D_points_of (hr.mono (by decide)) rfl (pa_cons (pe_ix ix_list (pe_fld (pv 0) rfl) pe_int (fun _ _ => rfl)) pa_nil)) (pa_cons (pe_def D_points_of (hr.mono (by decide)) rfl (pa_cons (pe_ix ix_list (pe_fld (pv 0) rfl) pe_int (fun _ _ => rfl)) pa_nil)) pa_nil)) (by rfl)) (pss_one (ps_if (PW.pt (pw_and (pt_cmpR op_ge (pe_fld (pe_fld (pv 0) rfl) rfl) (pe_gint rfl T.g_QUARTERS) (nomark _)) (pw_and1 (pt_cmpR op_gt (pv 1) (pv 2) (nomark _))))) (pss_one (ps_expr (pe_def D_end_game (hr.mono (by decide)) rfl (pa_cons (pv 0) (pa_cons pe_int pa_nil))))) (pss_one (ps_if (PW.pt (pw_and (pt_cmpR op_ge (pe_fld (pe_fld (pv 0) rfl) rfl) (pe_gint rfl T.g_QUARTERS) (nomark _)) (pw_and1 (pt_cmpR op_gt (pv 2) (pv 1) (nomark _))))) (pss_one (ps_expr (pe_def D_end_game (hr.mono (by decide)) rfl (pa_cons (pv 0) (pa_cons pe_int pa_nil))))) (pss_one (ps_expr (pe_def D_begin_period (hr.mono (by decide)) rfl (pa_cons (pv 0) pa_nil)))))))))

theorem tie_sub {P : Program} {w : World} {K : PySem.W.Frag} {mg : Str → Option Value} {base : Heap} {A : Ad} (T : Txt K mg A) (D_is_side : Def P w K mg base "is_side" ["number"] 1 (sp_is_side K A)) (D_is_number : Def P w K mg base "is_number" ["number"] 1 (sp_is_number K A)) (D_refusal : Def P w K mg base "refusal" ["game", "right"] 2 (sp_refusal K A)) (D_on_court : Def P w K mg base "on_court" ["team", "number"] 1 (sp_on_court K A)) (D_on_bench : Def P w K mg base "on_bench" ["team", "number"] 3 (sp_on_bench K A)) {f : Addr} {cdv : Value} {Ar : Around} {outer : List Env} {s : Shared} {H : Hp} {E : XK} (hr : Room 3 (Ar.deeper (envOfC "sub" (defScope s_sub) s.heap.objs.size f cdv))) :
    PSs (cxOf CX0 P w K mg base ["game", "side", "goes", "comes", "found", "leaving", "coming"] "sub" (defScope s_sub) f cdv Ar outer s H E).nox (defBody s_sub) (t_sub K A) := by
  exact (pss_cons (ps_set (i := 4) sc_sub.nd rfl (Or.inl rfl) (pe_def D_refusal (hr.mono (by decide)) rfl (pa_cons (pv 0) (pa_cons (pe_and (pe_def D_is_side (hr.mono (by decide)) rfl (pa_cons (pv 1) pa_nil)) (pe_and (pe_def D_is_number (hr.mono (by decide)) rfl (pa_cons (pv 2) pa_nil)) (pe_one (pe_def D_is_number (hr.mono (by decide)) rfl (pa_cons (pv 3) pa_nil))))) pa_nil)))) (pss_cons (ps_if (pt_cmpR op_ne (pv 4) pe_int (nomark _)) (pss_one (ps_ret (pe_lst (pa_cons (pv 4) pa_nil)))) pss_nil) (pss_cons (ps_set (i := 5) sc_sub.nd rfl (Or.inl rfl) (pe_def D_on_court (hr.mono (by decide)) rfl (pa_cons (pe_ix ix_list (pe_fld (pv 0) rfl) (pv 1) (fun _ _ => rfl)) (pa_cons (pv 2) pa_nil)))) (pss_cons (ps_set (i := 6) sc_sub.nd rfl (Or.inl rfl) (pe_def D_on_bench (hr.mono (by decide)) rfl (pa_cons (pe_ix ix_list (pe_fld (pv 0) rfl) (pv 1) (fun _ _ => rfl)) (pa_cons (pv 3) pa_nil)))) (pss_cons (ps_if (PW.pt (pw_or (pt_cmpR op_isN (pv 5) pe_non (nomark _)) (pw_or1 (pt_cmpR op_isN (pv 6) pe_non (nomark _))))) (pss_one (ps_ret (pe_lst (pa_cons (pe_gint rfl T.g_NOT_THERE) pa_nil)))) pss_nil) (pss_cons (ps_fld (pv 5) pe_bl rfl) (pss_cons (ps_fld (pv 6) pe_bl rfl) (pss_one (ps_ret (pe_lst (pa_cons pe_int pa_nil)))))))))))

theorem tie_enter {P : Program} {w : World} {K : PySem.W.Frag} {mg : Str → Option Value} {base : Heap} {A : Ad} (T : Txt K mg A) (D_is_side : Def P w K mg base "is_side" ["number"] 1 (sp_is_side K A)) (D_is_number : Def P w K mg base "is_number" ["number"] 1 (sp_is_number K A)) (D_refusal : Def P w K mg base "refusal" ["game", "right"] 2 (sp_refusal K A)) (D_on_bench : Def P w K mg base "on_bench" ["team", "number"] 3 (sp_on_bench K A)) (D_many_on_court : Def P w K mg base "many_on_court" ["team"] 1 (sp_many_on_court K A)) {f : Addr} {cdv : Value} {Ar : Around} {outer : List Env} {s : Shared} {H : Hp} {E : XK} (hr : Room 3 (Ar.deeper (envOfC "enter" (defScope s_enter) s.heap.objs.size f cdv))) :
    PSs (cxOf CX0 P w K mg base ["game", "side", "comes", "found", "team", "coming"] "enter" (defScope s_enter) f cdv Ar outer s H E).nox (defBody s_enter) (t_enter K A) := by
  exact (pss_cons (ps_set (i := 3) sc_enter.nd rfl (Or.inl rfl) (pe_def D_refusal (hr.mono (by decide)) rfl (pa_cons (pv 0) (pa_cons (pe_and (pe_def D_is_side (hr.mono (by decide)) rfl (pa_cons (pv 1) pa_nil)) (pe_one (pe_def D_is_number (hr.mono (by decide)) rfl (pa_cons (pv 2) pa_nil)))) pa_nil)))) (pss_cons (ps_if (pt_cmpR op_ne (pv 3) pe_int (nomark _)) (pss_one (ps_ret (pe_lst (pa_cons (pv 3) pa_nil)))) pss_nil) (pss_cons (ps_set (i := 4) sc_enter.nd rfl (Or.inl rfl) (pe_ix ix_list (pe_fld (pv 0) rfl) (pv 1) (fun _ _ => rfl))) (pss_cons (ps_set (i := 5) sc_enter.nd rfl (Or.inl rfl) (pe_def D_on_bench (hr.mono (by decide)) rfl (pa_cons (pv 4) (pa_cons (pv 2) pa_nil)))) (pss_cons (ps_if (PW.pt (pw_or (pt_cmpR op_ge (pe_def D_many_on_court (hr.mono (by decide)) rfl (pa_cons (pv 4) pa_nil)) (pe_gint rfl T.g_FIVE) (nomark _)) (pw_or1 (pt_cmpR op_isN (pv 5) pe_non (nomark _))))) (pss_one (ps_ret (pe_lst (pa_cons (pe_gint rfl T.g_NOT_THERE) pa_nil)))) pss_nil) (pss_cons (ps_fld (pv 5) pe_bl rfl) (pss_one (ps_ret (pe_lst (pa_cons (pe_def D_many_on_court (hr.mono (by decide)) rfl (pa_cons (pv 4) pa_nil)) pa_nil))))))))))

theorem tie_most_timeouts {P : Program} {w : World} {K : PySem.W.Frag} {mg : Str → Option Value} {base : Heap} {A : Ad} (T : Txt K mg A) {f : Addr} {cdv : Value} {Ar : Around} {outer : List Env} {s : Shared} {H : Hp} {E : XK} (hr : Room 0 (Ar.deeper (envOfC "most_timeouts" (defScope s_most_timeouts) s.heap.objs.size f cdv))) :
    PSs (cxOf CX0 P w K mg base ["period"] "most_timeouts" (defScope s_most_timeouts) f cdv Ar outer s H E).nox (defBody s_most_timeouts) (t_most_timeouts K A) := by
  exact (pss_cons (ps_if (pt_cmpR op_le (pv 0) (pe_gint rfl T.g_TWO_QUARTERS) (nomark _)) (pss_one (ps_ret pe_int)) pss_nil) (pss_cons (ps_if (pt_cmpR op_le (pv 0) (pe_gint rfl T.g_QUARTERS) (nomark _)) (pss_one (ps_ret pe_int)) pss_nil) (pss_one (ps_ret pe_int))))

theorem tie_timeout {P : Program} {w : World} {K : PySem.W.Frag} {mg : Str → Option Value} {base : Heap} {A : Ad} (T : Txt K mg A) (D_is_side : Def P w K mg base "is_side" ["number"] 1 (sp_is_side K A)) (D_refusal : Def P w K mg base "refusal" ["game", "right"] 2 (sp_refusal K A)) (D_most_timeouts : Def P w K mg base "most_timeouts" ["period"] 1 (sp_most_timeouts K A)) {f : Addr} {cdv : Value} {Ar : Around} {outer : List Env} {s : Shared} {H : Hp} {E : XK} (hr : Room 2 (Ar.deeper (envOfC "timeout" (defScope s_timeout) s.heap.objs.size f cdv))) :
    PSs (cxOf CX0 P w K mg base ["game", "side", "found", "team"] "timeout" (defScope s_timeout) f cdv Ar outer s H E).nox (defBody s_timeout) (t_timeout K A) := by
  exact (pss_cons (ps_set (i := 2) sc_timeout.nd rfl (Or.inl rfl) (pe_def D_refusal (hr.mono (by decide)) rfl (pa_cons (pv 0) (pa_cons (pe_def D_is_side (hr.mono (by decide)) rfl (pa_cons (pv 1) pa_nil)) pa_nil)))) (pss_cons (ps_if (pt_cmpR op_ne (pv 2) pe_int (nomark _)) (pss_one (ps_ret (pe_lst (pa_cons (pv 2) pa_nil)))) pss_nil) (pss_cons (ps_set (i := 3) sc_timeout.nd rfl (Or.inl rfl) (pe_ix ix_list (pe_fld (pv 0) rfl) (pv 1) (fun _ _ => rfl))) (pss_cons (ps_if (pt_cmpR op_ge (pe_fld (pv 3) rfl) (pe_def D_most_timeouts (hr.mono (by decide)) rfl (pa_cons (pe_fld (pe_fld (pv 0) rfl) rfl) pa_nil)) (nomark _)) (pss_one (ps_ret (pe_lst (pa_cons (pe_gint rfl T.g_NOT_THERE) pa_nil)))) pss_nil) (pss_cons (ps_fldaug (pv 3) pe_int in_add) (pss_one (ps_ret (pe_lst (pa_cons (pe_fld (pv 3) rfl) pa_nil)))))))))

theorem tie_sheet {P : Program} {w : World} {K : PySem.W.Frag} {mg : Str → Option Value} {base : Heap} {A : Ad} (T : Txt K mg A) (D_is_side : Def P w K mg base "is_side" ["number"] 1 (sp_is_side K A)) (D_sheet_of : Def P w K mg base "sheet_of" ["team"] 3 (sp_sheet_of K A)) {f : Addr} {cdv : Value} {Ar : Around} {outer : List Env} {s : Shared} {H : Hp} {E : XK} (hr : Room 3 (Ar.deeper (envOfC "sheet" (defScope s_sheet) s.heap.objs.size f cdv))) :
    PSs (cxOf CX0 P w K mg base ["game", "side"] "sheet" (defScope s_sheet) f cdv Ar outer s H E).nox (defBody s_sheet) (t_sheet K A) := by
  exact (pss_cons (ps_if (pt_not (pt_val (pe_def D_is_side (hr.mono (by decide)) rfl (pa_cons (pv 1) pa_nil)))) (pss_one (ps_ret (pe_lst (pa_cons (pe_gint rfl T.g_WRONG) pa_nil)))) pss_nil) (pss_cons (ps_if (pt_cmpR op_isN (pv 0) pe_non (nomark _)) (pss_one (ps_ret (pe_lst (pa_cons pe_int (pa_cons pe_int (pa_cons pe_int pa_nil)))))) pss_nil) (pss_one (ps_ret (pe_def D_sheet_of (hr.mono (by decide)) rfl (pa_cons (pe_ix ix_list (pe_fld (pv 0) rfl) (pv 1) (fun _ _ => rfl)) pa_nil))))))

theorem tie_throws_for {P : Program} {w : World} {K : PySem.W.Frag} {mg : Str → Option Value} {base : Heap} {A : Ad} (T : Txt K mg A) {f : Addr} {cdv : Value} {Ar : Around} {outer : List Env} {s : Shared} {H : Hp} {E : XK} (hr : Room 0 (Ar.deeper (envOfC "throws_for" (defScope s_throws_for) s.heap.objs.size f cdv))) :
    PSs (cxOf CX0 P w K mg base ["game", "side", "many", "behind"] "throws_for" (defScope s_throws_for) f cdv Ar outer s H E).nox (defBody s_throws_for) (t_throws_for K A) := by
  exact (pss_cons (ps_fld (pe_fld (pv 0) rfl) (pv 2) rfl) (pss_cons (ps_fld (pe_fld (pv 0) rfl) (pv 1) rfl) (pss_one (ps_fld (pe_fld (pv 0) rfl) (pv 3) rfl))))

theorem tie_bring {P : Program} {w : World} {K : PySem.W.Frag} {mg : Str → Option Value} {base : Heap} {A : Ad} (T : Txt K mg A) (D_other : Def P w K mg base "other" ["side"] 1 (sp_other K A)) (D_throws_for : Def P w K mg base "throws_for" ["game", "side", "many", "behind"] 1 (sp_throws_for K A)) (D_give_ball : Def P w K mg base "give_ball" ["game", "side", "shot"] 1 (sp_give_ball K A)) {f : Addr} {cdv : Value} {Ar : Around} {outer : List Env} {s : Shared} {H : Hp} {E : XK} (hr : Room 1 (Ar.deeper (envOfC "bring" (defScope s_bring) s.heap.objs.size f cdv))) :
    PSs (cxOf CX0 P w K mg base ["game", "side", "kind", "shot", "rival"] "bring" (defScope s_bring) f cdv Ar outer s H E).nox (defBody s_bring) (t_bring K A) := by
  exact (pss_cons (ps_set (i := 4) sc_bring.nd rfl (Or.inl rfl) (pe_def D_other (hr.mono (by decide)) rfl (pa_cons (pv 1) pa_nil))) (pss_one (ps_if (pt_cmpR op_eq (pv 2) (pe_gint rfl T.g_TECHNICAL_fouls) (nomark _)) (pss_one (ps_expr (pe_def D_throws_for (hr.mono (by decide)) rfl (pa_cons (pv 0) (pa_cons (pv 4) (pa_cons pe_int (pa_cons (pe_gint rfl T.g_AS_IT_WAS) pa_nil))))))) (pss_one (ps_if (pt_cmpR op_ne (pv 2) (pe_gint rfl T.g_PERSONAL) (nomark _)) (pss_one (ps_expr (pe_def D_throws_for (hr.mono (by decide)) rfl (pa_cons (pv 0) (pa_cons (pv 4) (pa_cons (pe_ifExp (pt_cmpR op_gt (pv 3) pe_int (nomark _)) (pv 3) pe_int) (pa_cons (pe_gint rfl T.g_THEIR_BALL) pa_nil))))))) (pss_one (ps_if (pt_cmpR op_gt (pv 3) pe_int (nomark _)) (pss_one (ps_expr (pe_def D_throws_for (hr.mono (by decide)) rfl (pa_cons (pv 0) (pa_cons (pv 4) (pa_cons (pv 3) (pa_cons (pe_gint rfl T.g_PLAYED_ON) pa_nil))))))) (pss_one (ps_if (pt_cmpR op_eq (pe_fld (pv 0) rfl) (pv 1) (nomark _)) (pss_one (ps_expr (pe_def D_give_ball (hr.mono (by decide)) rfl (pa_cons (pv 0) (pa_cons (pv 4) (pa_cons (pe_gint rfl T.g_FULL_SHOT) pa_nil)))))) (pss_one (ps_if (pt_cmpR op_ge (pe_fld (pe_ix ix_list (pe_fld (pv 0) rfl) (pv 1) (fun _ _ => rfl)) rfl) (pe_gint rfl T.g_FIVE) (nomark _)) (pss_one (ps_expr (pe_def D_throws_for (hr.mono (by decide)) rfl (pa_cons (pv 0) (pa_cons (pv 4) (pa_cons pe_int (pa_cons (pe_gint rfl T.g_PLAYED_ON) pa_nil))))))) (pss_one (ps_if (pt_cmpR op_eq (pe_fld (pv 0) rfl) (pv 4) (nomark _)) (pss_one (ps_expr (pe_def D_give_ball (hr.mono (by decide)) rfl (pa_cons (pv 0) (pa_cons (pv 4) (pa_cons (pe_callB (call_max2 rfl) (by rfl) T.n_max (by decide +kernel) (pa_cons (pe_fld (pe_fld (pv 0) rfl) rfl) (pa_cons (pe_gint rfl T.g_SHORT_SHOT) pa_nil))) pa_nil)))))) (pss_one (ps_expr (pe_def D_give_ball (hr.mono (by decide)) rfl (pa_cons (pv 0) (pa_cons (pv 4) (pa_cons (pe_gint rfl T.g_FULL_SHOT) pa_nil)))))))))))))))))))

theorem tie_is_right_foul {P : Program} {w : World} {K : PySem.W.Frag} {mg : Str → Option Value} {base : Heap} {A : Ad} (T : Txt K mg A) (D_is_side : Def P w K mg base "is_side" ["number"] 1 (sp_is_side K A)) (D_is_number : Def P w K mg base "is_number" ["number"] 1 (sp_is_number K A)) {f : Addr} {cdv : Value} {Ar : Around} {outer : List Env} {s : Shared} {H : Hp} {E : XK} (hr : Room 1 (Ar.deeper (envOfC "is_right_foul" (defScope s_is_right_foul) s.heap.objs.size f cdv))) :
    PSs (cxOf CX0 P w K mg base ["side", "number", "kind", "shot"] "is_right_foul" (defScope s_is_right_foul) f cdv Ar outer s H E).nox (defBody s_is_right_foul) (t_is_right_foul K A) := by
  exact (pss_one (ps_ret (pe_and (pe_def D_is_side (hr.mono (by decide)) rfl (pa_cons (pv 0) pa_nil)) (pe_and (pe_def D_is_number (hr.mono (by decide)) rfl (pa_cons (pv 1) pa_nil)) (pe_and (pe_chain op_le op_le pe_int (pv 2) pe_int) (pe_one (pe_chain op_le op_le pe_int (pv 3) pe_int)))))))

theorem tie_is_shot_strange {P : Program} {w : World} {K : PySem.W.Frag} {mg : Str → Option Value} {base : Heap} {A : Ad} (T : Txt K mg A) {f : Addr} {cdv : Value} {Ar : Around} {outer : List Env} {s : Shared} {H : Hp} {E : XK} (hr : Room 0 (Ar.deeper (envOfC "is_shot_strange" (defScope s_is_shot_strange) s.heap.objs.size f cdv))) :
    PSs (cxOf CX0 P w K mg base ["game", "side", "kind", "shot"] "is_shot_strange" (defScope s_is_shot_strange) f cdv Ar outer s H E).nox (defBody s_is_shot_strange) (t_is_shot_strange K A) := by
  exact (pss_one (ps_ret (pe_or (pe_and (pe_cmpR op_gt (pv 3) pe_int (nomark _)) (pe_one (pe_cmpR op_eq (pv 2) (pe_gint rfl T.g_TECHNICAL_fouls) (nomark _)))) (pe_one (pe_and (pe_cmpR op_gt (pv 3) pe_int (nomark _)) (pe_one (pe_cmpR op_eq (pe_fld (pv 0) rfl) (pv 1) (nomark _))))))))

theorem tie_foul {P : Program} {w : World} {K : PySem.W.Frag} {mg : Str → Option Value} {base : Heap} {A : Ad} (T : Txt K mg A) (D_is_right_foul : Def P w K mg base "is_right_foul" ["side", "number", "kind", "shot"] 2 (sp_is_right_foul K A)) (D_refusal_in_play : Def P w K mg base "refusal_in_play" ["game", "right"] 5 (sp_refusal_in_play K A)) (D_on_court : Def P w K mg base "on_court" ["team", "number"] 1 (sp_on_court K A)) (D_is_shot_strange : Def P w K mg base "is_shot_strange" ["game", "side", "kind", "shot"] 1 (sp_is_shot_strange K A)) (D_note_foul : Def P w K mg base "note_foul" ["player", "kind"] 2 (sp_note_foul K A)) (D_many_on_court : Def P w K mg base "many_on_court" ["team"] 1 (sp_many_on_court K A)) (D_other : Def P w K mg base "other" ["side"] 1 (sp_other K A)) (D_end_game : Def P w K mg base "end_game" ["game", "winner"] 1 (sp_end_game K A)) (D_bring : Def P w K mg base "bring" ["game", "side", "kind", "shot"] 2 (sp_bring K A)) (D_stands : Def P w K mg base "stands" ["game"] 2 (sp_stands K A)) {f : Addr} {cdv : Value} {Ar : Around} {outer : List Env} {s : Shared} {H : Hp} {E : XK} (hr : Room 5 (Ar.deeper (envOfC "foul" (defScope s_foul) s.heap.objs.size f cdv))) :
    PSs (cxOf CX0 P w K mg base ["game", "side", "number", "kind", "shot", "found", "team", "player"] "foul" (defScope s_foul) f cdv Ar outer s H E).nox (defBody s_foul) (t_foul K A) := by
  exact (pss_cons (ps_set (i := 5) sc_foul.nd rfl (Or.inl rfl) (pe_def D_refusal_in_play (hr.mono (by decide)) rfl (pa_cons (pv 0) (pa_cons (pe_def D_is_right_foul (hr.mono (by decide)) rfl (pa_cons (pv 1) (pa_cons (pv 2) (pa_cons (pv 3) (pa_cons (pv 4) pa_nil))))) pa_nil)))) (pss_cons (ps_if (pt_cmpR op_ne (pv 5) pe_int (nomark _)) (pss_one (ps_ret (pe_lst (pa_cons (pv 5) pa_nil)))) pss_nil) (pss_cons (ps_set (i := 6) sc_foul.nd rfl (Or.inl rfl) (pe_ix ix_list (pe_fld (pv 0) rfl) (pv 1) (fun _ _ => rfl))) (pss_cons (ps_set (i := 7) sc_foul.nd rfl (Or.inl rfl) (pe_def D_on_court (hr.mono (by decide)) rfl (pa_cons (pv 6) (pa_cons (pv 2) pa_nil)))) (pss_cons (ps_if (pt_cmpR op_isN (pv 7) pe_non (nomark _)) (pss_one (ps_ret (pe_lst (pa_cons (pe_gint rfl T.g_NOT_THERE) pa_nil)))) pss_nil) (pss_cons (ps_if (pt_val (pe_def D_is_shot_strange (hr.mono (by decide)) rfl (pa_cons (pv 0) (pa_cons (pv 1) (pa_cons (pv 3) (pa_cons (pv 4) pa_nil)))))) (pss_one (ps_ret (pe_lst (pa_cons (pe_gint rfl T.g_BALL_ELSEWHERE) pa_nil)))) pss_nil) (pss_cons (ps_expr (pe_def D_note_foul (hr.mono (by decide)) rfl (pa_cons (pv 7) (pa_cons (pv 3) pa_nil)))) (pss_cons (ps_fldaug (pv 6) pe_int in_add) (pss_cons (ps_if (pt_cmpR op_lt (pe_def D_many_on_court (hr.mono (by decide)) rfl (pa_cons (pv 6) pa_nil)) (pe_gint rfl T.g_FEWEST_ON_COURT) (nomark _)) (pss_one (ps_expr (pe_def D_end_game (hr.mono (by decide)) rfl (pa_cons (pv 0) (pa_cons (pe_def D_other (hr.mono (by decide)) rfl (pa_cons (pv 1) pa_nil)) pa_nil))))) (pss_one (ps_expr (pe_def D_bring (hr.mono (by decide)) rfl (pa_cons (pv 0) (pa_cons (pv 1) (pa_cons (pv 3) (pa_cons (pv 4) pa_nil)))))))) (pss_one (ps_ret (pe_op op_cat (pe_lst (pa_cons (pe_fld (pv 6) rfl) pa_nil)) (pe_def D_stands (hr.mono (by decide)) rfl (pa_cons (pv 0) pa_nil))))))))))))))

theorem tie_go_on_behind {P : Program} {w : World} {K : PySem.W.Frag} {mg : Str → Option Value} {base : Heap} {A : Ad} (T : Txt K mg A) (D_give_ball : Def P w K mg base "give_ball" ["game", "side", "shot"] 1 (sp_give_ball K A)) (D_other : Def P w K mg base "other" ["side"] 1 (sp_other K A)) (D_miss_by : Def P w K mg base "miss_by" ["game", "side", "ring"] 1 (sp_miss_by K A)) {f : Addr} {cdv : Value} {Ar : Around} {outer : List Env} {s : Shared} {H : Hp} {E : XK} (hr : Room 1 (Ar.deeper (envOfC "go_on_behind" (defScope s_go_on_behind) s.heap.objs.size f cdv))) :
    PSs (cxOf CX0 P w K mg base ["game", "good", "side"] "go_on_behind" (defScope s_go_on_behind) f cdv Ar outer s H E).nox (defBody s_go_on_behind) (t_go_on_behind K A) := by
  exact (pss_cons (ps_set (i := 2) sc_go_on_behind.nd rfl (Or.inl rfl) (pe_fld (pe_fld (pv 0) rfl) rfl)) (pss_one (ps_if (pt_cmpR op_eq (pe_fld (pe_fld (pv 0) rfl) rfl) (pe_gint rfl T.g_THEIR_BALL) (nomark _)) (pss_one (ps_expr (pe_def D_give_ball (hr.mono (by decide)) rfl (pa_cons (pv 0) (pa_cons (pv 2) (pa_cons (pe_gint rfl T.g_SHORT_SHOT) pa_nil)))))) (pss_one (ps_if (PW.pt (pw_and (pt_cmpR op_eq (pe_fld (pe_fld (pv 0) rfl) rfl) (pe_gint rfl T.g_PLAYED_ON) (nomark _)) (pw_and1 (pt_cmpR op_eq (pv 1) pe_int (nomark _))))) (pss_one (ps_expr (pe_def D_give_ball (hr.mono (by decide)) rfl (pa_cons (pv 0) (pa_cons (pe_def D_other (hr.mono (by decide)) rfl (pa_cons (pv 2) pa_nil)) (pa_cons (pe_gint rfl T.g_FULL_SHOT) pa_nil)))))) (pss_one (ps_if (pt_cmpR op_eq (pe_fld (pe_fld (pv 0) rfl) rfl) (pe_gint rfl T.g_PLAYED_ON) (nomark _)) (pss_one (ps_expr (pe_def D_miss_by (hr.mono (by decide)) rfl (pa_cons (pv 0) (pa_cons (pv 2) (pa_cons pe_int pa_nil)))))) pss_nil)))))))

theorem tie_throw {P : Program} {w : World} {K : PySem.W.Frag} {mg : Str → Option Value} {base : Heap} {A : Ad} (T : Txt K mg A) (D_is_number : Def P w K mg base "is_number" ["number"] 1 (sp_is_number K A)) (D_is_truth : Def P w K mg base "is_truth" ["number"] 1 (sp_is_truth K A)) (D_refusal : Def P w K mg base "refusal" ["game", "right"] 2 (sp_refusal K A)) (D_is_any_short : Def P w K mg base "is_any_short" ["game"] 4 (sp_is_any_short K A)) (D_on_court : Def P w K mg base "on_court" ["team", "number"] 1 (sp_on_court K A)) (D_go_on_behind : Def P w K mg base "go_on_behind" ["game", "good"] 2 (sp_go_on_behind K A)) (D_points_of : Def P w K mg base "points_of" ["team"] 1 (sp_points_of K A)) (D_stands : Def P w K mg base "stands" ["game"] 2 (sp_stands K A)) {f : Addr} {cdv : Value} {Ar : Around} {outer : List Env} {s : Shared} {H : Hp} {E : XK} (hr : Room 4 (Ar.deeper (envOfC "throw" (defScope s_throw) s.heap.objs.size f cdv))) :
    PSs (cxOf CX0 P w K mg base ["game", "number", "good", "found", "team", "player"] "throw" (defScope s_throw) f cdv Ar outer s H E).nox (defBody s_throw) (t_throw K A) := by
  exact (pss_cons (ps_set (i := 3) sc_throw.nd rfl (Or.inl rfl) (pe_def D_refusal (hr.mono (by decide)) rfl (pa_cons (pv 0) (pa_cons (pe_and (pe_def D_is_number (hr.mono (by decide)) rfl (pa_cons (pv 1) pa_nil)) (pe_one (pe_def D_is_truth (hr.mono (by decide)) rfl (pa_cons (pv 2) pa_nil)))) pa_nil)))) (pss_cons (ps_if (pt_cmpR op_ne (pv 3) pe_int (nomark _)) (pss_one (ps_ret (pe_lst (pa_cons (pv 3) pa_nil)))) pss_nil) (pss_cons (ps_if (pt_cmpR op_eq (pe_fld (pe_fld (pv 0) rfl) rfl) pe_int (nomark _)) (pss_one (ps_ret (pe_lst (pa_cons (pe_gint rfl T.g_THROWS_THERE) pa_nil)))) pss_nil) (pss_cons (ps_if (pt_val (pe_def D_is_any_short (hr.mono (by decide)) rfl (pa_cons (pv 0) pa_nil))) (pss_one (ps_ret (pe_lst (pa_cons (pe_gint rfl T.g_COURT_SHORT) pa_nil)))) pss_nil) (pss_cons (ps_set (i := 4) sc_throw.nd rfl (Or.inl rfl) (pe_ix ix_list (pe_fld (pv 0) rfl) (pe_fld (pe_fld (pv 0) rfl) rfl) (fun _ _ => rfl))) (pss_cons (ps_set (i := 5) sc_throw.nd rfl (Or.inl rfl) (pe_def D_on_court (hr.mono (by decide)) rfl (pa_cons (pv 4) (pa_cons (pv 1) pa_nil)))) (pss_cons (ps_if (pt_cmpR op_isN (pv 5) pe_non (nomark _)) (pss_one (ps_ret (pe_lst (pa_cons (pe_gint rfl T.g_NOT_THERE) pa_nil)))) pss_nil) (pss_cons (ps_fldaug (pv 5) (pv 2) in_add) (pss_cons (ps_fldaug (pe_fld (pv 0) rfl) pe_int in_sub) (pss_cons (ps_if (pt_cmpR op_eq (pe_fld (pe_fld (pv 0) rfl) rfl) pe_int (nomark _)) (pss_one (ps_expr (pe_def D_go_on_behind (hr.mono (by decide)) rfl (pa_cons (pv 0) (pa_cons (pv 2) pa_nil))))) pss_nil) (pss_one (ps_ret (pe_op op_cat (pe_lst (pa_cons (pe_def D_points_of (hr.mono (by decide)) rfl (pa_cons (pv 4) pa_nil)) pa_nil)) (pe_def D_stands (hr.mono (by decide)) rfl (pa_cons (pv 0) pa_nil)))))))))))))))

theorem tie_tip {P : Program} {w : World} {K : PySem.W.Frag} {mg : Str → Option Value} {base : Heap} {A : Ad} (T : Txt K mg A) (D_is_side : Def P w K mg base "is_side" ["number"] 1 (sp_is_side K A)) (D_begin_period : Def P w K mg base "begin_period" ["game"] 3 (sp_begin_period K A)) (D_stands : Def P w K mg base "stands" ["game"] 2 (sp_stands K A)) {f : Addr} {cdv : Value} {Ar : Around} {outer : List Env} {s : Shared} {H : Hp} {E : XK} (hr : Room 3 (Ar.deeper (envOfC "tip" (defScope s_tip) s.heap.objs.size f cdv))) :
    PSs (cxOf CX0 P w K mg base ["game", "side"] "tip" (defScope s_tip) f cdv Ar outer s H E).nox (defBody s_tip) (t_tip K A) := by
  exact (pss_cons (ps_if (pt_not (pt_val (pe_def D_is_side (hr.mono (by decide)) rfl (pa_cons (pv 1) pa_nil)))) (pss_one (ps_ret (pe_lst (pa_cons (pe_gint rfl T.g_WRONG) pa_nil)))) pss_nil) (pss_cons (ps_if (PW.pt (pw_or (pt_cmpR op_isN (pv 0) pe_non (nomark _)) (pw_or1 (pt_cmpR op_gt (pe_fld (pe_fld (pv 0) rfl) rfl) pe_int (nomark _))))) (pss_one (ps_ret (pe_lst (pa_cons (pe_gint rfl T.g_NOT_PLAYED) pa_nil)))) pss_nil) (pss_cons (ps_fld (pv 0) (pv 1) rfl) (pss_cons (ps_expr (pe_def D_begin_period (hr.mono (by decide)) rfl (pa_cons (pv 0) pa_nil))) (pss_one (ps_ret (pe_op op_cat (pe_lst (pa_cons pe_int pa_nil)) (pe_def D_stands (hr.mono (by decide)) rfl (pa_cons (pv 0) pa_nil)))))))))

theorem tie_time_to_stop {P : Program} {w : World} {K : PySem.W.Frag} {mg : Str → Option Value} {base : Heap} {A : Ad} (T : Txt K mg A) {f : Addr} {cdv : Value} {Ar : Around} {outer : List Env} {s : Shared} {H : Hp} {E : XK} (hr : Room 0 (Ar.deeper (envOfC "time_to_stop" (defScope s_time_to_stop) s.heap.objs.size f cdv))) :
    PSs (cxOf CX0 P w K mg base ["game"] "time_to_stop" (defScope s_time_to_stop) f cdv Ar outer s H E).nox (defBody s_time_to_stop) (t_time_to_stop K A) := by
  exact (pss_cons (ps_if (PW.pt (pw_and (pt_cmpR op_ne (pe_fld (pv 0) rfl) (pe_gint rfl T.g_NOBODY) (nomark _)) (pw_and1 (pt_cmpR op_lt (pe_fld (pe_fld (pv 0) rfl) rfl) (pe_fld (pe_fld (pv 0) rfl) rfl) (nomark _))))) (pss_one (ps_ret (pe_fld (pe_fld (pv 0) rfl) rfl))) pss_nil) (pss_one (ps_ret (pe_fld (pe_fld (pv 0) rfl) rfl))))

theorem tie_let_run {P : Program} {w : World} {K : PySem.W.Frag} {mg : Str → Option Value} {base : Heap} {A : Ad} (T : Txt K mg A) (D_end_period : Def P w K mg base "end_period" ["game"] 4 (sp_end_period K A)) (D_other : Def P w K mg base "other" ["side"] 1 (sp_other K A)) (D_give_ball : Def P w K mg base "give_ball" ["game", "side", "shot"] 1 (sp_give_ball K A)) {f : Addr} {cdv : Value} {Ar : Around} {outer : List Env} {s : Shared} {H : Hp} {E : XK} (hr : Room 4 (Ar.deeper (envOfC "let_run" (defScope s_let_run) s.heap.objs.size f cdv))) :
    PSs (cxOf CX0 P w K mg base ["game", "tenths"] "let_run" (defScope s_let_run) f cdv Ar outer s H E).nox (defBody s_let_run) (t_let_run K A) := by
  exact (pss_cons (ps_fldaug (pe_fld (pv 0) rfl) (pv 1) in_sub) (pss_cons (ps_if (pt_cmpR op_ne (pe_fld (pv 0) rfl) (pe_gint rfl T.g_NOBODY) (nomark _)) (pss_one (ps_fldaug (pe_fld (pv 0) rfl) (pv 1) in_sub)) pss_nil) (pss_one (ps_if (pt_cmpR op_eq (pe_fld (pe_fld (pv 0) rfl) rfl) pe_int (nomark _)) (pss_one (ps_expr (pe_def D_end_period (hr.mono (by decide)) rfl (pa_cons (pv 0) pa_nil)))) (pss_one (ps_if (PW.pt (pw_and (pt_cmpR op_ne (pe_fld (pv 0) rfl) (pe_gint rfl T.g_NOBODY) (nomark _)) (pw_and1 (pt_cmpR op_eq (pe_fld (pe_fld (pv 0) rfl) rfl) pe_int (nomark _))))) (pss_one (ps_expr (pe_def D_give_ball (hr.mono (by decide)) rfl (pa_cons (pv 0) (pa_cons (pe_def D_other (hr.mono (by decide)) rfl (pa_cons (pe_fld (pv 0) rfl) pa_nil)) (pa_cons (pe_gint rfl T.g_FULL_SHOT) pa_nil)))))) pss_nil))))))

theorem tie_run {P : Program} {w : World} {K : PySem.W.Frag} {mg : Str → Option Value} {base : Heap} {A : Ad} (T : Txt K mg A) (D_refusal_in_play : Def P w K mg base "refusal_in_play" ["game", "right"] 5 (sp_refusal_in_play K A)) (D_time_to_stop : Def P w K mg base "time_to_stop" ["game"] 1 (sp_time_to_stop K A)) (D_let_run : Def P w K mg base "let_run" ["game", "tenths"] 5 (sp_let_run K A)) (D_stands : Def P w K mg base "stands" ["game"] 2 (sp_stands K A)) {f : Addr} {cdv : Value} {Ar : Around} {outer : List Env} {s : Shared} {H : Hp} {E : XK} (hr : Room 5 (Ar.deeper (envOfC "run" (defScope s_run) s.heap.objs.size f cdv))) :
    PSs (cxOf CX0 P w K mg base ["game", "tenths", "found", "ran"] "run" (defScope s_run) f cdv Ar outer s H E).nox (defBody s_run) (t_run K A) := by
  exact (pss_cons (ps_set (i := 2) sc_run.nd rfl (Or.inl rfl) (pe_def D_refusal_in_play (hr.mono (by decide)) rfl (pa_cons (pv 0) (pa_cons (pe_chain op_le op_le pe_int (pv 1) (pe_gint rfl T.g_MOST_TENTHS)) pa_nil)))) (pss_cons (ps_if (pt_cmpR op_ne (pv 2) pe_int (nomark _)) (pss_one (ps_ret (pe_lst (pa_cons (pv 2) pa_nil)))) pss_nil) (pss_cons (ps_set (i := 3) sc_run.nd rfl (Or.inl rfl) (pe_callB (call_min2 rfl) (by rfl) T.n_min (by decide +kernel) (pa_cons (pv 1) (pa_cons (pe_def D_time_to_stop (hr.mono (by decide)) rfl (pa_cons (pv 0) pa_nil)) pa_nil)))) (pss_cons (ps_expr (pe_def D_let_run (hr.mono (by decide)) rfl (pa_cons (pv 0) (pa_cons (pv 3) pa_nil)))) (pss_one (ps_ret (pe_op op_cat (pe_lst (pa_cons (pv 3) pa_nil)) (pe_def D_stands (hr.mono (by decide)) rfl (pa_cons (pv 0) pa_nil)))))))))

theorem tie_basket {P : Program} {w : World} {K : PySem.W.Frag} {mg : Str → Option Value} {base : Heap} {A : Ad} (T : Txt K mg A) (D_is_number : Def P w K mg base "is_number" ["number"] 1 (sp_is_number K A)) (D_refusal_in_play : Def P w K mg base "refusal_in_play" ["game", "right"] 5 (sp_refusal_in_play K A)) (D_on_court : Def P w K mg base "on_court" ["team", "number"] 1 (sp_on_court K A)) (D_other : Def P w K mg base "other" ["side"] 1 (sp_other K A)) (D_give_ball : Def P w K mg base "give_ball" ["game", "side", "shot"] 1 (sp_give_ball K A)) (D_points_of : Def P w K mg base "points_of" ["team"] 1 (sp_points_of K A)) (D_stands : Def P w K mg base "stands" ["game"] 2 (sp_stands K A)) {f : Addr} {cdv : Value} {Ar : Around} {outer : List Env} {s : Shared} {H : Hp} {E : XK} (hr : Room 5 (Ar.deeper (envOfC "basket" (defScope s_basket) s.heap.objs.size f cdv))) :
    PSs (cxOf CX0 P w K mg base ["game", "number", "points", "found", "team", "player"] "basket" (defScope s_basket) f cdv Ar outer s H E).nox (defBody s_basket) (t_basket K A) := by
  exact (pss_cons (ps_set (i := 3) sc_basket.nd rfl (Or.inl rfl) (pe_def D_refusal_in_play (hr.mono (by decide)) rfl (pa_cons (pv 0) (pa_cons (pe_and (pe_def D_is_number (hr.mono (by decide)) rfl (pa_cons (pv 1) pa_nil)) (pe_one (pe_chain op_le op_le pe_int (pv 2) pe_int))) pa_nil)))) (pss_cons (ps_if (pt_cmpR op_ne (pv 3) pe_int (nomark _)) (pss_one (ps_ret (pe_lst (pa_cons (pv 3) pa_nil)))) pss_nil) (pss_cons (ps_if (pt_cmpR op_eq (pe_fld (pv 0) rfl) (pe_gint rfl T.g_NOBODY) (nomark _)) (pss_one (ps_ret (pe_lst (pa_cons (pe_gint rfl T.g_BALL_ELSEWHERE) pa_nil)))) pss_nil) (pss_cons (ps_set (i := 4) sc_basket.nd rfl (Or.inl rfl) (pe_ix ix_list (pe_fld (pv 0) rfl) (pe_fld (pv 0) rfl) (fun _ _ => rfl))) (pss_cons (ps_set (i := 5) sc_basket.nd rfl (Or.inl rfl) (pe_def D_on_court (hr.mono (by decide)) rfl (pa_cons (pv 4) (pa_cons (pv 1) pa_nil)))) (pss_cons (ps_if (pt_cmpR op_isN (pv 5) pe_non (nomark _)) (pss_one (ps_ret (pe_lst (pa_cons (pe_gint rfl T.g_NOT_THERE) pa_nil)))) pss_nil) (pss_cons (ps_fldaug (pv 5) (pv 2) in_add) (pss_cons (ps_expr (pe_def D_give_ball (hr.mono (by decide)) rfl (pa_cons (pv 0) (pa_cons (pe_def D_other (hr.mono (by decide)) rfl (pa_cons (pe_fld (pv 0) rfl) pa_nil)) (pa_cons (pe_gint rfl T.g_FULL_SHOT) pa_nil))))) (pss_one (ps_ret (pe_op op_cat (pe_lst (pa_cons (pe_def D_points_of (hr.mono (by decide)) rfl (pa_cons (pv 4) pa_nil)) pa_nil)) (pe_def D_stands (hr.mono (by decide)) rfl (pa_cons (pv 0) pa_nil)))))))))))))

theorem tie_miss {P : Program} {w : World} {K : PySem.W.Frag} {mg : Str → Option Value} {base : Heap} {A : Ad} (T : Txt K mg A) (D_is_number : Def P w K mg base "is_number" ["number"] 1 (sp_is_number K A)) (D_is_truth : Def P w K mg base "is_truth" ["number"] 1 (sp_is_truth K A)) (D_refusal_in_play : Def P w K mg base "refusal_in_play" ["game", "right"] 5 (sp_refusal_in_play K A)) (D_on_court : Def P w K mg base "on_court" ["team", "number"] 1 (sp_on_court K A)) (D_miss_by : Def P w K mg base "miss_by" ["game", "side", "ring"] 1 (sp_miss_by K A)) (D_stands : Def P w K mg base "stands" ["game"] 2 (sp_stands K A)) {f : Addr} {cdv : Value} {Ar : Around} {outer : List Env} {s : Shared} {H : Hp} {E : XK} (hr : Room 5 (Ar.deeper (envOfC "miss" (defScope s_miss) s.heap.objs.size f cdv))) :
    PSs (cxOf CX0 P w K mg base ["game", "number", "ring", "found"] "miss" (defScope s_miss) f cdv Ar outer s H E).nox (defBody s_miss) (t_miss K A) := by
  exact (pss_cons (ps_set (i := 3) sc_miss.nd rfl (Or.inl rfl) (pe_def D_refusal_in_play (hr.mono (by decide)) rfl (pa_cons (pv 0) (pa_cons (pe_and (pe_def D_is_number (hr.mono (by decide)) rfl (pa_cons (pv 1) pa_nil)) (pe_one (pe_def D_is_truth (hr.mono (by decide)) rfl (pa_cons (pv 2) pa_nil)))) pa_nil)))) (pss_cons (ps_if (pt_cmpR op_ne (pv 3) pe_int (nomark _)) (pss_one (ps_ret (pe_lst (pa_cons (pv 3) pa_nil)))) pss_nil) (pss_cons (ps_if (pt_cmpR op_eq (pe_fld (pv 0) rfl) (pe_gint rfl T.g_NOBODY) (nomark _)) (pss_one (ps_ret (pe_lst (pa_cons (pe_gint rfl T.g_BALL_ELSEWHERE) pa_nil)))) pss_nil) (pss_cons (ps_if (pt_cmpR op_isN (pe_def D_on_court (hr.mono (by decide)) rfl (pa_cons (pe_ix ix_list (pe_fld (pv 0) rfl) (pe_fld (pv 0) rfl) (fun _ _ => rfl)) (pa_cons (pv 1) pa_nil))) pe_non (nomark _)) (pss_one (ps_ret (pe_lst (pa_cons (pe_gint rfl T.g_NOT_THERE) pa_nil)))) pss_nil) (pss_cons (ps_expr (pe_def D_miss_by (hr.mono (by decide)) rfl (pa_cons (pv 0) (pa_cons (pe_fld (pv 0) rfl) (pa_cons (pv 2) pa_nil))))) (pss_one (ps_ret (pe_op op_cat (pe_lst (pa_cons pe_int pa_nil)) (pe_def D_stands (hr.mono (by decide)) rfl (pa_cons (pv 0) pa_nil))))))))))

theorem tie_shot_behind {P : Program} {w : World} {K : PySem.W.Frag} {mg : Str → Option Value} {base : Heap} {A : Ad} (T : Txt K mg A) {f : Addr} {cdv : Value} {Ar : Around} {outer : List Env} {s : Shared} {H : Hp} {E : XK} (hr : Room 0 (Ar.deeper (envOfC "shot_behind" (defScope s_shot_behind) s.heap.objs.size f cdv))) :
    PSs (cxOf CX0 P w K mg base ["game", "side"] "shot_behind" (defScope s_shot_behind) f cdv Ar outer s H E).nox (defBody s_shot_behind) (t_shot_behind K A) := by
  exact (pss_cons (ps_if (pt_cmpR op_ne (pv 1) (pe_fld (pv 0) rfl) (nomark _)) (pss_one (ps_ret (pe_gint rfl T.g_FULL_SHOT))) pss_nil) (pss_cons (ps_if (pt_cmpR op_eq (pe_fld (pv 0) rfl) pe_int (nomark _)) (pss_one (ps_ret (pe_gint rfl T.g_SHORT_SHOT))) pss_nil) (pss_one (ps_ret (pe_fld (pe_fld (pv 0) rfl) rfl)))))

theorem tie_rebound {P : Program} {w : World} {K : PySem.W.Frag} {mg : Str → Option Value} {base : Heap} {A : Ad} (T : Txt K mg A) (D_is_side : Def P w K mg base "is_side" ["number"] 1 (sp_is_side K A)) (D_refusal_in_play : Def P w K mg base "refusal_in_play" ["game", "right"] 5 (sp_refusal_in_play K A)) (D_shot_behind : Def P w K mg base "shot_behind" ["game", "side"] 1 (sp_shot_behind K A)) (D_give_ball : Def P w K mg base "give_ball" ["game", "side", "shot"] 1 (sp_give_ball K A)) (D_stands : Def P w K mg base "stands" ["game"] 2 (sp_stands K A)) {f : Addr} {cdv : Value} {Ar : Around} {outer : List Env} {s : Shared} {H : Hp} {E : XK} (hr : Room 5 (Ar.deeper (envOfC "rebound" (defScope s_rebound) s.heap.objs.size f cdv))) :
    PSs (cxOf CX0 P w K mg base ["game", "side", "found"] "rebound" (defScope s_rebound) f cdv Ar outer s H E).nox (defBody s_rebound) (t_rebound K A) := by
  exact (pss_cons (ps_set (i := 2) sc_rebound.nd rfl (Or.inl rfl) (pe_def D_refusal_in_play (hr.mono (by decide)) rfl (pa_cons (pv 0) (pa_cons (pe_def D_is_side (hr.mono (by decide)) rfl (pa_cons (pv 1) pa_nil)) pa_nil)))) (pss_cons (ps_if (pt_cmpR op_ne (pv 2) pe_int (nomark _)) (pss_one (ps_ret (pe_lst (pa_cons (pv 2) pa_nil)))) pss_nil) (pss_cons (ps_if (pt_cmpR op_ne (pe_fld (pv 0) rfl) (pe_gint rfl T.g_NOBODY) (nomark _)) (pss_one (ps_ret (pe_lst (pa_cons (pe_gint rfl T.g_BALL_ELSEWHERE) pa_nil)))) pss_nil) (pss_cons (ps_expr (pe_def D_give_ball (hr.mono (by decide)) rfl (pa_cons (pv 0) (pa_cons (pv 1) (pa_cons (pe_def D_shot_behind (hr.mono (by decide)) rfl (pa_cons (pv 0) (pa_cons (pv 1) pa_nil))) pa_nil))))) (pss_one (ps_ret (pe_op op_cat (pe_lst (pa_cons pe_int pa_nil)) (pe_def D_stands (hr.mono (by decide)) rfl (pa_cons (pv 0) pa_nil)))))))))

theorem tie_lose {P : Program} {w : World} {K : PySem.W.Frag} {mg : Str → Option Value} {base : Heap} {A : Ad} (T : Txt K mg A) (D_refusal_in_play : Def P w K mg base "refusal_in_play" ["game", "right"] 5 (sp_refusal_in_play K A)) (D_other : Def P w K mg base "other" ["side"] 1 (sp_other K A)) (D_give_ball : Def P w K mg base "give_ball" ["game", "side", "shot"] 1 (sp_give_ball K A)) (D_stands : Def P w K mg base "stands" ["game"] 2 (sp_stands K A)) {f : Addr} {cdv : Value} {Ar : Around} {outer : List Env} {s : Shared} {H : Hp} {E : XK} (hr : Room 5 (Ar.deeper (envOfC "lose" (defScope s_lose) s.heap.objs.size f cdv))) :
    PSs (cxOf CX0 P w K mg base ["game", "found"] "lose" (defScope s_lose) f cdv Ar outer s H E).nox (defBody s_lose) (t_lose K A) := by
  exact (pss_cons (ps_set (i := 1) sc_lose.nd rfl (Or.inl rfl) (pe_def D_refusal_in_play (hr.mono (by decide)) rfl (pa_cons (pv 0) (pa_cons pe_bl pa_nil)))) (pss_cons (ps_if (pt_cmpR op_ne (pv 1) pe_int (nomark _)) (pss_one (ps_ret (pe_lst (pa_cons (pv 1) pa_nil)))) pss_nil) (pss_cons (ps_if (pt_cmpR op_eq (pe_fld (pv 0) rfl) (pe_gint rfl T.g_NOBODY) (nomark _)) (pss_one (ps_ret (pe_lst (pa_cons (pe_gint rfl T.g_BALL_ELSEWHERE) pa_nil)))) pss_nil) (pss_cons (ps_expr (pe_def D_give_ball (hr.mono (by decide)) rfl (pa_cons (pv 0) (pa_cons (pe_def D_other (hr.mono (by decide)) rfl (pa_cons (pe_fld (pv 0) rfl) pa_nil)) (pa_cons (pe_gint rfl T.g_FULL_SHOT) pa_nil))))) (pss_one (ps_ret (pe_op op_cat (pe_lst (pa_cons pe_int pa_nil)) (pe_def D_stands (hr.mono (by decide)) rfl (pa_cons (pv 0) pa_nil)))))))))

theorem tie_held {P : Program} {w : World} {K : PySem.W.Frag} {mg : Str → Option Value} {base : Heap} {A : Ad} (T : Txt K mg A) (D_refusal_in_play : Def P w K mg base "refusal_in_play" ["game", "right"] 5 (sp_refusal_in_play K A)) (D_give_ball : Def P w K mg base "give_ball" ["game", "side", "shot"] 1 (sp_give_ball K A)) (D_turn_arrow : Def P w K mg base "turn_arrow" ["game"] 2 (sp_turn_arrow K A)) (D_stands : Def P w K mg base "stands" ["game"] 2 (sp_stands K A)) {f : Addr} {cdv : Value} {Ar : Around} {outer : List Env} {s : Shared} {H : Hp} {E : XK} (hr : Room 5 (Ar.deeper (envOfC "held" (defScope s_held) s.heap.objs.size f cdv))) :
    PSs (cxOf CX0 P w K mg base ["game", "found"] "held" (defScope s_held) f cdv Ar outer s H E).nox (defBody s_held) (t_held K A) := by
  exact (pss_cons (ps_set (i := 1) sc_held.nd rfl (Or.inl rfl) (pe_def D_refusal_in_play (hr.mono (by decide)) rfl (pa_cons (pv 0) (pa_cons pe_bl pa_nil)))) (pss_cons (ps_if (pt_cmpR op_ne (pv 1) pe_int (nomark _)) (pss_one (ps_ret (pe_lst (pa_cons (pv 1) pa_nil)))) pss_nil) (pss_cons (ps_if (pt_cmpR op_ne (pe_fld (pv 0) rfl) (pe_fld (pv 0) rfl) (nomark _)) (pss_one (ps_expr (pe_def D_give_ball (hr.mono (by decide)) rfl (pa_cons (pv 0) (pa_cons (pe_fld (pv 0) rfl) (pa_cons (pe_gint rfl T.g_FULL_SHOT) pa_nil)))))) pss_nil) (pss_cons (ps_expr (pe_def D_turn_arrow (hr.mono (by decide)) rfl (pa_cons (pv 0) pa_nil))) (pss_one (ps_ret (pe_op op_cat (pe_lst (pa_cons pe_int pa_nil)) (pe_def D_stands (hr.mono (by decide)) rfl (pa_cons (pv 0) pa_nil)))))))))

theorem tie_rows_at {P : Program} {w : World} {K : PySem.W.Frag} {mg : Str → Option Value} {base : Heap} {A : Ad} (T : Txt K mg A) {f : Addr} {cdv : Value} {Ar : Around} {outer : List Env} {s : Shared} {H : Hp} {E : XK} (hr : Room 0 (Ar.deeper (envOfC "rows_at" (defScope s_rows_at) s.heap.objs.size f cdv))) :
    PSs (cxOf CX0 P w K mg base ["calls", "at", "middle", "end"] "rows_at" (defScope s_rows_at) f cdv Ar outer s H E).nox (defBody s_rows_at) (t_rows_at K A) := by
  exact (pss_cons (ps_set (i := 2) sc_rows_at.nd rfl (Or.inl rfl) (pe_op op_add (pe_op op_add (pv 1) pe_int) (pe_ix ix_list (pv 0) (pv 1) (fun _ _ => rfl)))) (pss_cons (ps_set (i := 3) sc_rows_at.nd rfl (Or.inl rfl) (pe_op op_add (pe_op op_add (pv 2) pe_int) (pe_ix ix_list (pv 0) (pv 2) (fun _ _ => rfl)))) (pss_one (ps_ret (pe_tup (pa_cons (pe_slice sl_list (pv 0) (po_some (pe_op op_add (pv 1) pe_int)) (po_some (pv 2))) (pa_cons (pe_slice sl_list (pv 0) (po_some (pe_op op_add (pv 2) pe_int)) (po_some (pv 3))) (pa_cons (pv 3) pa_nil))))))))

theorem tie_parted {P : Program} {w : World} {K : PySem.W.Frag} {mg : Str → Option Value} {base : Heap} {A : Ad} (T : Txt K mg A) (D_rows_at : Def P w K mg base "rows_at" ["calls", "at"] 1 (sp_rows_at K A)) {f : Addr} {cdv : Value} {Ar : Around} {outer : List Env} {s : Shared} {H : Hp} {E : XK} (hr : Room 1 (Ar.deeper (envOfC "parted" (defScope s_parted) s.heap.objs.size f cdv))) :
    PSs (cxOf CX0 P w K mg base ["calls", "found", "at", "word", "first", "second", "end"] "parted" (defScope s_parted) f cdv Ar outer s H E).nox (defBody s_parted) (t_parted K A) := by
  exact (pss_cons (ps_set (i := 1) sc_parted.nd rfl (Or.inl rfl) (pe_lst pa_nil)) (pss_cons (ps_set (i := 2) sc_parted.nd rfl (Or.inl rfl) pe_int) (pss_cons (ps_while PassesOwn.never (pt_cmpR op_lt (pv 2) (pe_callB call_len_seq (by rfl) T.n_len (by decide +kernel) (pa_cons (pv 0) pa_nil)) (nomark _)) (pss_cons (ps_set (i := 3) sc_parted.nd rfl (Or.inl rfl) (pe_ix ix_list (pv 0) (pv 2) (fun _ _ => rfl))) (pss_one (ps_if (pt_cmpR op_eq (pv 3) (pe_gint rfl T.g_BEGIN) (nomark _)) (pss_cons (ps_asg (pe_def D_rows_at (hr.mono (by decide)) rfl (pa_cons (pv 0) (pa_cons (pe_op op_add (pv 2) pe_int) pa_nil))) (pg_tup rfl (pgs_cons (pg_name (i := 4) sc_parted.nd rfl (Or.inl rfl)) (pgs_cons (pg_name (i := 5) sc_parted.nd rfl (Or.inl rfl)) (pgs_cons (pg_name (i := 2) sc_parted.nd rfl (Or.inl rfl)) pgs_nil))))) (pss_one (ps_expr (pe_bm PySem.F.plainAttrs_list PySem.F.slot_list_append PySem.F.type_list_append mt_append (pv 1) (pa_cons (pe_tup (pa_cons (pv 3) (pa_cons (pv 4) (pa_cons (pv 5) pa_nil)))) pa_nil))))) (pss_cons (ps_set (i := 6) sc_parted.nd rfl (Or.inl rfl) (pe_op op_add (pe_op op_add (pv 2) pe_int) (pe_counts rfl T.counts (pv 3) (fun _ _ => rfl)))) (pss_cons (ps_expr (pe_bm PySem.F.plainAttrs_list PySem.F.slot_list_append PySem.F.type_list_append mt_append (pv 1) (pa_cons (pe_tup (pa_cons (pv 3) (pa_cons (pe_slice sl_list (pv 0) (po_some (pe_op op_add (pv 2) pe_int)) (po_some (pv 6))) (pa_cons (pe_lst pa_nil) pa_nil)))) pa_nil))) (pss_one (ps_set (i := 2) sc_parted.nd rfl (Or.inl rfl) (pv 6))))))))) (pss_one (ps_ret (pv 1))))))

theorem tie_now {P : Program} {w : World} {K : PySem.W.Frag} {mg : Str → Option Value} {base : Heap} {A : Ad} (T : Txt K mg A) (D_stands : Def P w K mg base "stands" ["game"] 2 (sp_stands K A)) {f : Addr} {cdv : Value} {Ar : Around} {outer : List Env} {s : Shared} {H : Hp} {E : XK} (hr : Room 2 (Ar.deeper (envOfC "now" (defScope s_now) s.heap.objs.size f cdv))) :
    PSs (cxOf CX0 P w K mg base ["game"] "now" (defScope s_now) f cdv Ar outer s H E).nox (defBody s_now) (t_now K A) := by
  exact (pss_one (ps_ret (pe_op op_cat (pe_lst (pa_cons (pe_callTy call_int1 (by rfl) T.n_int (by decide +kernel) (pa_cons (pe_cmpR op_notN (pv 0) pe_non (nomark _)) pa_nil)) pa_nil)) (pe_def D_stands (hr.mono (by decide)) rfl (pa_cons (pv 0) pa_nil)))))

theorem tie_in_play {P : Program} {w : World} {K : PySem.W.Frag} {mg : Str → Option Value} {base : Heap} {A : Ad} (T : Txt K mg A) (D_tip : Def P w K mg base "tip" ["game", "side"] 4 (sp_tip K A)) (D_run : Def P w K mg base "run" ["game", "tenths"] 6 (sp_run K A)) (D_basket : Def P w K mg base "basket" ["game", "number", "points"] 6 (sp_basket K A)) (D_miss : Def P w K mg base "miss" ["game", "number", "ring"] 6 (sp_miss K A)) (D_rebound : Def P w K mg base "rebound" ["game", "side"] 6 (sp_rebound K A)) (D_lose : Def P w K mg base "lose" ["game"] 6 (sp_lose K A)) (D_held : Def P w K mg base "held" ["game"] 6 (sp_held K A)) {f : Addr} {cdv : Value} {Ar : Around} {outer : List Env} {s : Shared} {H : Hp} {E : XK} (hr : Room 6 (Ar.deeper (envOfC "in_play" (defScope s_in_play) s.heap.objs.size f cdv))) :
    PSs (cxOf CX0 P w K mg base ["game", "word", "told"] "in_play" (defScope s_in_play) f cdv Ar outer s H E).nox (defBody s_in_play) (t_in_play K A) := by
  exact (pss_cons (ps_if (pt_cmpR op_eq (pv 1) pe_int (nomark _)) (pss_one (ps_ret (pe_def D_tip (hr.mono (by decide)) rfl (pa_cons (pv 0) (pa_cons (pe_ix ix_list (pv 2) pe_int (fun _ _ => rfl)) pa_nil))))) pss_nil) (pss_cons (ps_if (pt_cmpR op_eq (pv 1) pe_int (nomark _)) (pss_one (ps_ret (pe_def D_run (hr.mono (by decide)) rfl (pa_cons (pv 0) (pa_cons (pe_ix ix_list (pv 2) pe_int (fun _ _ => rfl)) pa_nil))))) pss_nil) (pss_cons (ps_if (pt_cmpR op_eq (pv 1) pe_int (nomark _)) (pss_one (ps_ret (pe_def D_basket (hr.mono (by decide)) rfl (pa_cons (pv 0) (pa_cons (pe_ix ix_list (pv 2) pe_int (fun _ _ => rfl)) (pa_cons (pe_ix ix_list (pv 2) pe_int (fun _ _ => rfl)) pa_nil)))))) pss_nil) (pss_cons (ps_if (pt_cmpR op_eq (pv 1) pe_int (nomark _)) (pss_one (ps_ret (pe_def D_miss (hr.mono (by decide)) rfl (pa_cons (pv 0) (pa_cons (pe_ix ix_list (pv 2) pe_int (fun _ _ => rfl)) (pa_cons (pe_ix ix_list (pv 2) pe_int (fun _ _ => rfl)) pa_nil)))))) pss_nil) (pss_cons (ps_if (pt_cmpR op_eq (pv 1) pe_int (nomark _)) (pss_one (ps_ret (pe_def D_rebound (hr.mono (by decide)) rfl (pa_cons (pv 0) (pa_cons (pe_ix ix_list (pv 2) pe_int (fun _ _ => rfl)) pa_nil))))) pss_nil) (pss_cons (ps_if (pt_cmpR op_eq (pv 1) pe_int (nomark _)) (pss_one (ps_ret (pe_def D_lose (hr.mono (by decide)) rfl (pa_cons (pv 0) pa_nil)))) pss_nil) (pss_one (ps_ret (pe_def D_held (hr.mono (by decide)) rfl (pa_cons (pv 0) pa_nil))))))))))

theorem tie_beside_play {P : Program} {w : World} {K : PySem.W.Frag} {mg : Str → Option Value} {base : Heap} {A : Ad} (T : Txt K mg A) (D_foul : Def P w K mg base "foul" ["game", "side", "number", "kind", "shot"] 6 (sp_foul K A)) (D_throw : Def P w K mg base "throw" ["game", "number", "good"] 5 (sp_throw K A)) (D_sub : Def P w K mg base "sub" ["game", "side", "goes", "comes"] 4 (sp_sub K A)) (D_enter : Def P w K mg base "enter" ["game", "side", "comes"] 4 (sp_enter K A)) (D_timeout : Def P w K mg base "timeout" ["game", "side"] 3 (sp_timeout K A)) (D_now : Def P w K mg base "now" ["game"] 3 (sp_now K A)) (D_sheet : Def P w K mg base "sheet" ["game", "side"] 4 (sp_sheet K A)) {f : Addr} {cdv : Value} {Ar : Around} {outer : List Env} {s : Shared} {H : Hp} {E : XK} (hr : Room 6 (Ar.deeper (envOfC "beside_play" (defScope s_beside_play) s.heap.objs.size f cdv))) :
    PSs (cxOf CX0 P w K mg base ["game", "word", "told"] "beside_play" (defScope s_beside_play) f cdv Ar outer s H E).nox (defBody s_beside_play) (t_beside_play K A) := by
  exact (pss_cons (ps_if (pt_cmpR op_eq (pv 1) pe_int (nomark _)) (pss_one (ps_ret (pe_def D_foul (hr.mono (by decide)) rfl (pa_cons (pv 0) (pa_cons (pe_ix ix_list (pv 2) pe_int (fun _ _ => rfl)) (pa_cons (pe_ix ix_list (pv 2) pe_int (fun _ _ => rfl)) (pa_cons (pe_ix ix_list (pv 2) pe_int (fun _ _ => rfl)) (pa_cons (pe_ix ix_list (pv 2) pe_int (fun _ _ => rfl)) pa_nil)))))))) pss_nil) (pss_cons (ps_if (pt_cmpR op_eq (pv 1) pe_int (nomark _)) (pss_one (ps_ret (pe_def D_throw (hr.mono (by decide)) rfl (pa_cons (pv 0) (pa_cons (pe_ix ix_list (pv 2) pe_int (fun _ _ => rfl)) (pa_cons (pe_ix ix_list (pv 2) pe_int (fun _ _ => rfl)) pa_nil)))))) pss_nil) (pss_cons (ps_if (pt_cmpR op_eq (pv 1) pe_int (nomark _)) (pss_one (ps_ret (pe_def D_sub (hr.mono (by decide)) rfl (pa_cons (pv 0) (pa_cons (pe_ix ix_list (pv 2) pe_int (fun _ _ => rfl)) (pa_cons (pe_ix ix_list (pv 2) pe_int (fun _ _ => rfl)) (pa_cons (pe_ix ix_list (pv 2) pe_int (fun _ _ => rfl)) pa_nil))))))) pss_nil) (pss_cons (ps_if (pt_cmpR op_eq (pv 1) pe_int (nomark _)) (pss_one (ps_ret (pe_def D_enter (hr.mono (by decide)) rfl (pa_cons (pv 0) (pa_cons (pe_ix ix_list (pv 2) pe_int (fun _ _ => rfl)) (pa_cons (pe_ix ix_list (pv 2) pe_int (fun _ _ => rfl)) pa_nil)))))) pss_nil) (pss_cons (ps_if (pt_cmpR op_eq (pv 1) pe_int (nomark _)) (pss_one (ps_ret (pe_def D_timeout (hr.mono (by decide)) rfl (pa_cons (pv 0) (pa_cons (pe_ix ix_list (pv 2) pe_int (fun _ _ => rfl)) pa_nil))))) pss_nil) (pss_cons (ps_if (pt_cmpR op_eq (pv 1) pe_int (nomark _)) (pss_one (ps_ret (pe_def D_now (hr.mono (by decide)) rfl (pa_cons (pv 0) pa_nil)))) pss_nil) (pss_one (ps_ret (pe_def D_sheet (hr.mono (by decide)) rfl (pa_cons (pv 0) (pa_cons (pe_ix ix_list (pv 2) pe_int (fun _ _ => rfl)) pa_nil)))))))))))

theorem tie_answers {P : Program} {w : World} {K : PySem.W.Frag} {mg : Str → Option Value} {base : Heap} {A : Ad} (T : Txt K mg A) (D_parted : Def P w K mg base "parted" ["calls"] 2 (sp_parted K A)) (D_are_players : Def P w K mg base "are_players" ["numbers"] 2 (sp_are_players K A)) (D_in_play : Def P w K mg base "in_play" ["game", "word", "told"] 7 (sp_in_play K A)) (D_beside_play : Def P w K mg base "beside_play" ["game", "word", "told"] 7 (sp_beside_play K A)) (M_Game : MkD P w K mg base A.cG "Game" ["self", "first", "second"] 5 (sp_init_Game K A)) {f : Addr} {cdv : Value} {Ar : Around} {outer : List Env} {s : Shared} {H : Hp} {E : XK} (hr : Room 7 (Ar.deeper (envOfC "answers" (defScope s_answers) s.heap.objs.size f cdv))) :
    PSs (cxOf CX0 P w K mg base ["calls", "game", "found", "word", "told", "more", "answer"] "answers" (defScope s_answers) f cdv Ar outer s H E).nox (defBody s_answers) (t_answers K A) := by
  exact (pss_cons (ps_set (i := 1) sc_answers.nd rfl (Or.inl rfl) pe_non) (pss_cons (ps_set (i := 2) sc_answers.nd rfl (Or.inl rfl) (pe_lst pa_nil)) (pss_cons (ps_for PassesOwn.never rfl (pi_list (pe_def D_parted (hr.mono (by decide)) rfl (pa_cons (pv 0) pa_nil))) (pg_tup rfl (pgs_cons (pg_name (i := 3) sc_answers.nd rfl (Or.inl rfl)) (pgs_cons (pg_name (i := 4) sc_answers.nd rfl (Or.inl rfl)) (pgs_cons (pg_name (i := 5) sc_answers.nd rfl (Or.inl rfl)) pgs_nil)))) (pss_cons (ps_set (i := 6) sc_answers.nd rfl (Or.inl rfl) (pe_lst (pa_cons pe_int pa_nil))) (pss_cons (ps_if (PW.pt (pw_and (pt_cmpR op_eq (pv 3) (pe_gint rfl T.g_BEGIN) (nomark _)) (pw_and (pt_val (pe_def D_are_players (hr.mono (by decide)) rfl (pa_cons (pv 4) pa_nil))) (pw_and1 (pt_val (pe_def D_are_players (hr.mono (by decide)) rfl (pa_cons (pv 5) pa_nil))))))) (pss_one (ps_set (i := 1) sc_answers.nd rfl (Or.inl rfl) (pe_mk M_Game (hr.mono (by decide)) rfl (pa_cons (pv 4) (pa_cons (pv 5) pa_nil))))) (pss_one (ps_if (pt_cmpR op_eq (pv 3) (pe_gint rfl T.g_BEGIN) (nomark _)) (pss_one (ps_set (i := 6) sc_answers.nd rfl (Or.inl rfl) (pe_lst (pa_cons (pe_gint rfl T.g_WRONG) pa_nil)))) (pss_one (ps_if (pt_cmpR op_le (pv 3) pe_int (nomark _)) (pss_one (ps_set (i := 6) sc_answers.nd rfl (Or.inl rfl) (pe_def D_in_play (hr.mono (by decide)) rfl (pa_cons (pv 1) (pa_cons (pv 3) (pa_cons (pv 4) pa_nil)))))) (pss_one (ps_set (i := 6) sc_answers.nd rfl (Or.inl rfl) (pe_def D_beside_play (hr.mono (by decide)) rfl (pa_cons (pv 1) (pa_cons (pv 3) (pa_cons (pv 4) pa_nil))))))))))) (pss_cons (ps_expr (pe_bm PySem.F.plainAttrs_list PySem.F.slot_list_append PySem.F.type_list_append mt_append (pv 2) (pa_cons (pe_callB call_len_seq (by rfl) T.n_len (by decide +kernel) (pa_cons (pv 6) pa_nil)) pa_nil))) (pss_one (ps_expr (pe_bm PySem.F.plainAttrs_list PySem.F.slot_list_extend PySem.F.type_list_extend mt_extend (pv 2) (pa_cons (pv 6) pa_nil)))))))) (pss_one (ps_ret (pv 2))))))

end CtW
/-! Promise gives reading: words, players. -/
namespace CtW
open PySem PySem.Spec PyProof.Rows L2 Evl
/-! ### small steps -/
theorem deq {i j : Int} : decide (V.int i = V.int j) = decide (i = j) := by
  rw [decide_eq_decide]; constructor
  · intro h; injection h
  · intro h; rw [h]
section
variable {σ : L2.St} {H : Hp} {ta tb tc : TE} {i j : Int} {a : Addr} {v : V}
theorem ev_eq (ha : Ev ta σ H (.int i)) (hb : Ev tb σ H (.int j)) : Ev (tOp rEq ta tb) σ H (.bl (decide (i = j))) := ev_is (ev_op ha hb (rv_eq rfl)) (by rw [deq])
theorem ev_ne (ha : Ev ta σ H (.int i)) (hb : Ev tb σ H (.int j)) : Ev (tOp rNe ta tb) σ H (.bl (!decide (i = j))) := ev_is (ev_op ha hb (rv_ne rfl)) (by rw [deq])
theorem ev_add (ha : Ev ta σ H (.int i)) (hb : Ev tb σ H (.int j)) : Ev (tOp rAddI ta tb) σ H (.int (i + j)) := ev_op ha hb rv_I0
theorem ev_sub (ha : Ev ta σ H (.int i)) (hb : Ev tb σ H (.int j)) : Ev (tOp rSubI ta tb) σ H (.int (i - j)) := ev_op ha hb rv_I0
theorem ev_lt (ha : Ev ta σ H (.int i)) (hb : Ev tb σ H (.int j)) : Ev (tOp rLtI ta tb) σ H (.bl (decide (i < j))) := ev_op ha hb rv_I0
theorem ev_le (ha : Ev ta σ H (.int i)) (hb : Ev tb σ H (.int j)) : Ev (tOp rLeI ta tb) σ H (.bl (decide (i ≤ j))) := ev_op ha hb rv_I0
theorem ev_gt (ha : Ev ta σ H (.int i)) (hb : Ev tb σ H (.int j)) : Ev (tOp rGtI ta tb) σ H (.bl (decide (j < i))) := ev_op ha hb rv_I0
theorem ev_ge (ha : Ev ta σ H (.int i)) (hb : Ev tb σ H (.int j)) : Ev (tOp rGeI ta tb) σ H (.bl (decide (j ≤ i))) := ev_op ha hb rv_I0
theorem ev_isR (ha : Ev ta σ H (.ref a)) : Ev (tOp rIsNo ta (tC .non)) σ H (.bl false) := ev_op ha ev_c fun H1 _ Q q => ⟨rfl, q H1 (Ex.refl H1)⟩
theorem ev_isN (ha : Ev ta σ H .non) : Ev (tOp rIsNo ta (tC .non)) σ H (.bl true) := ev_op ha ev_c fun H1 _ Q q => ⟨rfl, q H1 (Ex.refl H1)⟩
theorem ev_notR (ha : Ev ta σ H (.ref a)) : Ev (tOp rNotNo ta (tC .non)) σ H (.bl true) := ev_op ha ev_c fun H1 _ Q q => ⟨rfl, q H1 (Ex.refl H1)⟩
theorem ev_notN (ha : Ev ta σ H .non) : Ev (tOp rNotNo ta (tC .non)) σ H (.bl false) := ev_op ha ev_c fun H1 _ Q q => ⟨rfl, q H1 (Ex.refl H1)⟩
/-- lo <= x <= hi -/
theorem ev_within {lo hi : Int} (ha : Ev ta σ H (.int lo)) (hb : Ev tb σ H (.int i)) (hc : Ev tc σ H (.int hi)) : Ev (tChain rLeI rLeI ta tb tc) σ H (.bl (decide (lo ≤ i) && decide (i ≤ hi))) := fun H1 e Q q =>
  ha H1 e _ fun H2 e2 => hb H2 (e.trans e2) _ fun H3 e3 => ⟨_, _, rfl, rfl, _, rfl, by
    by_cases h : lo ≤ i
    · rw [decide_eq_true h]
      refine iteT ?_
      refine hc H3 ((e.trans e2).trans e3) _ fun H4 e4 => ⟨_, _, rfl, rfl, ?_⟩
      have := q H4 ((e2.trans e3).trans e4)
      rw [decide_eq_true h, Bool.true_and] at this
      exact this
    · have := q H3 (e2.trans e3)
      rw [decide_eq_false h, Bool.false_and] at this
      rw [decide_eq_false h]
      exact iteF this⟩
theorem ev_int1 {b : Bool} (ha : Ev ta σ H (.bl b)) : Ev (tCB rInt1 (tCons ta tNil)) σ H (.int (Ct.b2i b)) := ev_cb (ea_cons ha ea_nil) fun H1 _ Q q => .inr ⟨b, rfl, q H1 (Ex.refl H1)⟩
theorem ev_min2 (ha : Ev ta σ H (.int i)) (hb : Ev tb σ H (.int j)) : Ev (tCB rMin2 (tCons ta (tCons tb tNil))) σ H (.int (if j < i then j else i)) := ev_cb (ea_cons ha (ea_cons hb ea_nil)) fun H1 _ Q q => ⟨i, j, rfl, q H1 (Ex.refl H1)⟩
/-- an if whose test is known -/
theorem s_ifT {t : TT} {tu tw : TS} {D : Ends} (h : EvT t σ H true) (k : ∀ H1, Same H H1 → tu D σ H1) : tIfS t tu tw D σ H := s_if h (fun _ => k) (fun z => by cases z)
theorem s_ifF {t : TT} {tu tw : TS} {D : Ends} (h : EvT t σ H false) (k : ∀ H1, Same H H1 → tw D σ H1) : tIfS t tu tw D σ H := s_if h (fun z => by cases z) (fun _ => k)
theorem s_nx {D : Ends} (h : D.nx σ H) : tNext D σ H := h
/-- if without an else, what follows behind it -/
theorem sq_if {b : Bool} {t : TT} {tu u : TS} {D : Ends} (h : EvT t σ H b) (h1 : b = true → ∀ H1, Same H H1 → tu { D with nx := u D } σ H1) (h2 : b = false → ∀ H1, Same H H1 → u D σ H1) : tSeq (tIfS t tu tNext) u D σ H := s_if h h1 h2
theorem bt {c : Prop} [Decidable c] (h : decide c = true) : c := of_decide_eq_true h
theorem bf {c : Prop} [Decidable c] (h : decide c = false) : ¬ c := of_decide_eq_false h
theorem nt {b : Bool} (h : (!b) = true) : b = false := by cases b; rfl; cases h
theorem nf {b : Bool} (h : (!b) = false) : b = true := by cases b; cases h; rfl
end
section
variable {K : PySem.W.Frag} {mg : Str → Option Value} {A : Ad} {vs : List V} {H : Hp} {Q : VK} {E : XK}
/-! ### the plain defs as evaluations -/
section
variable {σ : L2.St} {ta tb tc td : TE} {s n k z : Int} {a : Addr} {p : Ct.Pl} {E' : XK}
theorem c_other (h : Ev ta σ H (.int s)) : Ev (tCall (sp_other K A) [] E' (tCons ta tNil)) σ H (.int (1 - s)) := ev_get (ea_cons h ea_nil) fun H1 _ Q q E => ⟨s, rfl, q⟩
theorem c_is_side (h : Ev ta σ H (.int s)) : Ev (tCall (sp_is_side K A) [] E' (tCons ta tNil)) σ H (.bl (Ct.isSide s)) := ev_get (ea_cons h ea_nil) fun H1 _ Q q E => ⟨s, rfl, q⟩
theorem c_is_truth (h : Ev ta σ H (.int s)) : Ev (tCall (sp_is_truth K A) [] E' (tCons ta tNil)) σ H (.bl (Ct.isSide s)) := ev_get (ea_cons h ea_nil) fun H1 _ Q q E => ⟨s, rfl, q⟩
theorem c_is_number (h : Ev ta σ H (.int s)) : Ev (tCall (sp_is_number K A) [] E' (tCons ta tNil)) σ H (.bl (Ct.isNumber s)) := ev_get (ea_cons h ea_nil) fun H1 _ Q q E => ⟨s, rfl, q⟩
theorem c_is_right_foul (h1 : Ev ta σ H (.int s)) (h2 : Ev tb σ H (.int n)) (h3 : Ev tc σ H (.int k)) (h4 : Ev td σ H (.int z)) : Ev (tCall (sp_is_right_foul K A) [] E' (tCons ta (tCons tb (tCons tc (tCons td tNil))))) σ H (.bl (Ct.rightFoul s n k z)) :=
  ev_get (ea_cons h1 (ea_cons h2 (ea_cons h3 (ea_cons h4 ea_nil)))) fun H1 _ Q q E => ⟨s, n, k, z, rfl, q⟩
theorem c_most_timeouts (h : Ev ta σ H (.int s)) : Ev (tCall (sp_most_timeouts K A) [] E' (tCons ta tNil)) σ H (.int (Ct.mostT s)) := ev_get (ea_cons h ea_nil) fun H1 _ Q q E => ⟨s, rfl, q⟩
theorem c_is_out (h : Ev ta σ H (.ref a)) (hp : PlAt A H a p) : Ev (tCall (sp_is_out K A) [] E' (tCons ta tNil)) σ H (.bl p.isOut) := ev_get (ea_cons h ea_nil) fun H1 e Q q E => ⟨a, p, rfl, hp.fr (Fr.of (S := []) e) (by simp), q⟩
theorem c_is_on_bench (h : Ev ta σ H (.ref a)) (hp : PlAt A H a p) : Ev (tCall (sp_is_on_bench K A) [] E' (tCons ta tNil)) σ H (.bl p.isBench) := ev_get (ea_cons h ea_nil) fun H1 e Q q E => ⟨a, p, rfl, hp.fr (Fr.of (S := []) e) (by simp), q⟩
end
theorem PlAt.same {a : Addr} {p : Ct.Pl} {H' : Hp} (hp : PlAt A H a p) (s : Same H H') : PlAt A H' a p := hp.fr (Fr.of (S := []) s) (by simp)
/-! ### words -/
theorem pure_other (T : Txt K mg A) (h : sp_other K A vs H Q E) : t_other K A { nx := fun _ H' => Q .non H', rt := Q } (start ["side"] vs) H := by
  obtain ⟨s, rfl, q⟩ := h
  exact s_ret (ev_sub ev_c (ev_var rfl)) q
theorem pure_is_side (T : Txt K mg A) (h : sp_is_side K A vs H Q E) : t_is_side K A { nx := fun _ H' => Q .non H', rt := Q } (start ["number"] vs) H := by
  obtain ⟨s, rfl, q⟩ := h
  exact s_ret (ev_orV (ev_eq (ev_var rfl) ev_c) fun _ => ev_eq (ev_var rfl) ev_c) q
theorem pure_is_truth (T : Txt K mg A) (h : sp_is_truth K A vs H Q E) : t_is_truth K A { nx := fun _ H' => Q .non H', rt := Q } (start ["number"] vs) H := by
  obtain ⟨s, rfl, q⟩ := h
  exact s_ret (ev_orV (ev_eq (ev_var rfl) ev_c) fun _ => ev_eq (ev_var rfl) ev_c) q
theorem pure_is_number (T : Txt K mg A) (h : sp_is_number K A vs H Q E) : t_is_number K A { nx := fun _ H' => Q .non H', rt := Q } (start ["number"] vs) H := by
  obtain ⟨s, rfl, q⟩ := h
  exact s_ret (ev_within ev_c (ev_var rfl) ev_c) q
theorem pure_most_timeouts (T : Txt K mg A) (h : sp_most_timeouts K A vs H Q E) : t_most_timeouts K A { nx := fun _ H' => Q .non H', rt := Q } (start ["period"] vs) H := by
  obtain ⟨p, rfl, q⟩ := h
  refine sq_if (et_test (ev_le (ev_var rfl) ev_c)) (fun b H1 e => ?_) (fun b H1 e => ?_)
  · refine s_ret ev_c fun H2 e2 => ?_
    have : Ct.mostT p = 2 := if_pos (bt b)
    rw [this] at q; exact q _ (e.trans e2)
  refine sq_if (et_test (ev_le (ev_var rfl) ev_c)) (fun b2 H2 e2 => ?_) (fun b2 H2 e2 => ?_)
  · refine s_ret ev_c fun H3 e3 => ?_
    have : Ct.mostT p = 3 := (if_neg (bf b)).trans (if_pos (bt b2))
    rw [this] at q; exact q _ ((e.trans e2).trans e3)
  · refine s_ret ev_c fun H3 e3 => ?_
    have : Ct.mostT p = 1 := (if_neg (bf b)).trans (if_neg (bf b2))
    rw [this] at q; exact q _ ((e.trans e2).trans e3)
theorem pure_is_right_foul (T : Txt K mg A) (h : sp_is_right_foul K A vs H Q E) : t_is_right_foul K A { nx := fun _ H' => Q .non H', rt := Q } (start ["side", "number", "kind", "shot"] vs) H := by
  obtain ⟨s, n, k, z, rfl, q⟩ := h
  exact s_ret (ev_andV (c_is_side (ev_var rfl)) fun _ => ev_andV (c_is_number (ev_var rfl)) fun _ => ev_andV (ev_within ev_c (ev_var rfl) ev_c) fun _ => ev_within ev_c (ev_var rfl) ev_c) q
/-! ### players -/
theorem pure_init_Player (T : Txt K mg A) (h : sp_init_Player K A vs H Q E) : t_init_Player K A { nx := fun _ H' => Q .non H', rt := Q } (start ["self", "number", "on_court"] vs) H := by
  obtain ⟨a, dx, n, c, rfl, e, q⟩ := h
  refine s_fld (ev_var rfl) (ev_var rfl) e T.clP T.aP_number (by decide) fun H1 s1 => ?_
  refine s_fld ev_c (ev_var rfl) upd_same T.clP T.aP_points (by show 1 < 1000; decide) fun H2 s2 => ?_
  refine s_fld ev_c (ev_var rfl) upd_same T.clP T.aP_personal (by show 2 < 1000; decide) fun H3 s3 => ?_
  refine s_fld ev_c (ev_var rfl) upd_same T.clP T.aP_technical (by show 3 < 1000; decide) fun H4 s4 => ?_
  refine s_fld ev_c (ev_var rfl) upd_same T.clP T.aP_heavy (by show 4 < 1000; decide) fun H5 s5 => ?_
  refine s_fld ev_c (ev_var rfl) upd_same T.clP T.aP_sent_off (by show 5 < 1000; decide) fun H6 s6 => ?_
  refine s_fld (ev_var rfl) (ev_var rfl) upd_same T.clP T.aP_on_court (by show 6 < 1000; decide) fun H7 s7 => ?_
  refine q _ ⟨dx, upd_same⟩ ?_
  exact ((Fr.of s1).trans fr_upd).trans (((Fr.of s2).trans fr_upd).trans (((Fr.of s3).trans fr_upd).trans (((Fr.of s4).trans fr_upd).trans (((Fr.of s5).trans fr_upd).trans (((Fr.of s6).trans fr_upd).trans ((Fr.of s7).trans fr_upd))))))
theorem pure_is_out (T : Txt K mg A) (h : sp_is_out K A vs H Q E) : t_is_out K A { nx := fun _ H' => Q .non H', rt := Q } (start ["player"] vs) H := by
  obtain ⟨a, p, rfl, hp, q⟩ := h
  refine s_if (et_or (et_B (ev_fld (ev_var rfl) (fP_sent_off T hp))) fun _ => et_test (ev_ge (ev_add (ev_fld (ev_var rfl) (fP_technical T hp)) (ev_fld (ev_var rfl) (fP_heavy T hp))) ev_c)) (fun b H1 e => ?_) (fun b H1 e => ?_)
  · refine s_ret ev_c fun H2 e2 => ?_
    have : p.isOut = true := by unfold Ct.Pl.isOut; rw [b, Bool.true_or]
    rw [this] at q; exact q _ (e.trans e2)
  · have hp := hp.same e
    refine s_ret (ev_ge (ev_add (ev_add (ev_fld (ev_var rfl) (fP_personal T hp)) (ev_fld (ev_var rfl) (fP_technical T hp))) (ev_fld (ev_var rfl) (fP_heavy T hp))) ev_c) fun H2 e2 => ?_
    have : p.isOut = decide (5 ≤ p.personal + p.technical + p.heavy) := by unfold Ct.Pl.isOut; rw [b, Bool.false_or]
    rw [this] at q; exact q _ (e.trans e2)
theorem pure_is_on_bench (T : Txt K mg A) (h : sp_is_on_bench K A vs H Q E) : t_is_on_bench K A { nx := fun _ H' => Q .non H', rt := Q } (start ["player"] vs) H := by
  obtain ⟨a, p, rfl, hp, q⟩ := h
  exact s_ret (ev_andV (ev_notV (ev_fld (ev_var rfl) (fP_on_court T hp))) fun _ => ev_notV (c_is_out (ev_var rfl) hp)) q
theorem pure_written (T : Txt K mg A) (h : sp_written K A vs H Q E) : t_written K A { nx := fun _ H' => Q .non H', rt := Q } (start ["player", "fouls"] vs) H := by
  obtain ⟨a, p, rfl, hp, q⟩ := h
  refine s_asgL (el_lst (ea_cons (ev_fld (ev_var rfl) (fP_personal T hp)) (ea_cons (ev_fld (ev_var rfl) (fP_technical T hp)) (ea_cons (ev_fld (ev_var rfl) (fP_heavy T hp)) ea_nil))) (by simp)) fun r H1 nr e hr => ?_
  have hp := hp.same e
  refine s_retL (el_cat (.of (el_cat (.of (el_lst (ea_cons (ev_fld (ev_var rfl) (fP_number T hp)) (ea_cons (ev_fld (ev_var rfl) (fP_points T hp)) ea_nil)) (by simp))) (.at (ev_var rfl) hr) (by simp)))
    (.of (el_lst (ea_cons (ev_int1 (c_is_out (ev_var rfl) hp)) (ea_cons (ev_int1 (ev_fld (ev_var rfl) (fP_on_court T hp))) ea_nil)) (by simp))) (by simp)) fun u H2 nu e2 hu => ?_
  exact q _ u (e.trans e2) (fresh_back e nu) hu
theorem pure_note_foul (T : Txt K mg A) (h : sp_note_foul K A vs H Q E) : t_note_foul K A { nx := fun _ H' => Q .non H', rt := Q } (start ["player", "kind"] vs) H := by
  obtain ⟨a, p, k, rfl, hp, q⟩ := h
  -- behind the count
  have rest : ∀ H1, PlAt A H1 a (p.counted k) → Fr [a] H H1 → tSeq (tIfS (tTest (tOp rEq (tVar 1) (tC (.int (3))))) (sFld K (tVar 0) (tC (.bl true)) "sent_off") tNext) (tIfS (tB (tCall (sp_is_out K A) [] E0 (tCons (tVar 0) tNil))) (sFld K (tVar 0) (tC (.bl false)) "on_court") tNext)
      { nx := fun _ H' => Q .non H', rt := Q } (start ["player", "kind"] [.ref a, .int k]) H1 := by
    intro H1 h1 f1
    have fin : ∀ H2, PlAt A H2 a ((p.counted k).sent k) → Fr [a] H H2 → tIfS (tB (tCall (sp_is_out K A) [] E0 (tCons (tVar 0) tNil))) (sFld K (tVar 0) (tC (.bl false)) "on_court") tNext
        { nx := fun _ H' => Q .non H', rt := Q } (start ["player", "kind"] [.ref a, .int k]) H2 := by
      intro H2 h2 f2
      have en : p.noted k = (if ((p.counted k).sent k).isOut = true then { ((p.counted k).sent k) with onCourt := false } else (p.counted k).sent k) := rfl
      refine s_if (et_B (c_is_out (ev_var rfl) h2)) (fun b H3 e3 => ?_) (fun b H3 e3 => ?_)
      · rw [if_pos b] at en
        refine wP_on_court T (h2.same e3) ev_c (ev_var rfl) fun H4 h4 f4 => ?_
        exact q _ (by rw [en]; exact h4) ((f2.trans (Fr.of e3)).trans f4)
      · rw [if_neg (by rw [b]; simp)] at en
        exact q _ (by rw [en]; exact h2.same e3) (f2.trans (Fr.of e3))
    refine s_if (et_test (ev_eq (ev_var rfl) ev_c)) (fun b H2 e2 => ?_) (fun b H2 e2 => ?_)
    · refine wP_sent_off T (h1.same e2) ev_c (ev_var rfl) fun H3 h3 f3 => ?_
      refine fin H3 ?_ ((f1.trans (Fr.of e2)).trans f3)
      have : (p.counted k).sent k = { (p.counted k) with sentOff := true } := if_pos (bt b)
      rw [this]; exact h3
    · refine fin H2 ?_ (f1.trans (Fr.of e2))
      have : (p.counted k).sent k = p.counted k := if_neg (bf b)
      rw [this]; exact h1.same e2
  refine s_if (et_test (ev_eq (ev_var rfl) ev_c)) (fun b H1 e1 => ?_) (fun b H1 e1 => ?_)
  · refine addP_personal T (hp.same e1) (ev_var rfl) ev_c fun H2 h2 f2 => rest H2 ?_ ((Fr.of e1).trans f2)
    have : p.counted k = { p with personal := p.personal + 1 } := if_pos (bt b)
    rw [this]; exact h2
  refine s_if (et_test (ev_eq (ev_var rfl) ev_c)) (fun b2 H2 e2 => ?_) (fun b2 H2 e2 => ?_)
  · refine addP_technical T ((hp.same e1).same e2) (ev_var rfl) ev_c fun H3 h3 f3 => rest H3 ?_ ((Fr.of (e1.trans e2)).trans f3)
    have : p.counted k = { p with technical := p.technical + 1 } := (if_neg (bf b)).trans (if_pos (bt b2))
    rw [this]; exact h3
  · refine addP_heavy T ((hp.same e1).same e2) (ev_var rfl) ev_c fun H3 h3 f3 => rest H3 ?_ ((Fr.of (e1.trans e2)).trans f3)
    have : p.counted k = { p with heavy := p.heavy + 1 } := (if_neg (bf b)).trans (if_neg (bf b2))
    rw [this]; exact h3
end
end CtW
/-! Promise gives reading: teams. -/
namespace CtW
open PySem PySem.Spec PyProof.Rows L2 Evl
/-! ### lists -/
theorem given_take {α : Type} (l : List α) (c : α → Bool) (g : α → V) : ∀ k, k ≤ l.length → given k (fun i => (l[i]?.map c).getD false) (fun i => (l[i]?.map g).getD .non) = ((l.take k).filter c).map g
  | 0, _ => by simp [given]
  | k + 1, h => by
    have ih := given_take l c g k (by omega)
    have e : l[k]? = some (l[k]'(by omega)) := by simp
    have et : l.take (k + 1) = l.take k ++ [l[k]'(by omega)] := (List.take_append_getElem (by omega)).symm
    cases hc : c (l[k]'(by omega)) with
    | true =>
      rw [given_yes (by rw [e]; exact hc), ih, et, List.filter_append, List.map_append]
      simp [hc, e]
    | false =>
      rw [given_no (by rw [e]; exact hc), ih, et, List.filter_append, List.map_append]
      simp [hc]
theorem given_all {α : Type} (l : List α) (c : α → Bool) (g : α → V) : given l.length (fun i => (l[i]?.map c).getD false) (fun i => (l[i]?.map g).getD .non) = (l.filter c).map g := by
  rw [given_take l c g l.length (Nat.le_refl _), List.take_length]
theorem filter_true {α : Type} (l : List α) : l.filter (fun _ => true) = l := by simp
theorem PsAt.get {A : Ad} {H : Hp} {as : List Addr} {ps : List Ct.Pl} (h : PsAt A H as ps) {i : Nat} {x : V} (hx : (as.map V.ref)[i]? = some x) : ∃ a p, x = .ref a ∧ as[i]? = some a ∧ ps[i]? = some p ∧ PlAt A H a p := by
  rw [List.getElem?_map] at hx
  cases e : as[i]? with
  | none => rw [e] at hx; cases hx
  | some a =>
    rw [e] at hx
    have hi := (List.getElem?_eq_some_iff.mp e).1
    rw [h.len] at hi
    exact ⟨a, ps[i], (Option.some.inj hx).symm, rfl, by simp, h.at_ i a _ e (by simp)⟩
theorem findIdx_at {α : Type} {q : α → Bool} {l : List α} {i : Nat} {p : α} (h : ∀ (j : Nat) r, j < i → l[j]? = some r → q r = false) (e : l[i]? = some p) (hq : q p = true) : l.findIdx? q = some i := by
  obtain ⟨hi, e2⟩ := List.getElem?_eq_some_iff.mp e
  refine List.findIdx?_eq_some_iff_getElem.mpr ⟨hi, by rw [e2]; exact hq, fun j hj => ?_⟩
  have := h j (l[j]'(by omega)) hj (by simp)
  rw [this]; simp
theorem findIdx_no {α : Type} {q : α → Bool} {l : List α} (h : ∀ (j : Nat) r, l[j]? = some r → q r = false) : l.findIdx? q = none := by
  rw [List.findIdx?_eq_none_iff]
  intro x hx
  obtain ⟨j, hj⟩ := List.mem_iff_getElem?.mp hx
  exact h j x hj
section
variable {K : PySem.W.Frag} {mg : Str → Option Value} {A : Ad} {vs : List V} {H : Hp} {Q : VK} {E E' : XK} {σ : L2.St} {ta tb te : TE} {D : Ends} {n : Int} {x : TL} {t : Ct.Tm}
theorem ev_sum {ns : List Int} (h : EvL ta σ H (ns.map V.int)) : Ev (tCB (rSum K) (tCons ta tNil)) σ H (.int ns.sum) := fun H1 e Q q =>
  h H1 e _ fun p H2 _ e2 hp => ⟨p, ns, rfl, sq_of hp, q H2 e2⟩
theorem ev_any {bs : List Bool} (h : EvL ta σ H (bs.map V.bl)) : Ev (tCB (rAny K) (tCons ta tNil)) σ H (.bl (bs.any id)) := fun H1 e Q q =>
  h H1 e _ fun p H2 _ e2 hp => ⟨p, bs, rfl, sq_of hp, q H2 e2⟩
/-- xs.extend(ys), ys new -/
theorem s_ext {l : Addr} {xs ys : List V} (hl : H l = some (.lst xs)) (ha : Ev ta σ H (.ref l)) (h : EvL te σ H ys) (hz : xs.length + ys.length ≤ 10000100) (k : ∀ p H1, H p = none → Ex H H1 → H1 p = some (.lst ys) → D.nx σ (upd H1 l (.lst (xs ++ ys)))) :
    tDrop (tBM K "list" rExtend ta (tCons te tNil)) D σ H := ha H (Ex.refl H) _ fun H1 e1 =>
  ⟨Or.inl ⟨rfl, xs, sq_of (e1 l _ hl)⟩, h H1 e1 _ fun p H2 hp e2 h2 => ⟨l, p, xs, ys, rfl, rfl, e2 l _ (e1 l _ hl), h2, Nat.le_trans hz (by decide), k p H2 (fresh_back e1 hp) (e1.trans e2) h2⟩⟩
/-! ### the callees as evaluations -/
theorem el_get {sp : Sp} {E : XK} {t : TA} {vs zs : List V} (ha : EvA t σ H vs) (h : ∀ H1, Same H H1 → ∀ Q : VK, (∀ p H2, H1 p = none → Same H1 H2 → H2 p = some (.lst zs) → Q (.ref p) H2) → ∀ E : XK, sp vs H1 Q E) : EvL (tCall sp [] E t) σ H zs := el_call ha (by
  rw [List.append_nil]; exact h)
theorem c_points_of (h : Ev ta σ H (.ref x.t)) (hx : TmAt A H x t) : Ev (tCall (sp_points_of K A) [] E' (tCons ta tNil)) σ H (.int t.points) := ev_get (ea_cons h ea_nil) fun H1 e Q q E => ⟨x, t, rfl, hx.same e, q⟩
theorem c_many_on_court (h : Ev ta σ H (.ref x.t)) (hx : TmAt A H x t) : Ev (tCall (sp_many_on_court K A) [] E' (tCons ta tNil)) σ H (.int t.many) := ev_get (ea_cons h ea_nil) fun H1 e Q q E => ⟨x, t, rfl, hx.same e, q⟩
theorem c_is_short (h : Ev ta σ H (.ref x.t)) (hx : TmAt A H x t) : Ev (tCall (sp_is_short K A) [] E' (tCons ta tNil)) σ H (.bl t.short) := ev_get (ea_cons h ea_nil) fun H1 e Q q E => ⟨x, t, rfl, hx.same e, q⟩
theorem c_written {a : Addr} {p : Ct.Pl} (h : Ev ta σ H (.ref a)) (hp : PlAt A H a p) : EvL (tCall (sp_written K A) [] E' (tCons ta tNil)) σ H (p.written.map V.int) := el_get (ea_cons h ea_nil) fun H1 e Q q E => ⟨a, p, rfl, hp.same e, fun H' r s nr hr => q r H' nr s hr⟩
theorem c_are_players {l : Addr} {ns : List Int} (h : Ev ta σ H (.ref l)) (hl : SqL K H l (ns.map V.int)) : Ev (tCall (sp_are_players K A) [] E' (tCons ta tNil)) σ H (.bl (Ct.arePlayers ns)) := ev_get (ea_cons h ea_nil) fun H1 e Q q E => ⟨l, ns, rfl, ex_l e hl, q⟩
/-! ### teams -/
theorem pure_points_of (T : Txt K mg A) (h : sp_points_of K A vs H Q E) : t_points_of K A { nx := fun _ H' => Q .non H', rt := Q } (start ["team", "player"] vs) H := by
  obtain ⟨x, t, rfl, hx, q⟩ := h
  have lc : EvL (tLc (iList K (tFld K (tVar 0) "players")) (gName 1) tYes (tFld K (tVar 1) "points") [1]) (start ["team", "player"] [.ref x.t]) H ((t.players.map fun p => p.points).map V.int) := by
    have e := el_lcL (K := K) (tl := tFld K (tVar 0) "players") (te := tFld K (tVar 1) "points") (t := tYes) (σ := start ["team", "player"] [.ref x.t]) (H := H) (j := 1) (vs := [1]) (xs := x.ps.map V.ref) (fun i => (t.players[i]?.map fun _ => true).getD false) (fun i => (t.players[i]?.map fun p => V.int p.points).getD .non)
      (ev_fld (ev_var rfl) (fT_players T hx.hd)) (sq_of hx.l) (by rw [List.length_map, hx.p.len]; have := hx.le; omega) (fun _ => rfl) (fun i y H1 s hy => ?_) (fun i y H1 s hy hc => ?_)
    · rw [List.length_map, hx.p.len, given_all t.players (fun _ => true) (fun p => V.int p.points), filter_true] at e
      rw [List.map_map]
      exact e
    · obtain ⟨a, p, rfl, _, hp, _⟩ := hx.p.get hy
      rw [hp]; exact fun H2 _ Q q => q H2 (Ex.refl H2)
    · obtain ⟨a, p, rfl, _, hp, pa⟩ := hx.p.get hy
      rw [hp]; exact ev_fld (ev_var rfl) (fP_points T (pa.same s))
  exact s_ret (ev_sum lc) q
theorem pure_many_on_court (T : Txt K mg A) (h : sp_many_on_court K A vs H Q E) : t_many_on_court K A { nx := fun _ H' => Q .non H', rt := Q } (start ["team", "player"] vs) H := by
  obtain ⟨x, t, rfl, hx, q⟩ := h
  have lc : EvL (tLc (iList K (tFld K (tVar 0) "players")) (gName 1) (tB (tFld K (tVar 1) "on_court")) (tVar 1) [1]) (start ["team", "player"] [.ref x.t]) H (given t.players.length (fun i => (t.players[i]?.map fun p => p.onCourt).getD false) (fun i => (x.ps[i]?.map V.ref).getD .non)) := by
    have e := el_lcL (K := K) (tl := tFld K (tVar 0) "players") (te := tVar 1) (t := tB (tFld K (tVar 1) "on_court")) (σ := start ["team", "player"] [.ref x.t]) (H := H) (j := 1) (vs := [1]) (xs := x.ps.map V.ref) (fun i => (t.players[i]?.map fun p => p.onCourt).getD false) (fun i => (x.ps[i]?.map V.ref).getD .non)
      (ev_fld (ev_var rfl) (fT_players T hx.hd)) (sq_of hx.l) (by rw [List.length_map, hx.p.len]; have := hx.le; omega) (fun _ => rfl) (fun i y H1 s hy => ?_) (fun i y H1 s hy hc => ?_)
    · rw [List.length_map, hx.p.len] at e
      exact e
    · obtain ⟨a, p, rfl, _, hp, pa⟩ := hx.p.get hy
      rw [hp]; exact et_B (ev_fld (ev_var rfl) (fP_on_court T (pa.same s)))
    · obtain ⟨a, p, rfl, ha, hp, pa⟩ := hx.p.get hy
      rw [ha]; exact ev_var rfl
  have el : (given t.players.length (fun i => (t.players[i]?.map fun p => p.onCourt).getD false) (fun i => (x.ps[i]?.map V.ref).getD .non)).length = (t.players.filter fun p => p.onCourt).length := by
    have := given_all t.players (fun p => p.onCourt) (fun _ => V.non)
    have h2 := congrArg List.length this
    unfold given at h2 ⊢
    rw [List.length_map, List.length_map] at h2
    rw [List.length_map]
    exact h2
  refine s_ret (ev_lenN lc) fun H1 s => ?_
  rw [el]
  exact q _ s
theorem pure_is_short (T : Txt K mg A) (h : sp_is_short K A vs H Q E) : t_is_short K A { nx := fun _ H' => Q .non H', rt := Q } (start ["team", "player"] vs) H := by
  obtain ⟨x, t, rfl, hx, q⟩ := h
  have lc : EvL (tLc (iList K (tFld K (tVar 0) "players")) (gName 1) tYes (tCall (sp_is_on_bench K A) [] E0 (tCons (tVar 1) tNil)) [1]) (start ["team", "player"] [.ref x.t]) H ((t.players.map fun p => p.isBench).map V.bl) := by
    have e := el_lcL (K := K) (tl := tFld K (tVar 0) "players") (te := tCall (sp_is_on_bench K A) [] E0 (tCons (tVar 1) tNil)) (t := tYes) (σ := start ["team", "player"] [.ref x.t]) (H := H) (j := 1) (vs := [1]) (xs := x.ps.map V.ref) (fun i => (t.players[i]?.map fun _ => true).getD false) (fun i => (t.players[i]?.map fun p => V.bl p.isBench).getD .non)
      (ev_fld (ev_var rfl) (fT_players T hx.hd)) (sq_of hx.l) (by rw [List.length_map, hx.p.len]; have := hx.le; omega) (fun _ => rfl) (fun i y H1 s hy => ?_) (fun i y H1 s hy hc => ?_)
    · rw [List.length_map, hx.p.len, given_all t.players (fun _ => true) (fun p => V.bl p.isBench), filter_true] at e
      rw [List.map_map]
      exact e
    · obtain ⟨a, p, rfl, _, hp, _⟩ := hx.p.get hy
      rw [hp]; exact fun H2 _ Q q => q H2 (Ex.refl H2)
    · obtain ⟨a, p, rfl, _, hp, pa⟩ := hx.p.get hy
      rw [hp]; exact c_is_on_bench (ev_var rfl) (pa.same s)
  have ea : ((t.players.map fun p => p.isBench).any id) = t.players.any fun p => p.isBench := by
    rw [List.any_map]; rfl
  refine s_ret (ev_andV (ev_lt (c_many_on_court (ev_var rfl) hx) ev_c) fun _ => ev_any lc) fun H1 s => ?_
  rw [ea]
  exact q _ s
/-- the first one that a test finds -/
theorem find_loop (T : Txt K mg A) (hx : TmAt A H x t) {test : TT} {q : Ct.Pl → Bool} (ht : ∀ (i : Nat) a p H1, Same H H1 → x.ps[i]? = some a → t.players[i]? = some p → PlAt A H1 a p → EvT test [some (.ref x.t), some (.int n), some (.ref a)] H1 (q p))
    (h0 : t.players.findIdx? q = none → Val H .non Q) (h1 : ∀ i a p, t.players.findIdx? q = some i → x.ps[i]? = some a → t.players[i]? = some p → Val H (.ref a) Q) :
    tSeq (tFor (iList K (tFld K (tVar 0) "players")) (gName 2) (tIfS test (tRet (tVar 2)) tNext)) (tRet (tC .non)) { nx := fun _ H' => Q .non H', rt := Q } (start ["team", "number", "player"] [.ref x.t, .int n]) H := by
  refine s_forL (K := K) (a := x.l) (xs := x.ps.map V.ref) (ev_fld (ev_var rfl) (fT_players T hx.hd)) (sq_of hx.l) (fun i σ' H' => (∃ v, σ' = [some (.ref x.t), some (.int n), v]) ∧ Same H H' ∧ ∀ (j : Nat) r, j < i → t.players[j]? = some r → q r = false)
    (fun H1 e => ⟨⟨none, rfl⟩, e, fun j r hj => absurd hj (Nat.not_lt_zero _)⟩) (fun i σ' H' _ p => sq_of (p.2.1 _ _ hx.l)) (fun i y σ' H' hy p => ?_) (fun σ' H' p => ?_)
  · obtain ⟨⟨v, rfl⟩, e, no⟩ := p
    obtain ⟨a, r, rfl, ha, hr, pa⟩ := hx.p.get hy
    refine s_if (ht i a r H' e ha hr (pa.same e)) (fun b H2 e2 => ?_) (fun b H2 e2 => ?_)
    · refine s_ret (ev_var rfl) fun H3 e3 => ?_
      exact h1 i a r (findIdx_at no hr b) ha hr _ ((e.trans e2).trans e3)
    · refine ⟨⟨some (.ref a), rfl⟩, e.trans e2, fun j z hj hz => ?_⟩
      by_cases c : j = i
      · subst c; rw [hr] at hz; cases hz; exact b
      · exact no j z (by omega) hz
  · obtain ⟨⟨v, rfl⟩, e, no⟩ := p
    refine s_ret (σ := [some (.ref x.t), some (.int n), v]) (D := { nx := fun _ H' => Q .non H', rt := Q }) ev_c fun H2 e2 => ?_
    refine h0 (findIdx_no fun j r hr => ?_) _ (e.trans e2)
    have hj := (List.getElem?_eq_some_iff.mp hr).1
    exact no j r (by rw [List.length_map, hx.p.len]; exact hj) hr
theorem pure_on_court (T : Txt K mg A) (h : sp_on_court K A vs H Q E) : t_on_court K A { nx := fun _ H' => Q .non H', rt := Q } (start ["team", "number", "player"] vs) H := by
  obtain ⟨x, t, n, rfl, hx, h0, h1⟩ := h
  exact find_loop T hx (fun i a p H1 e ha hp pa => et_and (et_test (ev_eq (ev_fld (ev_var rfl) (fP_number T pa)) (ev_var rfl))) fun _ => et_B (ev_fld (ev_var rfl) (fP_on_court T pa))) h0 h1
theorem pure_on_bench (T : Txt K mg A) (h : sp_on_bench K A vs H Q E) : t_on_bench K A { nx := fun _ H' => Q .non H', rt := Q } (start ["team", "number", "player"] vs) H := by
  obtain ⟨x, t, n, rfl, hx, h0, h1⟩ := h
  exact find_loop T hx (fun i a p H1 e ha hp pa => et_and (et_test (ev_eq (ev_fld (ev_var rfl) (fP_number T pa)) (ev_var rfl))) fun _ => et_B (c_is_on_bench (ev_var rfl) pa)) h0 h1
end
end CtW
/-! Promise gives reading: a sheet, a roster, what is made. -/
namespace CtW
open PySem PySem.Spec PyProof.Rows L2 Evl
theorem cut_to {α : Type} {xs : List α} {g : α → V} {i : Nat} (h : i ≤ xs.length) : cutV (xs.map g) none (some (i : Int)) = (xs.take i).map g := by
  unfold cutV
  rw [HT.sIx_none, HT.sIx_nat, List.drop_zero, Nat.sub_zero, List.length_map, Nat.min_eq_left h, List.map_take]
theorem cut_mid {α : Type} {xs : List α} {g : α → V} {i j : Nat} (h : i ≤ xs.length) (h2 : j ≤ xs.length) : cutV (xs.map g) (some (i : Int)) (some (j : Int)) = ((xs.drop i).take (j - i)).map g := by
  unfold cutV
  rw [HT.sIx_nat, HT.sIx_nat, List.length_map, Nat.min_eq_left h, Nat.min_eq_left h2, List.map_take, List.map_drop]
theorem in_ints {n : Int} : ∀ xs : List Int, inV (.int n) (xs.map V.int) = xs.contains n
  | [] => rfl
  | x :: r => by
    have ih := in_ints (n := n) r
    unfold inV at ih ⊢
    rw [List.map_cons, List.any_cons, ih, List.contains_cons]
    show ((x == n) || _) = ((n == x) || _)
    congr 1
    rw [Bool.eq_iff_iff]; simp; exact eq_comm
theorem flat_ints : ∀ xs : List Int, (xs.map V.int).all flatV = true
  | [] => rfl
  | x :: r => by rw [List.map_cons, List.all_cons, flat_ints r]; rfl
theorem good_append : ∀ (a b pre : List Int), Ct.goodFrom pre (a ++ b) = (Ct.goodFrom pre a && Ct.goodFrom (pre ++ a) b)
  | [], b, pre => by simp [Ct.goodFrom]
  | x :: a, b, pre => by
    rw [List.cons_append, Ct.goodFrom, Ct.goodFrom, good_append a b, List.append_assoc]
    simp only [Bool.and_assoc, List.singleton_append]
theorem take_one {α : Type} {l : List α} {i : Nat} {x : α} (h : l[i]? = some x) : l.take (i + 1) = l.take i ++ [x] := by
  obtain ⟨hi, e⟩ := List.getElem?_eq_some_iff.mp h
  rw [← e]; exact (List.take_append_getElem hi).symm
section
variable {K : PySem.W.Frag} {mg : Str → Option Value} {A : Ad} {vs : List V} {H : Hp} {Q : VK} {E E' : XK} {σ : L2.St} {ta tb te : TE} {D : Ends} {n : Int} {x : TL} {t : Ct.Tm}
theorem pure_sheet_of (T : Txt K mg A) (h : sp_sheet_of K A vs H Q E) : t_sheet_of K A { nx := fun _ H' => Q .non H', rt := Q } (start ["team", "found", "player"] vs) H := by
  obtain ⟨x, t, rfl, hx, q⟩ := h
  refine s_asgL (el_lst (ea_cons (c_points_of (ev_var rfl) hx) (ea_cons (ev_fld (ev_var rfl) (fT_fouls T hx.hd)) (ea_cons (ev_fld (ev_var rfl) (fT_timeouts T hx.hd)) ea_nil))) (by simp)) fun r H1 nr e1 hr => ?_
  have hx1 := hx.same e1
  refine s_forL (K := K) (a := x.l) (xs := x.ps.map V.ref) (ev_fld (ev_var rfl) (fT_players T hx1.hd)) (sq_of hx1.l)
    (fun i σ' H' => (∃ v, σ' = [some (.ref x.t), some (.ref r), v]) ∧ Same H H' ∧ H' r = some (.lst (([t.points, t.fouls, t.timeouts] ++ (t.players.take i).flatMap fun p => p.written).map V.int)))
    (fun H2 e2 => ⟨⟨none, rfl⟩, e1.trans e2, e2 _ _ hr⟩) (fun i σ' H' _ p => sq_of (p.2.1 _ _ hx.l)) (fun i y σ' H' hy p => ?_) (fun σ' H' p => ?_)
  · obtain ⟨⟨v, rfl⟩, e, hr'⟩ := p
    obtain ⟨a, p, rfl, ha, hp, pa⟩ := hx.p.get hy
    have hi : i < 12 := by have := (List.getElem?_eq_some_iff.mp hp).1; have := hx.le; omega
    have len : ∀ l : List Ct.Pl, (l.flatMap fun p => p.written).length = 7 * l.length := by
      intro l
      induction l with
      | nil => rfl
      | cons b l ih => rw [List.flatMap_cons, List.length_append, ih, List.length_cons]; show 7 + 7 * l.length = _; omega
    refine s_ext hr' (ev_var rfl) (c_written (ev_var rfl) (pa.same e)) ?_ fun q1 H2 n2 e2 h2 => ?_
    · rw [List.length_map, List.length_append, len, List.length_take]
      show 3 + 7 * min i t.players.length + 7 ≤ 10000100
      omega
    · refine ⟨⟨some (.ref a), rfl⟩, Ex.mut (e.trans e2) nr, ?_⟩
      rw [upd_same, take_one hp, List.flatMap_append, ← List.append_assoc, List.map_append (l₂ := [p].flatMap _)]
      simp
  · obtain ⟨⟨v, rfl⟩, e, hr'⟩ := p
    rw [List.length_map, hx.p.len, List.take_length] at hr'
    refine s_ret (σ := [some (.ref x.t), some (.ref r), v]) (D := { nx := fun _ H' => Q .non H', rt := Q }) (ev_var rfl) fun H2 e2 => ?_
    exact q H2 r (e.trans e2) nr (e2 _ _ hr')
theorem pure_are_players (T : Txt K mg A) (h : sp_are_players K A vs H Q E) : t_are_players K A { nx := fun _ H' => Q .non H', rt := Q } (start ["numbers", "at", "number"] vs) H := by
  obtain ⟨l, ns, rfl, hl, q⟩ := h
  refine sq_if (et_not (et_test (ev_within ev_c (ev_len (ev_var rfl) hl) ev_c))) (fun b H1 e1 => ?_) (fun b H1 e1 => ?_)
  · refine s_ret ev_c fun H2 e2 => ?_
    have b := nt b
    have : Ct.arePlayers ns = false := by
      unfold Ct.arePlayers
      rw [List.length_map] at b
      have : (decide (5 ≤ ns.length) && decide (ns.length ≤ 12)) = false := by
        rw [← b]; congr 1 <;> (rw [decide_eq_decide]; omega)
      rw [this]; rfl
    rw [this] at q; exact q _ (e1.trans e2)
  · have b := nf b
    have hlen : Ct.arePlayers ns = Ct.goodFrom [] ns := by
      unfold Ct.arePlayers
      rw [List.length_map] at b
      have : (decide (5 ≤ ns.length) && decide (ns.length ≤ 12)) = true := by
        rw [← b]; congr 1 <;> (rw [decide_eq_decide]; omega)
      rw [this]; rfl
    rw [hlen] at q
    refine ⟨_, rfl, l, ns.map V.int, rfl, ex_l e1 hl, for_it (walk_enum (K := K) (a := l) (xs := ns.map V.int)) (fun i σ' H' => (∃ v w, σ' = [some (.ref l), v, w]) ∧ Same H H' ∧ Ct.goodFrom [] (ns.take i) = true)
      ⟨⟨none, none, rfl⟩, e1, rfl⟩ (fun i σ' H' _ p => ex_l p.2.1 hl) (fun i y σ' H' H2 hi p hy => ?_) (fun σ' H' p => ?_)⟩
    · obtain ⟨⟨v, w, rfl⟩, e, gd⟩ := p
      obtain ⟨tp, a, c, rfl, ntp, rfl, h1, h2⟩ := hy
      cases h1
      have h2 : (ns.map V.int)[i]? = some c := h2
      rw [List.getElem?_map] at h2
      cases hn : ns[i]? with
      | none => rw [hn] at h2; cases h2
      | some n =>
        rw [hn] at h2
        cases h2
        have e3 : Same H (upd H' tp (.tup [.int (i : Nat), .int n])) := e.trans (Ex.new ntp)
        refine ⟨tp, _, rfl, st_of upd_same, rfl, _, _, rfl, _, _, rfl, rfl, ?_⟩
        have hi' : i ≤ ns.length := by rw [List.length_map] at hi; omega
        have sl : EvL (tSl (rSlL K) (tVar 0) tNoPart (tPart (tVar 1))) [some (.ref l), some (.int (i : Nat)), some (.int n)] (upd H' tp (.tup [.int (i : Nat), .int n])) ((ns.take i).map V.int) := by
          rw [← cut_to (g := V.int) hi']
          exact el_sl (ev_var rfl) eo_none (eo_some (ev_var rfl)) (ex_l e3 hl)
        have step : Ct.goodFrom [] (ns.take (i + 1)) = (Ct.isNumber n && !(ns.take i).contains n) := by
          rw [take_one hn, good_append, gd]
          simp [Ct.goodFrom]
        refine s_if (σ := [some (.ref l), some (.int (i : Nat)), some (.int n)]) (et_or (et_not (et_B (c_is_number (ev_var rfl)))) fun _ => et_test (ev_opL (ev_var rfl) sl fun p H3 h3 _ => rv_isL (sq_of h3) rfl (flat_ints _))) (fun b H3 e4 => ?_) (fun b H3 e4 => ?_)
        · refine s_ret ev_c fun H5 e5 => ?_
          have : Ct.goodFrom [] ns = false := by
            rw [← List.take_append_drop (i + 1) ns, good_append, step]
            rw [in_ints] at b
            cases hc : Ct.isNumber n
            · rfl
            · rw [hc] at b
              simp at b
              simp [b]
          rw [this] at q
          exact q _ ((e3.trans e4).trans e5)
        · refine ⟨⟨_, _, rfl⟩, e3.trans e4, ?_⟩
          rw [step]
          rw [in_ints] at b
          simp at b
          simp [b.1, b.2]
    · obtain ⟨⟨v, w, rfl⟩, e, gd⟩ := p
      rw [List.length_map, List.take_length] at gd
      rw [gd] at q
      refine s_ret (σ := [some (.ref l), v, w]) (D := { nx := fun _ H' => Q .non H', rt := Q }) ev_c fun H2 e2 => ?_
      exact q _ (e.trans e2)
theorem pure_init_Clock (T : Txt K mg A) (h : sp_init_Clock K A vs H Q E) : t_init_Clock K A { nx := fun _ H' => Q .non H', rt := Q } (start ["self"] vs) H := by
  obtain ⟨a, dx, rfl, e, q⟩ := h
  refine s_fld ev_c (ev_var rfl) e T.clC T.aC_period (by decide) fun H1 s1 => ?_
  refine s_fld ev_c (ev_var rfl) upd_same T.clC T.aC_left (by show 1 < 1000; decide) fun H2 s2 => ?_
  refine s_fld ev_c (ev_var rfl) upd_same T.clC T.aC_shot (by show 2 < 1000; decide) fun H3 s3 => ?_
  refine q _ ⟨dx, upd_same⟩ ?_
  exact ((Fr.of s1).trans fr_upd).trans (((Fr.of s2).trans fr_upd).trans ((Fr.of s3).trans fr_upd))
theorem pure_init_Throws (T : Txt K mg A) (h : sp_init_Throws K A vs H Q E) : t_init_Throws K A { nx := fun _ H' => Q .non H', rt := Q } (start ["self"] vs) H := by
  obtain ⟨a, dx, rfl, e, q⟩ := h
  refine s_fld ev_c (ev_var rfl) e T.clH T.aH_many (by decide) fun H1 s1 => ?_
  refine s_fld ev_c (ev_var rfl) upd_same T.clH T.aH_side (by show 1 < 1000; decide) fun H2 s2 => ?_
  refine s_fld ev_c (ev_var rfl) upd_same T.clH T.aH_behind (by show 2 < 1000; decide) fun H3 s3 => ?_
  refine q _ ⟨dx, upd_same⟩ ?_
  exact ((Fr.of s1).trans fr_upd).trans (((Fr.of s2).trans fr_upd).trans ((Fr.of s3).trans fr_upd))
/-- a new instance is made -/
theorem s_made {C : Addr} {sp : Sp} {E : XK} {t : TA} {vs : List V} (ha : EvA t σ H vs) (h : ∀ H1 a dx, Same H H1 → H1 a = none → Same H1 (upd (upd H1 dx (.own a)) a (.ins C dx [])) → sp (.ref a :: vs) (upd (upd H1 dx (.own a)) a (.ins C dx [])) (fun v H2 => v = .non ∧ Q (.ref a) H2) E) : tMake C sp [] E t σ H Q :=
  ha H (Ex.refl H) _ fun H1 e1 a dx na nd ne => by
    rw [List.append_nil]
    refine h H1 a dx e1 na fun b o z => ?_
    rw [upd_ne (ne_of_none z na), upd_ne (ne_of_none z nd)]; exact z
theorem made_same {H1 H2 : Hp} {a dx C : Addr} (na : H1 a = none) (s : Same H1 (upd (upd H1 dx (.own a)) a (.ins C dx []))) (f : Fr [a] (upd (upd H1 dx (.own a)) a (.ins C dx [])) H2) : Same H1 H2 := fun b o z =>
  f b o (s b o z) (by simpa using ne_of_none z na)
end
end CtW
/-! Promise gives reading: a team is made, a game is made. -/
namespace CtW
open PySem PySem.Spec PyProof.Rows L2 Evl
theorem fresh_len : ∀ (k : Nat) (ns : List Int), (Ct.freshFrom k ns).length = ns.length
  | _, [] => rfl
  | k, n :: r => by rw [Ct.freshFrom, List.length_cons, List.length_cons, fresh_len]
theorem fresh_get : ∀ (ns : List Int) (k i : Nat) (n : Int), ns[i]? = some n → (Ct.freshFrom k ns)[i]? = some (Ct.Pl.fresh n (decide (k + i < 5)))
  | [], _, _, _, h => by simp at h
  | a :: r, k, 0, n, h => by
    have e : a = n := by simpa using h
    subst e
    rfl
  | a :: r, k, i + 1, n, h => by
    have h' : r[i]? = some n := by simpa using h
    have ih := fresh_get r (k + 1) i n h'
    have e : k + (i + 1) = k + 1 + i := by omega
    rw [Ct.freshFrom, e, ← ih]
    rfl
section
variable {K : PySem.W.Frag} {mg : Str → Option Value} {A : Ad} {vs : List V} {H : Hp} {Q : VK} {E E' : XK}
structure Made (A : Ad) (H : Hp) (D : Addr) (ns : List Int) (i : Nat) (H' : Hp) (as : List Addr) : Prop where
  len : as.length = i
  lst : H' D = some (.lst (as.map V.ref))
  new : ∀ b ∈ as, H b = none ∧ b ≠ D
  nd : as.Nodup
  ps : PsAt A H' as ((Ct.freshFrom 0 ns).take i)
theorem pure_init_Team (T : Txt K mg A) (h : sp_init_Team K A vs H Q E) : t_init_Team K A { nx := fun _ H' => Q .non H', rt := Q } (start ["self", "numbers", "at", "number"] vs) H := by
  obtain ⟨a, dx, l, ns, rfl, e0, hl, hle, q⟩ := h
  refine ⟨_, rfl, l, ns.map V.int, rfl, hl, fun D nD => lc_it (walk_enum (K := K) (a := l) (xs := ns.map V.int)) (fun i H' => Same H H' ∧ ∃ as, Made A H D ns i H' as) ⟨Ex.new nD, [], ⟨rfl, upd_same, fun b hb => (by cases hb), List.nodup_nil, ⟨rfl, fun i a p ha => (by cases ha)⟩⟩⟩
    (fun i H' _ p => ex_l p.1 hl) (fun i y H' H2 hi p hy => ?_) (fun H' p => ?_)⟩
  · obtain ⟨e, as, M⟩ := p
    obtain ⟨tp, u, c, rfl, ntp, rfl, h1, h2⟩ := hy
    cases h1
    have h2 : (ns.map V.int)[i]? = some c := h2
    rw [List.getElem?_map] at h2
    cases hn : ns[i]? with
    | none => rw [hn] at h2; cases h2
    | some n =>
      rw [hn] at h2
      cases h2
      have hi' : i < ns.length := (List.getElem?_eq_some_iff.mp hn).1
      refine ⟨tp, _, rfl, st_of upd_same, rfl, _, _, rfl, _, _, rfl, rfl, rfl, ?_⟩
      have et : Same H' (upd H' tp (.tup [.int (i : Nat), .int n])) := Ex.new ntp
      show tMake A.cP (sp_init_Player K A) [] E0 (tCons (tVar 3) (tCons (tOp rLtI (tVar 2) (tC (.int 5))) tNil)) [some (.ref a), some (.ref l), some (.int (i : Nat)), some (.int n)] (upd H' tp (.tup [.int (i : Nat), .int n]))
        fun y H4 => ∃ acc, H4 D = some (.lst acc) ∧ acc.length < sizeLine ∧ (Same H (upd H4 D (.lst (acc ++ [y]))) ∧ ∃ as, Made A H D ns (i + 1) (upd H4 D (.lst (acc ++ [y]))) as)
      refine s_made (σ := [some (.ref a), some (.ref l), some (.int (i : Nat)), some (.int n)]) (vs := [.int n, .bl (decide ((i : Int) < 5))]) (ea_cons (ev_var rfl) (ea_cons (ev_lt (ev_var rfl) ev_c) ea_nil)) fun H1 pa dxp s1 na s => ?_
      refine ⟨pa, dxp, n, _, rfl, upd_same, fun H5 h5 f5 => ⟨rfl, as.map V.ref, ?_, ?_, ?_⟩⟩
      · exact made_same na s f5 _ _ (s1 _ _ (et _ _ M.lst))
      · rw [List.length_map, M.len]; exact Nat.lt_of_lt_of_le (show i < 13 by omega) (by decide)
      · have e1 : Same H' H5 := et.trans (s1.trans (made_same na s f5))
        have pD : pa ≠ D := fun z => by
          have := s1 _ _ (et _ _ M.lst)
          rw [← z, na] at this; cases this
        have pas : pa ∉ as := fun hm => by
          obtain ⟨j, hj⟩ := List.mem_iff_getElem?.mp hm
          have hj2 := (List.getElem?_eq_some_iff.mp hj).1
          rw [M.ps.len] at hj2
          obtain ⟨dz, z⟩ := M.ps.at_ j pa _ hj (List.getElem?_eq_getElem hj2)
          have := s1 _ _ (et _ _ z)
          rw [na] at this; cases this
        refine ⟨Ex.mut (e.trans e1) nD, as ++ [pa], ?_, ?_, ?_, ?_, ?_, ?_⟩
        · rw [List.length_append, M.len]; rfl
        · rw [upd_same, List.map_append]; rfl
        · intro b hb
          rcases List.mem_append.mp hb with hb | hb
          · exact M.new b hb
          · have : b = pa := by simpa using hb
            subst this
            exact ⟨fresh_back (e.trans (et.trans s1)) na, pD⟩
        · rw [List.nodup_append]
          refine ⟨M.nd, by simp, fun b hb c hc => ?_⟩
          have : c = pa := by simpa using hc
          subst this
          exact fun z => pas (z ▸ hb)
        · rw [List.length_append, M.ps.len, List.length_take, List.length_take, fresh_len]
          show min i ns.length + 1 = _
          omega
        · intro j b p hb hp
          have hp' : (Ct.freshFrom 0 ns)[j]? = some p := by
            rw [List.getElem?_take] at hp
            split at hp
            · exact hp
            · cases hp
          by_cases hj : j < as.length
          · rw [List.getElem?_append_left hj] at hb
            have hp2 : ((Ct.freshFrom 0 ns).take i)[j]? = some p := by
              rw [List.getElem?_take, if_pos (by rw [← M.len]; exact hj)]; exact hp'
            refine ((M.ps.at_ j b p hb hp2).same e1).fr fr_upd ?_
            have := (M.new b (List.mem_of_getElem? hb)).2
            simpa using this
          · rw [List.getElem?_append_right (by omega)] at hb
            have hj0 : j - as.length = 0 := by
              have := (List.getElem?_eq_some_iff.mp hb).1
              simp at this; omega
            rw [hj0] at hb
            have : pa = b := by simpa using hb
            subst this
            have ji : j = i := by have := M.len; omega
            subst ji
            have := fresh_get ns 0 j n hn
            rw [this] at hp'
            cases hp'
            have ed : decide (0 + j < 5) = decide ((j : Int) < 5) := by rw [decide_eq_decide]; omega
            rw [ed]
            exact h5.fr fr_upd (by simpa using pD)
  · obtain ⟨e, as, M⟩ := p
    rw [List.length_map] at M
    have eps : (Ct.freshFrom 0 ns).take ns.length = Ct.freshFrom 0 ns := by rw [← fresh_len 0 ns, List.take_length]
    have ps := M.ps
    rw [eps] at ps
    have aD : a ≠ D := fun z => by rw [← z, e0] at nD; cases nD
    have aas : a ∉ as := fun z => by have := (M.new a z).1; rw [e0] at this; cases this
    refine ⟨_, rfl, a, _, dx, _, rfl, e _ _ e0, T.clT, T.aT_players, (by decide), ?_⟩
    refine s_fld (σ := [some (.ref a), some (.ref l), none, none]) ev_c (ev_var rfl) upd_same T.clT T.aT_fouls (by show 1 < 1000; decide) fun H2 s2 => ?_
    refine s_fld (σ := [some (.ref a), some (.ref l), none, none]) ev_c (ev_var rfl) upd_same T.clT T.aT_timeouts (by show 2 < 1000; decide) fun H3 s3 => ?_
    have f : Fr [a] H' (upd H3 a (.ins A.cT dx (putF "timeouts" (.int 0) (putF "fouls" (.int 0) (putF "players" (.ref D) []))))) := fr_upd.trans (((Fr.of s2).trans fr_upd).trans ((Fr.of s3).trans fr_upd))
    refine q _ ⟨a, D, as⟩ rfl ⟨⟨dx, upd_same⟩, f _ _ M.lst (by simpa using fun z => aD z.symm), ps.fr f fun b hb => ?_, ?_⟩ ?_ ?_ ((Fr.of e).trans f)
    · intro z
      have : b = a := by simpa using z
      subst this; exact aas hb
    · show (Ct.freshFrom 0 ns).length ≤ 12
      rw [fresh_len]; exact hle
    · show (a :: D :: as).Nodup
      rw [List.nodup_cons, List.nodup_cons]
      refine ⟨?_, fun z => (M.new D z).2 rfl, M.nd⟩
      intro z
      rcases List.mem_cons.mp z with z | z
      · exact aD z
      · exact aas z
    · intro b hb
      have hb : b ∈ a :: D :: as := hb
      rcases List.mem_cons.mp hb with z | z
      · exact .inl z
      · rcases List.mem_cons.mp z with z | z
        · exact .inr (by rw [z]; exact nD)
        · exact .inr (M.new b z).1

theorem TmAt.tr {H : Hp} {x : TL} {t : Ct.Tm} (h : TmAt A H x t) : ∀ b ∈ x.own, H b ≠ none := by
  intro b hb
  have hb : b ∈ x.t :: x.l :: x.ps := hb
  rcases List.mem_cons.mp hb with rfl | hb
  · obtain ⟨dx, e⟩ := h.hd; rw [e]; simp
  · rcases List.mem_cons.mp hb with rfl | hb
    · rw [h.l]; simp
    · obtain ⟨j, hj⟩ := List.mem_iff_getElem?.mp hb
      have hj2 := (List.getElem?_eq_some_iff.mp hj).1
      rw [h.p.len] at hj2
      obtain ⟨dz, z⟩ := h.p.at_ j b _ hj (List.getElem?_eq_getElem hj2)
      rw [z]; simp
theorem made_up {H1 : Hp} {a dx C : Addr} (na : H1 a = none) (nd : H1 dx = none) : Same H1 (upd (upd H1 dx (.own a)) a (.ins C dx [])) := fun b o z => by
  rw [upd_ne (ne_of_none z na), upd_ne (ne_of_none z nd)]; exact z
theorem pure_init_Game (T : Txt K mg A) (h : sp_init_Game K A vs H Q E) : t_init_Game K A { nx := fun _ H' => Q .non H', rt := Q } (start ["self", "first", "second"] vs) H := by
  obtain ⟨a, dx, l, l2, xs, ys, rfl, e0, hl, hl2, hle, hle2, q⟩ := h
  -- the two teams
  refine ⟨_, rfl, fun a1 dx1 n1 nx1 _ => ⟨a1, dx1, l, xs, rfl, upd_same, ex_l (made_up n1 nx1) hl, hle, fun H2 x1 e1 t1 nd1 f1 fr1 => ⟨rfl, ?_⟩⟩⟩
  have s1 := Same.refl H
  have sm1 := made_up (C := A.cT) n1 nx1
  have S12 : Same H H2 := s1.trans (made_same n1 sm1 fr1)
  have u1 : ∀ b ∈ x1.own, H b = none := fun b hb => by
    rcases f1 b hb with z | z
    · rw [z]; exact s1.free n1
    · exact (s1.trans sm1).free z
  refine ⟨_, rfl, fun a2 dx2 n3 nx3 _ => ⟨a2, dx2, l2, ys, rfl, upd_same, ex_l (S12.trans (made_up n3 nx3)) hl2, hle2, fun H4 x2 e2 t2 nd2 f2 fr2 => ⟨rfl, ?_⟩⟩⟩
  have s3 := Same.refl H2
  have sm3 := made_up (C := A.cT) n3 nx3
  have S24 : Same H2 H4 := s3.trans (made_same n3 sm3 fr2)
  have u2 : ∀ b ∈ x2.own, H2 b = none := fun b hb => by
    rcases f2 b hb with z | z
    · rw [z]; exact s3.free n3
    · exact (s3.trans sm3).free z
  have tr1 := t1.tr
  have t1 := t1.same S24
  -- the list of them
  refine ⟨by show 2 ≤ sizeLine; decide, fun p np => ?_⟩
  have Sp : Same H4 (upd H4 p (.lst [.ref a1, .ref a2])) := Ex.new np
  refine ⟨_, rfl, a, _, dx, _, rfl, Sp _ _ (S24 _ _ (S12 _ _ e0)), T.clG, T.aG_teams, (by decide), ?_⟩
  generalize hG1 : upd (upd H4 p (.lst [.ref a1, .ref a2])) a (.ins A.cG dx (putF "teams" (.ref p) [])) = G1
  have F1 : Fr [a] H4 G1 := by rw [← hG1]; exact (Fr.of Sp).trans fr_upd
  have g1 : G1 a = some (.ins A.cG dx (putF "teams" (.ref p) [])) := by rw [← hG1]; exact upd_same
  have ap : a ≠ p := ne_of_none (S24 _ _ (S12 _ _ e0)) np
  have p1 : G1 p = some (.lst [.ref a1, .ref a2]) := by rw [← hG1, upd_ne (fun z => ap z.symm)]; exact upd_same
  -- the clock
  refine fun a3 dx3 n5 nx5 _ => ⟨a3, dx3, rfl, upd_same, fun H6 h6 f6 => ⟨rfl, _, rfl, a, _, dx, _, rfl, (made_same n5 (made_up n5 nx5) f6) _ _ g1, T.clG, T.aG_clock, (by show 1 < 1000; decide), ?_⟩⟩
  have s5 := Same.refl G1
  have sm5 := made_up (C := A.cC) n5 nx5
  have S6 : Same G1 H6 := s5.trans (made_same n5 sm5 f6)
  have n3' : G1 a3 = none := s5.free n5
  generalize hG2 : upd H6 a (.ins A.cG dx (putF "clock" (.ref a3) (putF "teams" (.ref p) []))) = G2
  have F2 : Fr [a] G1 G2 := by rw [← hG2]; exact (Fr.of S6).trans fr_upd
  have g2 : G2 a = some (.ins A.cG dx (putF "clock" (.ref a3) (putF "teams" (.ref p) []))) := by rw [← hG2]; exact upd_same
  have a3a : a3 ≠ a := fun z => by rw [z, g1] at n3'; cases n3'
  have c2 : ∃ dx, G2 a3 = some (.ins A.cC dx (cF (Ct.Gm.fresh [] []))) := by
    obtain ⟨d, z⟩ := h6
    exact ⟨d, by rw [← hG2, upd_ne a3a]; exact z⟩
  -- the throws
  refine fun a4 dx4 n7 nx7 _ => ⟨a4, dx4, rfl, upd_same, fun H8 h8 f8 => ⟨rfl, _, rfl, a, _, dx, _, rfl, (made_same n7 (made_up n7 nx7) f8) _ _ g2, T.clG, T.aG_throws, (by show 2 < 1000; decide), ?_⟩⟩
  have s7 := Same.refl G2
  have sm7 := made_up (C := A.cH) n7 nx7
  have S8 : Same G2 H8 := s7.trans (made_same n7 sm7 f8)
  have n4' : G2 a4 = none := s7.free n7
  generalize hG3 : upd H8 a (.ins A.cG dx (putF "throws" (.ref a4) (putF "clock" (.ref a3) (putF "teams" (.ref p) [])))) = G3
  have F3 : Fr [a] G2 G3 := by rw [← hG3]; exact (Fr.of S8).trans fr_upd
  have g3 : G3 a = some (.ins A.cG dx (putF "throws" (.ref a4) (putF "clock" (.ref a3) (putF "teams" (.ref p) [])))) := by rw [← hG3]; exact upd_same
  have a4a : a4 ≠ a := fun z => by rw [z, g2] at n4'; cases n4'
  have c3 : ∃ dx, G3 a4 = some (.ins A.cH dx (hF (Ct.Gm.fresh [] []))) := by
    obtain ⟨d, z⟩ := h8
    exact ⟨d, by rw [← hG3, upd_ne a4a]; exact z⟩
  -- the numbers
  suffices fin : ∀ N, Fr [a] G3 N → (∃ dx, N a = some (.ins A.cG dx (gF ⟨a, p, a3, a4, x1, x2⟩ (Ct.Gm.fresh xs ys)))) → Q .non N by
    refine s_fld (σ := [some (.ref a), some (.ref l), some (.ref l2)]) ev_c (ev_var rfl) g3 T.clG T.aG_ball (by show 3 < 1000; decide) fun B1 b1 => ?_
    refine s_fld (σ := [some (.ref a), some (.ref l), some (.ref l2)]) ev_c (ev_var rfl) upd_same T.clG T.aG_arrow (by show 4 < 1000; decide) fun B2 b2 => ?_
    refine s_fld (σ := [some (.ref a), some (.ref l), some (.ref l2)]) ev_c (ev_var rfl) upd_same T.clG T.aG_missed (by show 5 < 1000; decide) fun B3 b3 => ?_
    refine s_fld (σ := [some (.ref a), some (.ref l), some (.ref l2)]) ev_c (ev_var rfl) upd_same T.clG T.aG_ring (by show 6 < 1000; decide) fun B4 b4 => ?_
    refine s_fld (σ := [some (.ref a), some (.ref l), some (.ref l2)]) ev_c (ev_var rfl) upd_same T.clG T.aG_winner (by show 7 < 1000; decide) fun B5 b5 => ?_
    exact fin _ (((Fr.of b1).trans fr_upd).trans (((Fr.of b2).trans fr_upd).trans (((Fr.of b3).trans fr_upd).trans (((Fr.of b4).trans fr_upd).trans ((Fr.of b5).trans fr_upd))))) ⟨dx, upd_same⟩
  intro N F4 gN
  have aown1 : a ∉ x1.own := fun z => by have := u1 a z; rw [e0] at this; cases this
  have aown2 : a ∉ x2.own := fun z => by have := u2 a z; rw [S12 _ _ e0] at this; cases this
  have na : ∀ {b : Addr}, b ≠ a → b ∉ [a] := fun h z => h (by simpa using z)
  have own1 : ∀ b ∈ x1.own, b ∉ [a] := fun b hb => na fun e => aown1 (e ▸ hb)
  have own2 : ∀ b ∈ x2.own, b ∉ [a] := fun b hb => na fun e => aown2 (e ▸ hb)
  have d12 : ∀ b ∈ x1.own, ∀ c ∈ x2.own, b ≠ c := fun b hb c hc z => tr1 b hb (z ▸ u2 c hc)
  have trA : ∀ b ∈ x1.own ++ x2.own, H4 b ≠ none := fun b hb => by
    rcases List.mem_append.mp hb with hb | hb
    · exact t1.tr b hb
    · exact t2.tr b hb
  have ownA : ∀ b ∈ x1.own ++ x2.own, b ∉ [a] := fun b hb => by
    rcases List.mem_append.mp hb with hb | hb
    · exact own1 b hb
    · exact own2 b hb
  have up : ∀ {X Y : Hp} {b : Addr}, Fr [a] X Y → b ∉ [a] → X b ≠ none → Y b ≠ none := fun {X Y b} f n z => by
    obtain ⟨o, ho⟩ := Option.ne_none_iff_exists'.mp z
    rw [f _ _ ho n]; simp
  have pA : p ∉ x1.own ++ x2.own := fun z => trA p z np
  have a3A : a3 ∉ x1.own ++ x2.own := fun z => up F1 (ownA _ z) (trA _ z) n3'
  have a3p : p ≠ a3 := fun z => by rw [← z, p1] at n3'; cases n3'
  have a4A : a4 ∉ x1.own ++ x2.own := fun z => up (F1.trans F2) (ownA _ z) (trA _ z) n4'
  have a4p : p ≠ a4 := fun z => by rw [← z, F2 _ _ p1 (na fun e => ap e.symm)] at n4'; cases n4'
  have a43 : a3 ≠ a4 := fun z => by
    obtain ⟨d, c⟩ := c2
    rw [← z, c] at n4'; cases n4'
  have f2N : Fr [a] G2 N := F3.trans F4
  have f1N : Fr [a] G1 N := F2.trans f2N
  have f4N : Fr [a] H4 N := F1.trans f1N
  refine q N ⟨a, p, a3, a4, x1, x2⟩ rfl ?_ ?_ ?_
  · refine ⟨gN, ?_, ?_, ?_, ?_, ?_, ?_⟩
    · show N p = some (.lst [.ref x1.t, .ref x2.t])
      rw [e1, e2]; exact f1N _ _ p1 (na fun e => ap e.symm)
    · obtain ⟨d, c⟩ := c2
      exact ⟨d, f2N _ _ c (na a3a)⟩
    · obtain ⟨d, c⟩ := c3
      exact ⟨d, F4 _ _ c (na a4a)⟩
    · exact t1.fr f4N own1
    · exact t2.fr f4N own2
    · show (a :: p :: a3 :: a4 :: (x1.own ++ x2.own)).Nodup
      simp only [List.nodup_cons, List.mem_cons, not_or]
      refine ⟨⟨ap, fun e => a3a e.symm, fun e => a4a e.symm, fun z => ?_⟩, ⟨a3p, a4p, pA⟩, ⟨a43, a3A⟩, a4A, ?_⟩
      · exact ownA a z (by simp)
      · rw [List.nodup_append]
        exact ⟨nd1, nd2, d12⟩
  · have back : ∀ {b : Addr}, b ≠ a → G1 b = none → H b = none := fun {b} hb z => by
      cases q3 : H b with
      | none => rfl
      | some o =>
        have := F1 _ _ (S24 _ _ (S12 _ _ q3)) (na hb)
        rw [z] at this; cases this
    intro b hb
    have hb : b ∈ a :: p :: a3 :: a4 :: (x1.own ++ x2.own) := hb
    simp only [List.mem_cons, List.mem_append] at hb
    rcases hb with z | z | z | z | z | z
    · exact .inl z
    · rw [z]; exact .inr ((S12.trans S24).free np)
    · rw [z]; exact .inr (back a3a n3')
    · rw [z]; refine .inr (back a4a ?_)
      cases q3 : G1 a4 with
      | none => rfl
      | some o =>
        have := F2 _ _ q3 (na a4a)
        rw [n4'] at this; cases this
    · exact .inr (u1 b z)
    · exact .inr (S12.free (u2 b z))
  · exact (Fr.of (S12.trans S24)).trans f4N
end
end CtW
/-! Promise gives reading: the game. -/
namespace CtW
open PySem PySem.Spec PyProof.Rows L2 Evl
theorem Fr.own {a : Addr} {L : GL} {H H' : Hp} (f : Fr [a] H H') (h : a ∈ L.own) : Fr L.own H H' := f.mono fun b hb => by
  have : b = a := by simpa using hb
  rw [this]; exact h
theorem own_g {L : GL} : L.g ∈ L.own := by simp [GL.own]
theorem own_c {L : GL} : L.c ∈ L.own := by simp [GL.own]
theorem own_h {L : GL} : L.th ∈ L.own := by simp [GL.own]
theorem own_t {L : GL} (s : Int) : (L.team s).t ∈ L.own := GL.team_own (s := s) (by simp [TL.own])
theorem own_p {L : GL} {s : Int} {i : Nat} {a : Addr} (h : (L.team s).ps[i]? = some a) : a ∈ L.own := GL.team_own (s := s) (by
  have := List.mem_of_getElem? h
  simp [TL.own, this])
section
variable {K : PySem.W.Frag} {mg : Str → Option Value} {A : Ad} {vs : List V} {H : Hp} {Q : VK} {E E' : XK} {σ : L2.St} {ta tb tc td te : TE} {D : Ends} {n s k z : Int} {x : TL} {t : Ct.Tm} {L : GL} {m : Ct.Gm} {v : V} {o : Option Ct.Gm} {r : Bool}
theorem ev_team (T : Txt K mg A) (g : GameAt A H L m) (ha : Ev ta σ H (.ref L.g)) (hs : Ev tb σ H (.int s)) (h : Ct.isSide s = true) : Ev (tOp (rIxL K) (tFld K ta "teams") tb) σ H (.ref (L.team s).t) := by
  refine ev_op (ev_fld ha (fG_teams T g)) hs (rv_ixL (sq_of g.tl) ?_)
  rcases Ct.isSide_iff.mp h with rfl | rfl
  · exact atI_nat (j := 0) rfl
  · exact atI_nat (j := 1) rfl
theorem ev_clock (T : Txt K mg A) (g : GameAt A H L m) (ha : Ev ta σ H (.ref L.g)) : Ev (tFld K ta "clock") σ H (.ref L.c) := ev_fld ha (fG_clock T g)
theorem ev_throws (T : Txt K mg A) (g : GameAt A H L m) (ha : Ev ta σ H (.ref L.g)) : Ev (tFld K ta "throws") σ H (.ref L.th) := ev_fld ha (fG_throws T g)
/-! ### callees that change nothing -/
theorem c_is_played (hg : GmO A H L v o) (h : Ev ta σ H v) : Ev (tCall (sp_is_played K A) [] E' (tCons ta tNil)) σ H (.bl (Ct.isPlayed o)) := ev_get (ea_cons h ea_nil) fun H1 e Q q E => ⟨v, L, o, rfl, hg.same e, q⟩
theorem c_refusal (hg : GmO A H L v o) (h : Ev ta σ H v) (h2 : Ev tb σ H (.bl r)) : Ev (tCall (sp_refusal K A) [] E' (tCons ta (tCons tb tNil))) σ H (.int (Ct.refusal o r)) := ev_get (ea_cons h (ea_cons h2 ea_nil)) fun H1 e Q q E => ⟨v, L, o, r, rfl, hg.same e, q⟩
theorem c_refusalP (hg : GmO A H L v o) (h : Ev ta σ H v) (h2 : Ev tb σ H (.bl r)) : Ev (tCall (sp_refusal_in_play K A) [] E' (tCons ta (tCons tb tNil))) σ H (.int (Ct.refusalP o r)) := ev_get (ea_cons h (ea_cons h2 ea_nil)) fun H1 e Q q E => ⟨v, L, o, r, rfl, hg.same e, q⟩
theorem c_is_any_short (g : GameAt A H L m) (h : Ev ta σ H (.ref L.g)) : Ev (tCall (sp_is_any_short K A) [] E' (tCons ta tNil)) σ H (.bl m.anyShort) := ev_get (ea_cons h ea_nil) fun H1 e Q q E => ⟨L, m, rfl, g.same e, q⟩
theorem c_is_shot_strange (g : GameAt A H L m) (h : Ev ta σ H (.ref L.g)) (h2 : Ev tb σ H (.int s)) (h3 : Ev tc σ H (.int k)) (h4 : Ev td σ H (.int z)) : Ev (tCall (sp_is_shot_strange K A) [] E' (tCons ta (tCons tb (tCons tc (tCons td tNil))))) σ H (.bl (m.strange s k z)) :=
  ev_get (ea_cons h (ea_cons h2 (ea_cons h3 (ea_cons h4 ea_nil)))) fun H1 e Q q E => ⟨L, m, s, k, z, rfl, g.same e, q⟩
theorem c_time_to_stop (g : GameAt A H L m) (h : Ev ta σ H (.ref L.g)) : Ev (tCall (sp_time_to_stop K A) [] E' (tCons ta tNil)) σ H (.int m.toStop) := ev_get (ea_cons h ea_nil) fun H1 e Q q E => ⟨L, m, rfl, g.same e, q⟩
theorem c_shot_behind (g : GameAt A H L m) (h : Ev ta σ H (.ref L.g)) (h2 : Ev tb σ H (.int s)) : Ev (tCall (sp_shot_behind K A) [] E' (tCons ta (tCons tb tNil))) σ H (.int (m.shotBehind s)) := ev_get (ea_cons h (ea_cons h2 ea_nil)) fun H1 e Q q E => ⟨L, m, s, rfl, g.same e, q⟩
theorem c_stands (hg : GmO A H L v o) (h : Ev ta σ H v) : EvL (tCall (sp_stands K A) [] E' (tCons ta tNil)) σ H ((Ct.standsO o).map V.int) := el_get (ea_cons h ea_nil) fun H1 e Q q E => ⟨v, L, o, rfl, hg.same e, fun H' p s n hp => q p H' n s hp⟩
/-! ### callees that change the game -/
theorem k_give (g : GameAt A H L m) (h : Ev ta σ H (.ref L.g)) (h2 : Ev tb σ H (.int s)) (h3 : Ev tc σ H (.int k)) (q : ∀ H', GameAt A H' L (m.give s k) → Fr L.own H H' → D.nx σ H') : tDrop (tCall (sp_give_ball K A) [] E' (tCons ta (tCons tb (tCons tc tNil)))) D σ H :=
  s_call (ea_cons h (ea_cons h2 (ea_cons h3 ea_nil))) fun H1 e => ⟨L, m, s, k, rfl, g.same e, fun H' g' f => q H' g' ((Fr.of e).trans f)⟩
theorem k_miss (g : GameAt A H L m) (h : Ev ta σ H (.ref L.g)) (h2 : Ev tb σ H (.int s)) (h3 : Ev tc σ H (.int k)) (q : ∀ H', GameAt A H' L (m.missBy s k) → Fr L.own H H' → D.nx σ H') : tDrop (tCall (sp_miss_by K A) [] E' (tCons ta (tCons tb (tCons tc tNil)))) D σ H :=
  s_call (ea_cons h (ea_cons h2 (ea_cons h3 ea_nil))) fun H1 e => ⟨L, m, s, k, rfl, g.same e, fun H' g' f => q H' g' ((Fr.of e).trans f)⟩
theorem k_over (g : GameAt A H L m) (h : Ev ta σ H (.ref L.g)) (h2 : Ev tb σ H (.int s)) (q : ∀ H', GameAt A H' L (m.over s) → Fr L.own H H' → D.nx σ H') : tDrop (tCall (sp_end_game K A) [] E' (tCons ta (tCons tb tNil))) D σ H :=
  s_call (ea_cons h (ea_cons h2 ea_nil)) fun H1 e => ⟨L, m, s, rfl, g.same e, fun H' g' f => q H' g' ((Fr.of e).trans f)⟩
theorem k_turn (g : GameAt A H L m) (h : Ev ta σ H (.ref L.g)) (q : ∀ H', GameAt A H' L m.turn → Fr L.own H H' → D.nx σ H') : tDrop (tCall (sp_turn_arrow K A) [] E' (tCons ta tNil)) D σ H :=
  s_call (ea_cons h ea_nil) fun H1 e => ⟨L, m, rfl, g.same e, fun H' g' f => q H' g' ((Fr.of e).trans f)⟩
theorem k_begin (g : GameAt A H L m) (h : Ev ta σ H (.ref L.g)) (q : ∀ H', GameAt A H' L m.nextP → Fr L.own H H' → D.nx σ H') : tDrop (tCall (sp_begin_period K A) [] E' (tCons ta tNil)) D σ H :=
  s_call (ea_cons h ea_nil) fun H1 e => ⟨L, m, rfl, g.same e, fun H' g' f => q H' g' ((Fr.of e).trans f)⟩
theorem k_end (g : GameAt A H L m) (h : Ev ta σ H (.ref L.g)) (q : ∀ H', GameAt A H' L m.endP → Fr L.own H H' → D.nx σ H') : tDrop (tCall (sp_end_period K A) [] E' (tCons ta tNil)) D σ H :=
  s_call (ea_cons h ea_nil) fun H1 e => ⟨L, m, rfl, g.same e, fun H' g' f => q H' g' ((Fr.of e).trans f)⟩
theorem k_throws (g : GameAt A H L m) (h : Ev ta σ H (.ref L.g)) (h2 : Ev tb σ H (.int s)) (h3 : Ev tc σ H (.int k)) (h4 : Ev td σ H (.int z)) (q : ∀ H', GameAt A H' L (m.throwsFor s k z) → Fr L.own H H' → D.nx σ H') : tDrop (tCall (sp_throws_for K A) [] E' (tCons ta (tCons tb (tCons tc (tCons td tNil))))) D σ H :=
  s_call (ea_cons h (ea_cons h2 (ea_cons h3 (ea_cons h4 ea_nil)))) fun H1 e => ⟨L, m, s, k, z, rfl, g.same e, fun H' g' f => q H' g' ((Fr.of e).trans f)⟩
theorem k_bring (g : GameAt A H L m) (hs : Ct.isSide s = true) (h : Ev ta σ H (.ref L.g)) (h2 : Ev tb σ H (.int s)) (h3 : Ev tc σ H (.int k)) (h4 : Ev td σ H (.int z)) (q : ∀ H', GameAt A H' L (m.bring s k z) → Fr L.own H H' → D.nx σ H') : tDrop (tCall (sp_bring K A) [] E' (tCons ta (tCons tb (tCons tc (tCons td tNil))))) D σ H :=
  s_call (ea_cons h (ea_cons h2 (ea_cons h3 (ea_cons h4 ea_nil)))) fun H1 e => ⟨L, m, s, k, z, rfl, g.same e, hs, fun H' g' f => q H' g' ((Fr.of e).trans f)⟩
theorem k_behind (g : GameAt A H L m) (h : Ev ta σ H (.ref L.g)) (h2 : Ev tb σ H (.int s)) (q : ∀ H', GameAt A H' L (m.behindLast s) → Fr L.own H H' → D.nx σ H') : tDrop (tCall (sp_go_on_behind K A) [] E' (tCons ta (tCons tb tNil))) D σ H :=
  s_call (ea_cons h (ea_cons h2 ea_nil)) fun H1 e => ⟨L, m, s, rfl, g.same e, fun H' g' f => q H' g' ((Fr.of e).trans f)⟩
theorem k_letRun (g : GameAt A H L m) (h : Ev ta σ H (.ref L.g)) (h2 : Ev tb σ H (.int s)) (q : ∀ H', GameAt A H' L (m.letRun s) → Fr L.own H H' → D.nx σ H') : tDrop (tCall (sp_let_run K A) [] E' (tCons ta (tCons tb tNil))) D σ H :=
  s_call (ea_cons h (ea_cons h2 ea_nil)) fun H1 e => ⟨L, m, s, rfl, g.same e, fun H' g' f => q H' g' ((Fr.of e).trans f)⟩
/-! ### the defs -/
theorem pure_give_ball (T : Txt K mg A) (h : sp_give_ball K A vs H Q E) : t_give_ball K A { nx := fun _ H' => Q .non H', rt := Q } (start ["game", "side", "shot"] vs) H := by
  obtain ⟨L, m, s, t, rfl, g, q⟩ := h
  refine wG_ball T g (ev_var rfl) (ev_var rfl) fun H1 g1 f1 => ?_
  refine wC_shot T g1 (ev_var rfl) (ev_clock T g1 (ev_var rfl)) fun H2 g2 f2 => ?_
  exact q H2 g2 ((f1.own own_g).trans (f2.own own_c))
theorem pure_miss_by (T : Txt K mg A) (h : sp_miss_by K A vs H Q E) : t_miss_by K A { nx := fun _ H' => Q .non H', rt := Q } (start ["game", "side", "ring"] vs) H := by
  obtain ⟨L, m, s, t, rfl, g, q⟩ := h
  refine wG_ball T g ev_c (ev_var rfl) fun H1 g1 f1 => ?_
  refine wG_missed T g1 (ev_var rfl) (ev_var rfl) fun H2 g2 f2 => ?_
  refine wG_ring T g2 (ev_var rfl) (ev_var rfl) fun H3 g3 f3 => ?_
  exact q H3 g3 (((f1.own own_g).trans (f2.own own_g)).trans (f3.own own_g))
theorem pure_end_game (T : Txt K mg A) (h : sp_end_game K A vs H Q E) : t_end_game K A { nx := fun _ H' => Q .non H', rt := Q } (start ["game", "winner"] vs) H := by
  obtain ⟨L, m, s, rfl, g, q⟩ := h
  refine wG_winner T g (ev_var rfl) (ev_var rfl) fun H1 g1 f1 => ?_
  refine wG_ball T g1 ev_c (ev_var rfl) fun H2 g2 f2 => ?_
  refine wH_many T g2 ev_c (ev_throws T g2 (ev_var rfl)) fun H3 g3 f3 => ?_
  exact q H3 g3 (((f1.own own_g).trans (f2.own own_g)).trans (f3.own own_h))
theorem pure_turn_arrow (T : Txt K mg A) (h : sp_turn_arrow K A vs H Q E) : t_turn_arrow K A { nx := fun _ H' => Q .non H', rt := Q } (start ["game"] vs) H := by
  obtain ⟨L, m, rfl, g, q⟩ := h
  exact wG_arrow T g (c_other (ev_fld (ev_var rfl) (fG_arrow T g))) (ev_var rfl) fun H1 g1 f1 => q H1 g1 (f1.own own_g)
theorem pure_throws_for (T : Txt K mg A) (h : sp_throws_for K A vs H Q E) : t_throws_for K A { nx := fun _ H' => Q .non H', rt := Q } (start ["game", "side", "many", "behind"] vs) H := by
  obtain ⟨L, m, s, n, b, rfl, g, q⟩ := h
  refine wH_many T g (ev_var rfl) (ev_throws T g (ev_var rfl)) fun H1 g1 f1 => ?_
  refine wH_side T g1 (ev_var rfl) (ev_throws T g1 (ev_var rfl)) fun H2 g2 f2 => ?_
  refine wH_behind T g2 (ev_var rfl) (ev_throws T g2 (ev_var rfl)) fun H3 g3 f3 => ?_
  exact q H3 g3 (((f1.own own_h).trans (f2.own own_h)).trans (f3.own own_h))
theorem pure_stands (T : Txt K mg A) (h : sp_stands K A vs H Q E) : t_stands K A { nx := fun _ H' => Q .non H', rt := Q } (start ["game", "points", "team", "clocks"] vs) H := by
  obtain ⟨v, L, o, rfl, hg, q⟩ := h
  cases o with
  | none =>
    have e : v = .non := hg
    subst e
    refine s_ifT (et_test (ev_isN (ev_var rfl))) fun H1 e1 => ?_
    refine s_retL (el_lst (ea_cons ev_c (ea_cons ev_c (ea_cons ev_c (ea_cons ev_c (ea_cons ev_c (ea_cons ev_c (ea_cons ev_c (ea_cons ev_c (ea_cons ev_c ea_nil))))))))) (by simp)) fun p H2 n2 e2 h2 => ?_
    exact q H2 p (e1.trans e2) (fresh_back e1 n2) h2
  | some m =>
    obtain ⟨rfl, g⟩ := hg
    refine s_ifF (et_test (ev_isR (ev_var rfl))) fun H1 e1 => ?_
    have g1 := g.same e1
    have lc := el_lcL (K := K) (tl := tFld K (tVar 0) "teams") (te := tCall (sp_points_of K A) [] E0 (tCons (tVar 2) tNil)) (t := tYes) (σ := start ["game", "points", "team", "clocks"] [.ref L.g]) (H := H1) (j := 2) (vs := [2]) (xs := [.ref L.a.t, .ref L.b.t]) (fun _ => true) (fun i => .int (if i = 0 then m.a.points else m.b.points))
      (ev_fld (ev_var rfl) (fG_teams T g1)) (sq_of g1.tl) (by simp) (fun _ => rfl) (fun i y H2 s hy H3 _ Q q => q H3 (Ex.refl H3)) (fun i y H2 s hy _ => by
        match i, hy with
        | 0, hy =>
          cases hy
          exact c_points_of (ev_var rfl) (g1.a.same s)
        | 1, hy =>
          cases hy
          exact c_points_of (ev_var rfl) (g1.b.same s))
    refine s_asgL lc fun p H2 n2 e2 h2 => ?_
    have g2 := g1.same e2
    have h2 : H2 p = some (.lst [.int m.a.points, .int m.b.points]) := h2
    refine s_asgL (el_lst (ea_cons (ev_fld (ev_clock T g2 (ev_var rfl)) (fC_period T g2)) (ea_cons (ev_fld (ev_clock T g2 (ev_var rfl)) (fC_left T g2)) (ea_cons (ev_fld (ev_clock T g2 (ev_var rfl)) (fC_shot T g2)) ea_nil))) (by simp)) fun p3 H3 n3 e3 h3 => ?_
    have g3 := g2.same e3
    refine s_retL (el_cat (.of (el_cat (.at (ev_var rfl) (e3 _ _ h2)) (.at (ev_var rfl) h3) (by simp)))
      (.of (el_lst (ea_cons (ev_fld (ev_var rfl) (fG_ball T g3)) (ea_cons (ev_fld (ev_var rfl) (fG_arrow T g3)) (ea_cons (ev_fld (ev_throws T g3 (ev_var rfl)) (fH_many T g3)) (ea_cons (ev_fld (ev_var rfl) (fG_winner T g3)) ea_nil)))) (by simp))) (by simp)) fun p4 H4 n4 e4 h4 => ?_
    exact q H4 p4 (((e1.trans e2).trans e3).trans e4) (fresh_back ((e1.trans e2).trans e3) n4) h4
theorem pure_is_played (T : Txt K mg A) (h : sp_is_played K A vs H Q E) : t_is_played K A { nx := fun _ H' => Q .non H', rt := Q } (start ["game"] vs) H := by
  obtain ⟨v, L, o, rfl, hg, q⟩ := h
  cases o with
  | none =>
    have e : v = .non := hg
    subst e
    exact s_ret (ev_andV (b := false) (ev_notN (ev_var rfl)) fun z => by cases z) q
  | some m =>
    obtain ⟨rfl, g⟩ := hg
    exact s_ret (ev_andV (ev_notR (ev_var rfl)) fun _ => ev_andV (ev_gt (ev_fld (ev_clock T g (ev_var rfl)) (fC_period T g)) ev_c) fun _ => ev_eq (ev_fld (ev_var rfl) (fG_winner T g)) ev_c) q
theorem pure_refusal (T : Txt K mg A) (h : sp_refusal K A vs H Q E) : t_refusal K A { nx := fun _ H' => Q .non H', rt := Q } (start ["game", "right"] vs) H := by
  obtain ⟨v, L, o, r, rfl, hg, q⟩ := h
  unfold Ct.refusal at q
  refine sq_if (et_not (et_B (ev_var rfl))) (fun b H1 e1 => ?_) (fun b H1 e1 => ?_)
  · rw [if_pos (nt b)] at q
    exact s_ret ev_c fun H2 e2 => q _ (e1.trans e2)
  rw [if_neg (by rw [nf b]; simp)] at q
  refine sq_if (et_not (et_B (c_is_played (hg.same e1) (ev_var rfl)))) (fun b2 H2 e2 => ?_) (fun b2 H2 e2 => ?_)
  · rw [if_pos (nt b2)] at q
    exact s_ret ev_c fun H3 e3 => q _ ((e1.trans e2).trans e3)
  · rw [if_neg (by rw [nf b2]; simp)] at q
    exact s_ret ev_c fun H3 e3 => q _ ((e1.trans e2).trans e3)
theorem pure_is_any_short (T : Txt K mg A) (h : sp_is_any_short K A vs H Q E) : t_is_any_short K A { nx := fun _ H' => Q .non H', rt := Q } (start ["game"] vs) H := by
  obtain ⟨L, m, rfl, g, q⟩ := h
  exact s_ret (ev_orV (c_is_short (ev_team T g (ev_var rfl) ev_c rfl) g.a) fun _ => c_is_short (ev_team T g (ev_var rfl) ev_c rfl) g.b) q
theorem pure_refusal_in_play (T : Txt K mg A) (h : sp_refusal_in_play K A vs H Q E) : t_refusal_in_play K A { nx := fun _ H' => Q .non H', rt := Q } (start ["game", "right", "found"] vs) H := by
  obtain ⟨v, L, o, r, rfl, hg, q⟩ := h
  unfold Ct.refusalP at q
  refine s_asg (c_refusal hg (ev_var rfl) (ev_var rfl)) fun H1 e1 => ?_
  refine sq_if (et_test (ev_ne (ev_var rfl) ev_c)) (fun b H2 e2 => ?_) (fun b H2 e2 => ?_)
  · rw [if_neg (bf (nt b))] at q
    exact s_ret (ev_var rfl) fun H3 e3 => q _ ((e1.trans e2).trans e3)
  have b := bt (nf b)
  rw [if_pos b] at q
  cases o with
  | none => exfalso; revert b; cases r <;> decide
  | some m =>
    obtain ⟨rfl, g⟩ := hg
    have q : ∀ H', Same H H' → Q (.int m.stop) H' := q
    unfold Ct.Gm.stop at q
    have g2 := (g.same e1).same e2
    refine sq_if (et_test (ev_gt (ev_fld (ev_throws T g2 (ev_var rfl)) (fH_many T g2)) ev_c)) (fun c H3 e3 => ?_) (fun c H3 e3 => ?_)
    · rw [if_pos (bt c)] at q
      exact s_ret ev_c fun H4 e4 => q _ (((e1.trans e2).trans e3).trans e4)
    rw [if_neg (bf c)] at q
    refine sq_if (et_B (c_is_any_short (g2.same e3) (ev_var rfl))) (fun d H4 e4 => ?_) (fun d H4 e4 => ?_)
    · rw [if_pos d] at q
      exact s_ret ev_c fun H5 e5 => q _ ((((e1.trans e2).trans e3).trans e4).trans e5)
    · rw [if_neg (by rw [d]; simp)] at q
      exact s_ret ev_c fun H5 e5 => q _ ((((e1.trans e2).trans e3).trans e4).trans e5)
end
end CtW
/-! Promise gives reading: periods, the clock, what a foul brings. -/
namespace CtW
open PySem PySem.Spec PyProof.Rows L2 Evl
section
variable {K : PySem.W.Frag} {mg : Str → Option Value} {A : Ad} {vs : List V} {H : Hp} {Q : VK} {E E' : XK} {σ : L2.St} {ta tb tc td te : TE} {D : Ends} {n s k z : Int} {x : TL} {t : Ct.Tm} {L : GL} {m : Ct.Gm} {v : V} {o : Option Ct.Gm} {r : Bool}
theorem TH.same {a l : Addr} {H' : Hp} (h : TH A H a l t) (s : Same H H') : TH A H' a l t := h.fr (Fr.of (S := []) s) (by simp)
theorem s_par {ta : TA} {v w : V} {i j : Nat} (h : EvA ta σ H [v, w]) (k : ∀ H1, Same H H1 → D.nx ((σ.set i (some v)).set j (some w)) H1) : tPar i j ta D σ H := h H (Ex.refl H) _ fun H1 e1 => ⟨v, w, rfl, k H1 e1⟩
theorem pure_count_anew (T : Txt K mg A) (h : sp_count_anew K A vs H Q E) : t_count_anew K A { nx := fun _ H' => Q .non H', rt := Q } (start ["team", "period"] vs) H := by
  obtain ⟨a, l, t, p, rfl, h0, q⟩ := h
  have rest : ∀ H1 t1, TH A H1 a l t1 → Fr [a] H H1 → t1 = { t with fouls := if p ≤ 4 then 0 else t.fouls } →
      tIfS (tOr (tTest (tOp rEq (tVar 1) (tC (.int (3))))) (tTest (tOp rGtI (tVar 1) (tC (.int (4)))))) (sFld K (tVar 0) (tC (.int 0)) "timeouts") tNext { nx := fun _ H' => Q .non H', rt := Q } (start ["team", "period"] [.ref a, .int p]) H1 := by
    intro H1 t1 h1 f1 et
    refine s_if (et_or (et_test (ev_eq (ev_var rfl) ev_c)) fun _ => et_test (ev_gt (ev_var rfl) ev_c)) (fun b H2 e2 => ?_) (fun b H2 e2 => ?_)
    · rw [Bool.or_eq_true, decide_eq_true_eq, decide_eq_true_eq] at b
      refine wT_timeouts T (h1.same e2) ev_c (ev_var rfl) fun H3 h3 f3 => ?_
      have : t.anew p = { t1 with timeouts := 0 } := by
        rw [et]; unfold Ct.Tm.anew; rw [if_pos b]
      refine q H3 ?_ ((f1.trans (Fr.of e2)).trans f3)
      rw [this]; exact h3
    · have b2 : ¬ (p = 3 ∨ 4 < p) := fun y => by
        rw [← decide_eq_true_eq (p := p = 3), ← decide_eq_true_eq (p := 4 < p), ← Bool.or_eq_true] at y
        rw [b] at y; cases y
      refine q H2 ?_ (f1.trans (Fr.of e2))
      have : t.anew p = t1 := by
        rw [et]; unfold Ct.Tm.anew; rw [if_neg b2]
      rw [this]; exact h1.same e2
  refine s_if (et_test (ev_le (ev_var rfl) ev_c)) (fun b H1 e1 => ?_) (fun b H1 e1 => ?_)
  · exact wT_fouls T (h0.same e1) ev_c (ev_var rfl) fun H2 h2 f2 => rest H2 _ h2 ((Fr.of e1).trans f2) (by rw [if_pos (bt b)])
  · exact rest H1 t (h0.same e1) (Fr.of e1) (by rw [if_neg (bf b)])
theorem pure_begin_period (T : Txt K mg A) (h : sp_begin_period K A vs H Q E) : t_begin_period K A { nx := fun _ H' => Q .non H', rt := Q } (start ["game", "period", "team"] vs) H := by
  obtain ⟨L, m, rfl, g, q⟩ := h
  refine s_asg (ev_add (ev_fld (ev_clock T g (ev_var rfl)) (fC_period T g)) ev_c) fun H1 e1 => ?_
  have g1 := g.same e1
  refine wC_period T g1 (ev_var rfl) (ev_clock T g1 (ev_var rfl)) fun H2 g2 f2 => ?_
  refine wC_left T g2 (z := if m.period + 1 ≤ 4 then 6000 else 3000) (ev_if (et_test (ev_le (ev_var rfl) ev_c)) (fun b => by rw [if_pos (bt b)]; exact ev_c) (fun b => by rw [if_neg (bf b)]; exact ev_c)) (ev_clock T g2 (ev_var rfl)) fun H3 g3 f3 => ?_
  have F3 : Fr L.own H H3 := ((Fr.of e1).trans (f2.own own_c)).trans (f3.own own_c)
  generalize hm : ({ m with period := m.period + 1, left := if m.period + 1 ≤ 4 then 6000 else 3000 } : Ct.Gm) = m3 at g3
  have ma : m3.a = m.a := by rw [← hm]
  have mb : m3.b = m.b := by rw [← hm]
  refine s_forL (K := K) (a := L.tl) (xs := [.ref L.a.t, .ref L.b.t]) (ev_fld (ev_var rfl) (fG_teams T g3)) (sq_of g3.tl)
    (fun i σ' H' => (∃ w, σ' = [some (.ref L.g), some (.int (m.period + 1)), w]) ∧ Fr L.own H H' ∧ GameAt A H' L { m3 with a := if 1 ≤ i then m.a.anew (m.period + 1) else m.a, b := if 2 ≤ i then m.b.anew (m.period + 1) else m.b })
    (fun H4 e4 => ⟨⟨none, rfl⟩, F3.trans (Fr.of e4), ?_⟩) (fun i σ' H' _ p => sq_of p.2.2.tl) (fun i y σ' H' hy p => ?_) (fun σ' H' p => ?_)
  · have : ({ m3 with a := if 1 ≤ 0 then m.a.anew (m.period + 1) else m.a, b := if 2 ≤ 0 then m.b.anew (m.period + 1) else m.b } : Ct.Gm) = m3 := by
      rw [if_neg (by decide), if_neg (by decide), ← ma, ← mb]
    rw [this]; exact g3.same e4
  · obtain ⟨⟨w, rfl⟩, F, gi⟩ := p
    match i, hy with
    | 0, hy =>
      cases hy
      refine s_call (ea_cons (ev_var rfl) (ea_cons (ev_var rfl) ea_nil)) fun H4 e4 => ⟨L.a.t, L.a.l, m.a, m.period + 1, rfl, (gi.same e4).a.hd, fun H5 h5 f5 => ?_⟩
      refine ⟨⟨_, rfl⟩, (F.trans (Fr.of e4)).trans (f5.own (own_t 0)), ?_⟩
      exact (gi.same e4).setT 0 f5 h5 rfl
    | 1, hy =>
      cases hy
      refine s_call (ea_cons (ev_var rfl) (ea_cons (ev_var rfl) ea_nil)) fun H4 e4 => ⟨L.b.t, L.b.l, m.b, m.period + 1, rfl, (gi.same e4).b.hd, fun H5 h5 f5 => ?_⟩
      refine ⟨⟨_, rfl⟩, (F.trans (Fr.of e4)).trans (f5.own (own_t 1)), ?_⟩
      exact (gi.same e4).setT 1 f5 h5 rfl
  · obtain ⟨⟨w, rfl⟩, F, gi⟩ := p
    have gi : GameAt A H' L { m3 with a := m.a.anew (m.period + 1), b := m.b.anew (m.period + 1) } := gi
    refine k_give gi (ev_var rfl) (ev_fld (ev_var rfl) (fG_arrow T gi)) ev_c fun H5 g5 f5 => ?_
    refine k_turn g5 (ev_var rfl) fun H6 g6 f6 => ?_
    refine q H6 ?_ ((F.trans f5).trans f6)
    rw [← hm] at g6
    exact g6
theorem pure_end_period (T : Txt K mg A) (h : sp_end_period K A vs H Q E) : t_end_period K A { nx := fun _ H' => Q .non H', rt := Q } (start ["game", "first", "second"] vs) H := by
  obtain ⟨L, m, rfl, g, q⟩ := h
  unfold Ct.Gm.endP at q
  have ev : EvA (tCons (tCall (sp_points_of K A) [] E0 (tCons (tOp (rIxL K) (tFld K (tVar 0) "teams") (tC (.int 0))) tNil)) (tCons (tCall (sp_points_of K A) [] E0 (tCons (tOp (rIxL K) (tFld K (tVar 0) "teams") (tC (.int 1))) tNil)) tNil)) (start ["game", "first", "second"] [.ref L.g]) H [.int m.a.points, .int m.b.points] :=
    ea_cons (c_points_of (x := L.a) (ev_team (s := 0) T g (ev_var rfl) ev_c rfl) g.a) (ea_cons (c_points_of (x := L.b) (ev_team (s := 1) T g (ev_var rfl) ev_c rfl) g.b) ea_nil)
  refine s_par ev fun H1 e1 => ?_
  have g1 := g.same e1
  refine s_if (σ := [some (.ref L.g), some (.int m.a.points), some (.int m.b.points)]) (et_and (et_test (ev_ge (ev_fld (ev_clock T g1 (ev_var rfl)) (fC_period T g1)) ev_c)) fun _ => et_test (ev_gt (ev_var rfl) (ev_var rfl))) (fun b H2 e2 => ?_) (fun b H2 e2 => ?_)
  · rw [Bool.and_eq_true, decide_eq_true_eq, decide_eq_true_eq] at b
    rw [if_pos b] at q
    exact k_over (g1.same e2) (ev_var rfl) ev_c fun H3 g3 f3 => q H3 g3 ((Fr.of (e1.trans e2)).trans f3)
  have b : ¬ (4 ≤ m.period ∧ m.b.points < m.a.points) := fun y => by
    rw [decide_eq_true y.1, decide_eq_true y.2] at b; cases b
  rw [if_neg b] at q
  have g2 := g1.same e2
  refine s_if (σ := [some (.ref L.g), some (.int m.a.points), some (.int m.b.points)]) (et_and (et_test (ev_ge (ev_fld (ev_clock T g2 (ev_var rfl)) (fC_period T g2)) ev_c)) fun _ => et_test (ev_gt (ev_var rfl) (ev_var rfl))) (fun b H3 e3 => ?_) (fun b H3 e3 => ?_)
  · rw [Bool.and_eq_true, decide_eq_true_eq, decide_eq_true_eq] at b
    rw [if_pos b] at q
    exact k_over (g2.same e3) (ev_var rfl) ev_c fun H4 g4 f4 => q H4 g4 ((Fr.of ((e1.trans e2).trans e3)).trans f4)
  · have b : ¬ (4 ≤ m.period ∧ m.a.points < m.b.points) := fun y => by
      rw [decide_eq_true y.1, decide_eq_true y.2] at b; cases b
    rw [if_neg b] at q
    exact k_begin (g2.same e3) (ev_var rfl) fun H4 g4 f4 => q H4 g4 ((Fr.of ((e1.trans e2).trans e3)).trans f4)
theorem pure_time_to_stop (T : Txt K mg A) (h : sp_time_to_stop K A vs H Q E) : t_time_to_stop K A { nx := fun _ H' => Q .non H', rt := Q } (start ["game"] vs) H := by
  obtain ⟨L, m, rfl, g, q⟩ := h
  unfold Ct.Gm.toStop at q
  refine sq_if (et_and (et_test (ev_ne (ev_fld (ev_var rfl) (fG_ball T g)) ev_c)) fun _ => et_test (ev_lt (ev_fld (ev_clock T g (ev_var rfl)) (fC_shot T g)) (ev_fld (ev_clock T g (ev_var rfl)) (fC_left T g)))) (fun b H1 e1 => ?_) (fun b H1 e1 => ?_)
  · rw [Bool.and_eq_true, decide_eq_true_eq] at b
    rw [if_pos ⟨bf (nt b.1), b.2⟩] at q
    have g1 := g.same e1
    exact s_ret (ev_fld (ev_clock T g1 (ev_var rfl)) (fC_shot T g1)) fun H2 e2 => q _ (e1.trans e2)
  · have b : ¬ (m.ball ≠ -1 ∧ m.shot < m.left) := fun y => by
      rw [decide_eq_false y.1, decide_eq_true y.2] at b; cases b
    rw [if_neg b] at q
    have g1 := g.same e1
    exact s_ret (ev_fld (ev_clock T g1 (ev_var rfl)) (fC_left T g1)) fun H2 e2 => q _ (e1.trans e2)
theorem pure_shot_behind (T : Txt K mg A) (h : sp_shot_behind K A vs H Q E) : t_shot_behind K A { nx := fun _ H' => Q .non H', rt := Q } (start ["game", "side"] vs) H := by
  obtain ⟨L, m, s, rfl, g, q⟩ := h
  unfold Ct.Gm.shotBehind at q
  refine sq_if (et_test (ev_ne (ev_var rfl) (ev_fld (ev_var rfl) (fG_missed T g)))) (fun b H1 e1 => ?_) (fun b H1 e1 => ?_)
  · rw [if_pos (bf (nt b))] at q
    exact s_ret ev_c fun H2 e2 => q _ (e1.trans e2)
  rw [if_neg (fun y => y (bt (nf b)))] at q
  have g1 := g.same e1
  refine sq_if (et_test (ev_eq (ev_fld (ev_var rfl) (fG_ring T g1)) ev_c)) (fun b H2 e2 => ?_) (fun b H2 e2 => ?_)
  · rw [if_pos (bt b)] at q
    exact s_ret ev_c fun H3 e3 => q _ ((e1.trans e2).trans e3)
  · rw [if_neg (bf b)] at q
    have g2 := g1.same e2
    exact s_ret (ev_fld (ev_clock T g2 (ev_var rfl)) (fC_shot T g2)) fun H3 e3 => q _ ((e1.trans e2).trans e3)
theorem pure_is_shot_strange (T : Txt K mg A) (h : sp_is_shot_strange K A vs H Q E) : t_is_shot_strange K A { nx := fun _ H' => Q .non H', rt := Q } (start ["game", "side", "kind", "shot"] vs) H := by
  obtain ⟨L, m, s, k, z, rfl, g, q⟩ := h
  exact s_ret (ev_orV (ev_andV (ev_gt (ev_var rfl) ev_c) fun _ => ev_eq (ev_var rfl) ev_c) fun _ => ev_andV (ev_gt (ev_var rfl) ev_c) fun _ => ev_eq (ev_fld (ev_var rfl) (fG_ball T g)) (ev_var rfl)) q
theorem pure_let_run (T : Txt K mg A) (h : sp_let_run K A vs H Q E) : t_let_run K A { nx := fun _ H' => Q .non H', rt := Q } (start ["game", "tenths"] vs) H := by
  obtain ⟨L, m, t, rfl, g, q⟩ := h
  refine decC_left T g (ev_clock T g (ev_var rfl)) (ev_var rfl) fun H1 g1 f1 => ?_
  have F1 := f1.own (own_c (L := L))
  have fin : ∀ H2 u, GameAt A H2 L u → Fr L.own H H2 → u = { m with left := m.left - t, shot := if m.ball ≠ -1 then m.shot - t else m.shot } →
      tIfS (tTest (tOp rEq (tFld K (tFld K (tVar 0) "clock") "left") (tC (.int 0)))) (tDrop (tCall (sp_end_period K A) [] E0 (tCons (tVar 0) tNil))) (tIfS (tAnd (tTest (tOp rNe (tFld K (tVar 0) "ball") (tC (.int (-1))))) (tTest (tOp rEq (tFld K (tFld K (tVar 0) "clock") "shot") (tC (.int 0))))) (tDrop (tCall (sp_give_ball K A) [] E0 (tCons (tVar 0) (tCons (tCall (sp_other K A) [] E0 (tCons (tFld K (tVar 0) "ball") tNil)) (tCons (tC (.int (240))) tNil))))) tNext)
        { nx := fun _ H' => Q .non H', rt := Q } (start ["game", "tenths"] [.ref L.g, .int t]) H2 := by
    intro H2 u g2 F2 eu
    have q : GProc A L H (if u.left = 0 then u.endP else if u.ball ≠ -1 ∧ u.shot = 0 then u.give (1 - u.ball) 240 else u) Q := by
      rw [eu]; exact q
    refine s_if (et_test (ev_eq (ev_fld (ev_clock T g2 (ev_var rfl)) (fC_left T g2)) ev_c)) (fun b H3 e3 => ?_) (fun b H3 e3 => ?_)
    · rw [if_pos (bt b)] at q
      exact k_end (g2.same e3) (ev_var rfl) fun H4 g4 f4 => q H4 g4 ((F2.trans (Fr.of e3)).trans f4)
    rw [if_neg (bf b)] at q
    have g3 := g2.same e3
    refine s_if (et_and (et_test (ev_ne (ev_fld (ev_var rfl) (fG_ball T g3)) ev_c)) fun _ => et_test (ev_eq (ev_fld (ev_clock T g3 (ev_var rfl)) (fC_shot T g3)) ev_c)) (fun b H4 e4 => ?_) (fun b H4 e4 => ?_)
    · rw [Bool.and_eq_true, decide_eq_true_eq] at b
      rw [if_pos ⟨bf (nt b.1), b.2⟩] at q
      have g4 := g3.same e4
      exact k_give g4 (ev_var rfl) (c_other (ev_fld (ev_var rfl) (fG_ball T g4))) ev_c fun H5 g5 f5 => q H5 g5 ((F2.trans (Fr.of (e3.trans e4))).trans f5)
    · have b : ¬ (u.ball ≠ -1 ∧ u.shot = 0) := fun y => by
        rw [decide_eq_false y.1, decide_eq_true y.2] at b; cases b
      rw [if_neg b] at q
      exact q H4 (g3.same e4) (F2.trans (Fr.of (e3.trans e4)))
  refine s_if (et_test (ev_ne (ev_fld (ev_var rfl) (fG_ball T g1)) ev_c)) (fun b H2 e2 => ?_) (fun b H2 e2 => ?_)
  · have g2 := g1.same e2
    exact decC_shot T g2 (ev_clock T g2 (ev_var rfl)) (ev_var rfl) fun H3 g3 f3 => fin H3 _ g3 ((F1.trans (Fr.of e2)).trans (f3.own own_c)) (by rw [if_pos (show m.ball ≠ -1 from bf (nt b))])
  · exact fin H2 _ (g1.same e2) (F1.trans (Fr.of e2)) (by rw [if_neg (fun y => y (show m.ball = -1 from bt (nf b)))])
theorem pure_bring (T : Txt K mg A) (h : sp_bring K A vs H Q E) : t_bring K A { nx := fun _ H' => Q .non H', rt := Q } (start ["game", "side", "kind", "shot", "rival"] vs) H := by
  obtain ⟨L, m, s, k, z, rfl, g, hs, q⟩ := h
  unfold Ct.Gm.bring at q
  refine s_asg (c_other (ev_var rfl)) fun H1 e1 => ?_
  have g1 := g.same e1
  refine s_if (et_test (ev_eq (ev_var rfl) ev_c)) (fun b H2 e2 => ?_) (fun b H2 e2 => ?_)
  · rw [if_pos (bt b)] at q
    exact k_throws (g1.same e2) (ev_var rfl) (ev_var rfl) ev_c ev_c fun H3 g3 f3 => q H3 g3 ((Fr.of (e1.trans e2)).trans f3)
  rw [if_neg (bf b)] at q
  have g2 := g1.same e2
  refine s_if (et_test (ev_ne (ev_var rfl) ev_c)) (fun b H3 e3 => ?_) (fun b H3 e3 => ?_)
  · rw [if_pos (bf (nt b))] at q
    refine k_throws (k := if 0 < z then z else 2) (g2.same e3) (ev_var rfl) (ev_var rfl) (ev_if (et_test (ev_gt (ev_var rfl) ev_c)) (fun b => by rw [if_pos (bt b)]; exact ev_var rfl) (fun b => by rw [if_neg (bf b)]; exact ev_c)) ev_c fun H4 g4 f4 => q H4 g4 ((Fr.of ((e1.trans e2).trans e3)).trans f4)
  rw [if_neg (fun y => y (bt (nf b)))] at q
  have g3 := g2.same e3
  have F3 := (e1.trans e2).trans e3
  refine s_if (et_test (ev_gt (ev_var rfl) ev_c)) (fun b H4 e4 => ?_) (fun b H4 e4 => ?_)
  · rw [if_pos (bt b)] at q
    exact k_throws (g3.same e4) (ev_var rfl) (ev_var rfl) (ev_var rfl) ev_c fun H5 g5 f5 => q H5 g5 ((Fr.of (F3.trans e4)).trans f5)
  rw [if_neg (bf b)] at q
  have g4 := g3.same e4
  have F4 := F3.trans e4
  refine s_if (et_test (ev_eq (ev_fld (ev_var rfl) (fG_ball T g4)) (ev_var rfl))) (fun b H5 e5 => ?_) (fun b H5 e5 => ?_)
  · rw [if_pos (bt b)] at q
    exact k_give (g4.same e5) (ev_var rfl) (ev_var rfl) ev_c fun H6 g6 f6 => q H6 g6 ((Fr.of (F4.trans e5)).trans f6)
  rw [if_neg (bf b)] at q
  have g5 := g4.same e5
  have F5 := F4.trans e5
  refine s_if (et_test (ev_ge (ev_fld (ev_team T g5 (ev_var rfl) (ev_var rfl) hs) (fT_fouls T (g5.team s).hd)) ev_c)) (fun b H6 e6 => ?_) (fun b H6 e6 => ?_)
  · rw [if_pos (bt b)] at q
    exact k_throws (g5.same e6) (ev_var rfl) (ev_var rfl) ev_c ev_c fun H7 g7 f7 => q H7 g7 ((Fr.of (F5.trans e6)).trans f7)
  rw [if_neg (bf b)] at q
  have g6 := g5.same e6
  have F6 := F5.trans e6
  refine s_if (et_test (ev_eq (ev_fld (ev_var rfl) (fG_ball T g6)) (ev_var rfl))) (fun b H7 e7 => ?_) (fun b H7 e7 => ?_)
  · rw [if_pos (bt b)] at q
    have g7 := g6.same e7
    refine k_give g7 (ev_var rfl) (ev_var rfl) (ev_max2 (ev_fld (ev_clock T g7 (ev_var rfl)) (fC_shot T g7)) ev_c) fun H8 g8 f8 => q H8 ?_ ((Fr.of (F6.trans e7)).trans f8)
    have e : (if (140 : Int) > m.shot then (140 : Int) else m.shot) = if m.shot < 140 then 140 else m.shot := rfl
    rw [← e]; exact g8
  · rw [if_neg (bf b)] at q
    exact k_give (g6.same e7) (ev_var rfl) (ev_var rfl) ev_c fun H8 g8 f8 => q H8 g8 ((Fr.of (F6.trans e7)).trans f8)
theorem pure_go_on_behind (T : Txt K mg A) (h : sp_go_on_behind K A vs H Q E) : t_go_on_behind K A { nx := fun _ H' => Q .non H', rt := Q } (start ["game", "good", "side"] vs) H := by
  obtain ⟨L, m, b0, rfl, g, q⟩ := h
  unfold Ct.Gm.behindLast at q
  refine s_asg (ev_fld (ev_throws T g (ev_var rfl)) (fH_side T g)) fun H1 e1 => ?_
  have g1 := g.same e1
  refine s_if (et_test (ev_eq (ev_fld (ev_throws T g1 (ev_var rfl)) (fH_behind T g1)) ev_c)) (fun b H2 e2 => ?_) (fun b H2 e2 => ?_)
  · rw [if_pos (bt b)] at q
    exact k_give (g1.same e2) (ev_var rfl) (ev_var rfl) ev_c fun H3 g3 f3 => q H3 g3 ((Fr.of (e1.trans e2)).trans f3)
  rw [if_neg (bf b)] at q
  have g2 := g1.same e2
  refine s_if (et_and (et_test (ev_eq (ev_fld (ev_throws T g2 (ev_var rfl)) (fH_behind T g2)) ev_c)) fun _ => et_test (ev_eq (ev_var rfl) ev_c)) (fun b H3 e3 => ?_) (fun b H3 e3 => ?_)
  · rw [Bool.and_eq_true, decide_eq_true_eq, decide_eq_true_eq] at b
    rw [if_pos b] at q
    exact k_give (g2.same e3) (ev_var rfl) (c_other (ev_var rfl)) ev_c fun H4 g4 f4 => q H4 g4 ((Fr.of ((e1.trans e2).trans e3)).trans f4)
  have b : ¬ (m.behind = 2 ∧ b0 = 1) := fun y => by
    rw [decide_eq_true y.1, decide_eq_true y.2] at b; cases b
  rw [if_neg b] at q
  have g3 := g2.same e3
  refine s_if (et_test (ev_eq (ev_fld (ev_throws T g3 (ev_var rfl)) (fH_behind T g3)) ev_c)) (fun b H4 e4 => ?_) (fun b H4 e4 => ?_)
  · rw [if_pos (bt b)] at q
    exact k_miss (g3.same e4) (ev_var rfl) (ev_var rfl) ev_c fun H5 g5 f5 => q H5 g5 ((Fr.of (((e1.trans e2).trans e3).trans e4)).trans f5)
  · rw [if_neg (bf b)] at q
    exact q H4 (g3.same e4) (Fr.of (((e1.trans e2).trans e3).trans e4))
end
end CtW
/-! Promise gives reading: the calls of play. -/
namespace CtW
open PySem PySem.Spec PyProof.Rows L2 Evl
theorem put_teamG {m : Ct.Gm} {s : Int} {t : Ct.Tm} : (m.put s t).team s = t := Ct.put_team
theorem put_put {m : Ct.Gm} {s : Int} {t u : Ct.Tm} : (m.put s t).put s u = m.put s u := by
  unfold Ct.Gm.put
  by_cases h : s = 0
  · rw [if_pos h, if_pos h, if_pos h]
  · rw [if_neg h, if_neg h, if_neg h]
theorem team_ab {m u : Ct.Gm} (ha : u.a = m.a) (hb : u.b = m.b) (s : Int) : u.team s = m.team s := by
  unfold Ct.Gm.team; rw [ha, hb]
theorem bring_ab (m : Ct.Gm) (s k z : Int) : (m.bring s k z).a = m.a ∧ (m.bring s k z).b = m.b := by
  unfold Ct.Gm.bring
  (repeat' split) <;> exact ⟨rfl, rfl⟩
theorem behind_ab (m : Ct.Gm) (g : Int) : (m.behindLast g).a = m.a ∧ (m.behindLast g).b = m.b := by
  unfold Ct.Gm.behindLast
  (repeat' split) <;> exact ⟨rfl, rfl⟩
section
variable {K : PySem.W.Frag} {mg : Str → Option Value} {A : Ad} {vs : List V} {H H1 : Hp} {Q : VK} {E E' : XK} {σ : L2.St} {ta tb tc td te : TE} {D : Ends} {n s k z : Int} {x : TL} {t : Ct.Tm} {L : GL} {m m1 : Ct.Gm} {v : V} {o : Option Ct.Gm} {r : Bool} {rs : Ct.Rs}
theorem GameAt.tr (h : GameAt A H L m) : ∀ b ∈ L.own, H b ≠ none := by
  intro b hb
  have hb : b ∈ L.g :: L.tl :: L.c :: L.th :: (L.a.own ++ L.b.own) := hb
  simp only [List.mem_cons, List.mem_append] at hb
  rcases hb with rfl | rfl | rfl | rfl | hb | hb
  · obtain ⟨d, e⟩ := h.g; rw [e]; simp
  · rw [h.tl]; simp
  · obtain ⟨d, e⟩ := h.c; rw [e]; simp
  · obtain ⟨d, e⟩ := h.th; rw [e]; simp
  · exact h.a.tr b hb
  · exact h.b.tr b hb
theorem Ans.same (q : Ans A L v o H rs Q) (s : Same H H1) : Ans A L v o H1 rs Q := fun H' p g f n hp => q H' p g (by
  cases o with
  | none => exact Same.trans s f
  | some m => exact (Fr.of s).trans f) (fresh_back s n) hp
theorem Ans.step (q : Ans A L v (some m) H rs Q) (g : GameAt A H1 L m1) (f : Fr L.own H H1) : Ans A L v (some m1) H1 rs Q := fun H' p g' f' n hp => q H' p g' (Fr.trans f f') (by
  cases e : H p with
  | none => rfl
  | some o =>
    by_cases c : p ∈ L.own
    · exact absurd n (g.tr p c)
    · rw [f _ _ e c] at n; cases n) hp
/-- return [z] + stands(game) -/
theorem fin_told (g : GameAt A H L m) (hd : D.rt = Q) (he : Ev te σ H (.int z)) (hv : Ev ta σ H (.ref L.g)) (q : Ans A L (.ref L.g) (some m) H (Ct.told m z) Q) : tRet (tOp rCat (tLst (tCons te tNil)) (tCall (sp_stands K A) [] E' (tCons ta tNil))) D σ H := by
  refine s_retL (el_cat (.of (el_lst (ea_cons he ea_nil) (by simp))) (.of (c_stands (o := some m) ⟨rfl, g⟩ hv)) (by show 1 + 9 ≤ 100000; decide)) fun p H1 n1 e h1 => ?_
  rw [hd]
  exact q H1 p ⟨rfl, g.same e⟩ (FrO.of e) n1 h1
/-- return [z] -/
theorem fin_num (hg : GmO A H L v o) (hd : D.rt = Q) (he : Ev te σ H (.int z)) (q : Ans A L v o H (o, [z]) Q) : tRet (tLst (tCons te tNil)) D σ H := by
  refine s_retL (el_lst (ea_cons he ea_nil) (by simp)) fun p H1 n1 e h1 => ?_
  rw [hd]
  exact q H1 p (hg.same e) (FrO.of e) n1 h1
/-- what every call of play begins with -/
theorem head_P {i : Nat} {u : TS} {f : Ct.Gm → Ct.Rs} (hg : GmO A H L v o) (hv : Ev ta σ H v) (hr : Ev tb σ H (.bl r)) (q : Ans A L v o H (Ct.playP o r f) Q) (hd : D.rt = Q) (hσ : ∀ y, (σ.set i (some y))[i]? = some (some y))
    (k : ∀ m H1, o = some m → v = .ref L.g → Ct.refusalP o r = 0 → Same H H1 → GameAt A H1 L m → Ans A L (.ref L.g) (some m) H1 (f m) Q → u D (σ.set i (some (.int 0))) H1) :
    tSeq (tAsg (tCall (sp_refusal_in_play K A) [] E' (tCons ta (tCons tb tNil))) (gName i)) (tSeq (tIfS (tTest (tOp rNe (tVar i) (tC (.int 0)))) (tRet (tLst (tCons (tVar i) tNil))) tNext) u) D σ H := by
  unfold Ct.playP at q
  refine s_asg (c_refusalP hg hv hr) fun H1 e1 => ?_
  refine sq_if (et_test (ev_ne (ev_var (hσ _)) ev_c)) (fun b H2 e2 => ?_) (fun b H2 e2 => ?_)
  · rw [if_neg (bf (nt b))] at q
    exact fin_num (hg.same (e1.trans e2)) hd (ev_var (hσ _)) (q.same (e1.trans e2))
  · have b := bt (nf b)
    rw [if_pos b] at q
    cases o with
    | none => exfalso; revert b; cases r <;> decide
    | some m =>
      obtain ⟨rfl, g⟩ := hg
      have := k m H2 rfl rfl b (e1.trans e2) (g.same (e1.trans e2)) (q.same (e1.trans e2))
      rw [b]; exact this
theorem head_R {i : Nat} {u : TS} {f : Ct.Gm → Ct.Rs} (hg : GmO A H L v o) (hv : Ev ta σ H v) (hr : Ev tb σ H (.bl r)) (q : Ans A L v o H (Ct.playR o r f) Q) (hd : D.rt = Q) (hσ : ∀ y, (σ.set i (some y))[i]? = some (some y))
    (k : ∀ m H1, o = some m → v = .ref L.g → Ct.refusal o r = 0 → Same H H1 → GameAt A H1 L m → Ans A L (.ref L.g) (some m) H1 (f m) Q → u D (σ.set i (some (.int 0))) H1) :
    tSeq (tAsg (tCall (sp_refusal K A) [] E' (tCons ta (tCons tb tNil))) (gName i)) (tSeq (tIfS (tTest (tOp rNe (tVar i) (tC (.int 0)))) (tRet (tLst (tCons (tVar i) tNil))) tNext) u) D σ H := by
  unfold Ct.playR at q
  refine s_asg (c_refusal hg hv hr) fun H1 e1 => ?_
  refine sq_if (et_test (ev_ne (ev_var (hσ _)) ev_c)) (fun b H2 e2 => ?_) (fun b H2 e2 => ?_)
  · rw [if_neg (bf (nt b))] at q
    exact fin_num (hg.same (e1.trans e2)) hd (ev_var (hσ _)) (q.same (e1.trans e2))
  · have b := bt (nf b)
    rw [if_pos b] at q
    cases o with
    | none => exfalso; revert b; cases r <;> decide
    | some m =>
      obtain ⟨rfl, g⟩ := hg
      have := k m H2 rfl rfl b (e1.trans e2) (g.same (e1.trans e2)) (q.same (e1.trans e2))
      rw [b]; exact this
theorem right_P (h : Ct.refusalP o r = 0) : r = true := by
  cases r
  · simp [Ct.refusalP, Ct.refusal] at h
  · rfl
theorem right_R (h : Ct.refusal o r = 0) : r = true := by
  cases r
  · simp [Ct.refusal] at h
  · rfl
/-! ### a player found -/
theorem TmAt.at_ (hx : TmAt A H x t) {j : Nat} {q : Ct.Pl → Bool} (h : t.players.findIdx? q = some j) : ∃ a p, x.ps[j]? = some a ∧ t.players[j]? = some p ∧ q p = true ∧ PlAt A H a p := by
  obtain ⟨hj, hq, _⟩ := List.findIdx?_eq_some_iff_getElem.mp h
  have hj2 : j < x.ps.length := by rw [hx.p.len]; exact hj
  exact ⟨x.ps[j], t.players[j], by simp, by simp, hq, hx.p.at_ j _ _ (by simp) (by simp)⟩
theorem c_on_court_no (hx : TmAt A H x t) (ha : Ev ta σ H (.ref x.t)) (hn : Ev tb σ H (.int n)) (h : t.findC n = none) : Ev (tCall (sp_on_court K A) [] E' (tCons ta (tCons tb tNil))) σ H .non :=
  ev_get (ea_cons ha (ea_cons hn ea_nil)) fun H1 e Q q E => ⟨x, t, n, rfl, hx.same e, fun _ => q, fun i a p hi => (by rw [h] at hi; cases hi)⟩
theorem c_on_court_at (hx : TmAt A H x t) (ha : Ev ta σ H (.ref x.t)) (hn : Ev tb σ H (.int n)) {j : Nat} {a : Addr} (h : t.findC n = some j) (hj : x.ps[j]? = some a) : Ev (tCall (sp_on_court K A) [] E' (tCons ta (tCons tb tNil))) σ H (.ref a) :=
  ev_get (ea_cons ha (ea_cons hn ea_nil)) fun H1 e Q q E => ⟨x, t, n, rfl, hx.same e, fun z => (by rw [h] at z; cases z), fun i b p hi hb _ => by
    rw [h] at hi; cases hi
    rw [hj] at hb; cases hb
    exact q⟩
theorem c_on_bench_no (hx : TmAt A H x t) (ha : Ev ta σ H (.ref x.t)) (hn : Ev tb σ H (.int n)) (h : t.findB n = none) : Ev (tCall (sp_on_bench K A) [] E' (tCons ta (tCons tb tNil))) σ H .non :=
  ev_get (ea_cons ha (ea_cons hn ea_nil)) fun H1 e Q q E => ⟨x, t, n, rfl, hx.same e, fun _ => q, fun i a p hi => (by rw [h] at hi; cases hi)⟩
theorem c_on_bench_at (hx : TmAt A H x t) (ha : Ev ta σ H (.ref x.t)) (hn : Ev tb σ H (.int n)) {j : Nat} {a : Addr} (h : t.findB n = some j) (hj : x.ps[j]? = some a) : Ev (tCall (sp_on_bench K A) [] E' (tCons ta (tCons tb tNil))) σ H (.ref a) :=
  ev_get (ea_cons ha (ea_cons hn ea_nil)) fun H1 e Q q E => ⟨x, t, n, rfl, hx.same e, fun z => (by rw [h] at z; cases z), fun i b p hi hb _ => by
    rw [h] at hi; cases hi
    rw [hj] at hb; cases hb
    exact q⟩
/-! ### the calls -/
theorem pure_run (T : Txt K mg A) (h : sp_run K A vs H Q E) : t_run K A { nx := fun _ H' => Q .non H', rt := Q } (start ["game", "tenths", "found", "ran"] vs) H := by
  obtain ⟨v, L, o, t, rfl, hg, q⟩ := h
  refine head_P hg (ev_var rfl) (ev_within ev_c (ev_var rfl) ev_c) q rfl (fun _ => rfl) fun m H1 eo ev _ e1 g q' => ?_
  clear q
  subst ev
  have q := q'
  refine s_asg (ev_min2 (ev_var rfl) (c_time_to_stop g (ev_var rfl))) fun H2 e2 => ?_
  refine k_letRun (g.same e2) (ev_var rfl) (ev_var rfl) fun H3 g3 f3 => ?_
  exact fin_told g3 rfl (ev_var rfl) (ev_var rfl) ((q.same e2).step g3 f3)
theorem pure_lose (T : Txt K mg A) (h : sp_lose K A vs H Q E) : t_lose K A { nx := fun _ H' => Q .non H', rt := Q } (start ["game", "found"] vs) H := by
  obtain ⟨v, L, o, rfl, hg, q⟩ := h
  refine head_P hg (ev_var rfl) ev_c q rfl (fun _ => rfl) fun m H1 eo ev _ e1 g q' => ?_
  clear q
  subst ev
  have q := q'
  refine sq_if (et_test (ev_eq (ev_fld (ev_var rfl) (fG_ball T g)) ev_c)) (fun b H2 e2 => ?_) (fun b H2 e2 => ?_)
  · rw [if_pos (bt b)] at q
    exact fin_num (o := some m) ⟨rfl, g.same e2⟩ rfl ev_c (q.same e2)
  · rw [if_neg (bf b)] at q
    have g2 := g.same e2
    refine k_give g2 (ev_var rfl) (c_other (ev_fld (ev_var rfl) (fG_ball T g2))) ev_c fun H3 g3 f3 => ?_
    exact fin_told g3 rfl ev_c (ev_var rfl) ((q.same e2).step g3 f3)
theorem pure_rebound (T : Txt K mg A) (h : sp_rebound K A vs H Q E) : t_rebound K A { nx := fun _ H' => Q .non H', rt := Q } (start ["game", "side", "found"] vs) H := by
  obtain ⟨v, L, o, s, rfl, hg, q⟩ := h
  refine head_P hg (ev_var rfl) (c_is_side (ev_var rfl)) q rfl (fun _ => rfl) fun m H1 eo ev _ e1 g q' => ?_
  clear q
  subst ev
  have q := q'
  refine sq_if (et_test (ev_ne (ev_fld (ev_var rfl) (fG_ball T g)) ev_c)) (fun b H2 e2 => ?_) (fun b H2 e2 => ?_)
  · rw [if_pos (bf (nt b))] at q
    exact fin_num (o := some m) ⟨rfl, g.same e2⟩ rfl ev_c (q.same e2)
  · rw [if_neg (fun y => y (bt (nf b)))] at q
    have g2 := g.same e2
    refine k_give g2 (ev_var rfl) (ev_var rfl) (c_shot_behind g2 (ev_var rfl) (ev_var rfl)) fun H3 g3 f3 => ?_
    exact fin_told g3 rfl ev_c (ev_var rfl) ((q.same e2).step g3 f3)
theorem pure_held (T : Txt K mg A) (h : sp_held K A vs H Q E) : t_held K A { nx := fun _ H' => Q .non H', rt := Q } (start ["game", "found"] vs) H := by
  obtain ⟨v, L, o, rfl, hg, q⟩ := h
  refine head_P hg (ev_var rfl) ev_c q rfl (fun _ => rfl) fun m H1 eo ev _ e1 g q' => ?_
  clear q
  subst ev
  have q := q'
  refine sq_if (et_test (ev_ne (ev_fld (ev_var rfl) (fG_ball T g)) (ev_fld (ev_var rfl) (fG_arrow T g)))) (fun b H2 e2 => ?_) (fun b H2 e2 => ?_)
  · rw [if_pos (bf (nt b))] at q
    have g2 := g.same e2
    refine k_give g2 (ev_var rfl) (ev_fld (ev_var rfl) (fG_arrow T g2)) ev_c fun H3 g3 f3 => ?_
    refine k_turn g3 (ev_var rfl) fun H4 g4 f4 => ?_
    exact fin_told g4 rfl ev_c (ev_var rfl) (((q.same e2).step g3 f3).step g4 f4)
  · rw [if_neg (fun y => y (bt (nf b)))] at q
    have g2 := g.same e2
    refine k_turn g2 (ev_var rfl) fun H4 g4 f4 => ?_
    exact fin_told g4 rfl ev_c (ev_var rfl) ((q.same e2).step g4 f4)
theorem pure_miss (T : Txt K mg A) (h : sp_miss K A vs H Q E) : t_miss K A { nx := fun _ H' => Q .non H', rt := Q } (start ["game", "number", "ring", "found"] vs) H := by
  obtain ⟨v, L, o, n, r, rfl, hg, ok, q⟩ := h
  refine head_P hg (ev_var rfl) (ev_andV (c_is_number (ev_var rfl)) fun _ => c_is_truth (ev_var rfl)) q rfl (fun _ => rfl) fun m H1 eo ev _ e1 g q' => ?_
  clear q
  subst ev eo
  have q := q'
  have ok : m.Ok := ok
  refine sq_if (et_test (ev_eq (ev_fld (ev_var rfl) (fG_ball T g)) ev_c)) (fun b H2 e2 => ?_) (fun b H2 e2 => ?_)
  · rw [if_pos (bt b)] at q
    exact fin_num (o := some m) ⟨rfl, g.same e2⟩ rfl ev_c (q.same e2)
  rw [if_neg (bf b)] at q
  have hs : Ct.isSide m.ball = true := ok.ball.resolve_left (bf b)
  have g2 := g.same e2
  have q := q.same e2
  cases hf : (m.team m.ball).findC n with
  | none =>
    rw [hf] at q
    refine sq_if (et_test (ev_isN (c_on_court_no (g2.team m.ball) (ev_team T g2 (ev_var rfl) (ev_fld (ev_var rfl) (fG_ball T g2)) hs) (ev_var rfl) hf))) (fun _ H3 e3 => ?_) (fun b => by cases b)
    exact fin_num (o := some m) ⟨rfl, g2.same e3⟩ rfl ev_c (q.same e3)
  | some j =>
    rw [hf] at q
    obtain ⟨a, p, ha, hp, _, _⟩ := (g2.team m.ball).at_ hf
    refine sq_if (et_test (ev_isR (c_on_court_at (g2.team m.ball) (ev_team T g2 (ev_var rfl) (ev_fld (ev_var rfl) (fG_ball T g2)) hs) (ev_var rfl) hf ha))) (fun b => by cases b) (fun _ H3 e3 => ?_)
    have g3 := g2.same e3
    refine k_miss g3 (ev_var rfl) (ev_fld (ev_var rfl) (fG_ball T g3)) (ev_var rfl) fun H4 g4 f4 => ?_
    exact fin_told g4 rfl ev_c (ev_var rfl) ((q.same e3).step g4 f4)
theorem pure_basket (T : Txt K mg A) (h : sp_basket K A vs H Q E) : t_basket K A { nx := fun _ H' => Q .non H', rt := Q } (start ["game", "number", "points", "found", "team", "player"] vs) H := by
  obtain ⟨v, L, o, n, pt, rfl, hg, ok, q⟩ := h
  refine head_P hg (ev_var rfl) (ev_andV (c_is_number (ev_var rfl)) fun _ => ev_within ev_c (ev_var rfl) ev_c) q rfl (fun _ => rfl) fun m H1 eo ev _ e1 g q' => ?_
  clear q
  subst ev eo
  have q := q'
  have ok : m.Ok := ok
  refine sq_if (et_test (ev_eq (ev_fld (ev_var rfl) (fG_ball T g)) ev_c)) (fun b H2 e2 => ?_) (fun b H2 e2 => ?_)
  · rw [if_pos (bt b)] at q
    exact fin_num (o := some m) ⟨rfl, g.same e2⟩ rfl ev_c (q.same e2)
  rw [if_neg (bf b)] at q
  have hs : Ct.isSide m.ball = true := ok.ball.resolve_left (bf b)
  have g2 := g.same e2
  have q := q.same e2
  refine s_asg (ev_team T g2 (ev_var rfl) (ev_fld (ev_var rfl) (fG_ball T g2)) hs) fun H3 e3 => ?_
  have g3 := g2.same e3
  have q := q.same e3
  cases hf : (m.team m.ball).findC n with
  | none =>
    rw [hf] at q
    refine s_asg (c_on_court_no (g3.team m.ball) (ev_var rfl) (ev_var rfl) hf) fun H4 e4 => ?_
    refine sq_if (et_test (ev_isN (ev_var rfl))) (fun _ H5 e5 => ?_) (fun b => by cases b)
    exact fin_num (o := some m) ⟨rfl, (g3.same e4).same e5⟩ rfl ev_c ((q.same e4).same e5)
  | some j =>
    rw [hf] at q
    obtain ⟨a, p, ha, hp, _, pa⟩ := (g3.team m.ball).at_ hf
    refine s_asg (c_on_court_at (g3.team m.ball) (ev_var rfl) (ev_var rfl) hf ha) fun H4 e4 => ?_
    refine sq_if (et_test (ev_isR (ev_var rfl))) (fun b => by cases b) (fun _ H5 e5 => ?_)
    have g5 := (g3.same e4).same e5
    refine addP_points T ((pa.same e4).same e5) (ev_var rfl) (ev_var rfl) fun H6 h6 f6 => ?_
    have g6 := g5.setP m.ball (F := fun r => { r with points := r.points + pt }) ha hp f6 h6
    refine k_give g6 (ev_var rfl) (c_other (ev_is (ev_fld (ev_var rfl) (fG_ball T g6)) (by unfold Ct.Gm.put; split <;> rfl))) ev_c fun H7 g7 f7 => ?_
    have q := (((q.same e4).same e5).step g6 (f6.own (own_p ha))).step g7 f7
    have t7 := g7.team m.ball
    rw [show ((m.put m.ball ((m.team m.ball).at j fun r => { r with points := r.points + pt })).give (1 - m.ball) 240).team m.ball = _ from (team_ab rfl rfl m.ball).trans put_teamG] at t7
    exact fin_told g7 rfl (c_points_of (ev_var rfl) t7) (ev_var rfl) q
theorem pure_tip (T : Txt K mg A) (h : sp_tip K A vs H Q E) : t_tip K A { nx := fun _ H' => Q .non H', rt := Q } (start ["game", "side"] vs) H := by
  obtain ⟨v, L, o, s, rfl, hg, q⟩ := h
  unfold Ct.tip at q
  refine sq_if (et_not (et_B (c_is_side (ev_var rfl)))) (fun b H1 e1 => ?_) (fun b H1 e1 => ?_)
  · rw [if_pos (nt b)] at q
    exact fin_num (hg.same e1) rfl ev_c (q.same e1)
  rw [if_neg (by rw [nf b]; simp)] at q
  have hg := hg.same e1
  have q := q.same e1
  cases o with
  | none =>
    have e : v = .non := hg
    subst e
    refine sq_if (et_or (b := false) (et_test (ev_isN (ev_var rfl))) fun z => by cases z) (fun b H2 e2 => ?_) (fun b => by cases b)
    exact fin_num (o := none) (v := .non) rfl rfl ev_c (q.same e2)
  | some m =>
    obtain ⟨rfl, g⟩ := hg
    have q : Ans A L (.ref L.g) (some m) H1 (if 0 < m.period then (some m, [-2]) else Ct.told ({ m with arrow := s } : Ct.Gm).nextP 0) Q := q
    refine sq_if (et_or (et_test (ev_isR (ev_var rfl))) fun _ => et_test (ev_gt (ev_fld (ev_clock T g (ev_var rfl)) (fC_period T g)) ev_c)) (fun b H2 e2 => ?_) (fun b H2 e2 => ?_)
    · rw [Bool.false_or] at b
      rw [if_pos (bt b)] at q
      exact fin_num (o := some m) ⟨rfl, g.same e2⟩ rfl ev_c (q.same e2)
    · rw [Bool.false_or] at b
      rw [if_neg (bf b)] at q
      refine wG_arrow T (g.same e2) (ev_var rfl) (ev_var rfl) fun H3 g3 f3 => ?_
      refine k_begin g3 (ev_var rfl) fun H4 g4 f4 => ?_
      exact fin_told g4 rfl ev_c (ev_var rfl) (((q.same e2).step g3 (f3.own own_g)).step g4 f4)
end
end CtW
/-! Promise gives reading: fouls, throws, the bench, the sheet. -/
namespace CtW
open PySem PySem.Spec PyProof.Rows L2 Evl
section
variable {K : PySem.W.Frag} {mg : Str → Option Value} {A : Ad} {vs : List V} {H H1 : Hp} {Q : VK} {E E' : XK} {σ : L2.St} {ta tb tc td te : TE} {D : Ends} {n s k z : Int} {x : TL} {t : Ct.Tm} {L : GL} {m m1 : Ct.Gm} {v : V} {o : Option Ct.Gm} {r : Bool} {rs : Ct.Rs}
theorem right_side {b : Bool} (h : (Ct.isSide s && b) = true) : Ct.isSide s = true := by
  rw [Bool.and_eq_true] at h; exact h.1
theorem pure_timeout (T : Txt K mg A) (h : sp_timeout K A vs H Q E) : t_timeout K A { nx := fun _ H' => Q .non H', rt := Q } (start ["game", "side", "found", "team"] vs) H := by
  obtain ⟨v, L, o, s, rfl, hg, q⟩ := h
  refine head_R hg (ev_var rfl) (c_is_side (ev_var rfl)) q rfl (fun _ => rfl) fun m H1 eo ev hr e1 g q' => ?_
  clear q
  subst ev
  have q := q'
  have hs := right_R hr
  refine s_asg (ev_team T g (ev_var rfl) (ev_var rfl) hs) fun H2 e2 => ?_
  have g2 := g.same e2
  have q := q.same e2
  refine sq_if (et_test (ev_ge (ev_fld (ev_var rfl) (fT_timeouts T (g2.team s).hd)) (ev_get (ea_cons (ev_fld (ev_clock T g2 (ev_var rfl)) (fC_period T g2)) ea_nil) fun H3 e3 Q q E => ⟨m.period, rfl, q⟩))) (fun b H3 e3 => ?_) (fun b H3 e3 => ?_)
  · rw [if_pos (bt b)] at q
    exact fin_num (o := some m) ⟨rfl, g2.same e3⟩ rfl ev_c (q.same e3)
  · rw [if_neg (bf b)] at q
    have g3 := g2.same e3
    refine addT_timeouts T (g3.team s).hd (ev_var rfl) ev_c fun H4 h4 f4 => ?_
    have g4 := g3.setT s f4 h4 rfl
    have t4 := g4.team s
    rw [put_teamG] at t4
    exact fin_num (o := some _) ⟨rfl, g4⟩ rfl (ev_fld (ev_var rfl) (fT_timeouts T t4.hd)) ((q.same e3).step g4 (f4.own (own_t s)))
theorem pure_enter (T : Txt K mg A) (h : sp_enter K A vs H Q E) : t_enter K A { nx := fun _ H' => Q .non H', rt := Q } (start ["game", "side", "comes", "found", "team", "coming"] vs) H := by
  obtain ⟨v, L, o, s, y, rfl, hg, q⟩ := h
  refine head_R hg (ev_var rfl) (ev_andV (c_is_side (ev_var rfl)) fun _ => c_is_number (ev_var rfl)) q rfl (fun _ => rfl) fun m H1 eo ev hr e1 g q' => ?_
  clear q
  subst ev
  have q := q'
  have hs := right_side (right_R hr)
  refine s_asg (ev_team T g (ev_var rfl) (ev_var rfl) hs) fun H2 e2 => ?_
  have g2 := g.same e2
  have q := q.same e2
  cases hf : (m.team s).findB y with
  | none =>
    rw [hf] at q
    refine s_asg (c_on_bench_no (g2.team s) (ev_var rfl) (ev_var rfl) hf) fun H3 e3 => ?_
    refine sq_if (et_or (et_test (ev_ge (c_many_on_court (ev_var rfl) ((g2.same e3).team s)) ev_c)) fun _ => et_test (ev_isN (ev_var rfl))) (fun b H4 e4 => ?_) (fun b => by rw [Bool.or_true] at b; cases b)
    exact fin_num (o := some m) ⟨rfl, (g2.same e3).same e4⟩ rfl ev_c ((q.same e3).same e4)
  | some j =>
    rw [hf] at q
    obtain ⟨a, p, ha, hp, _, pa⟩ := (g2.team s).at_ hf
    have q : Ans A L (.ref L.g) (some m) H2 (if 5 ≤ (m.team s).many then (some m, [-5]) else (some (m.put s ((m.team s).at j fun p => { p with onCourt := true })), [((m.team s).at j fun p => { p with onCourt := true }).many])) Q := q
    refine s_asg (c_on_bench_at (g2.team s) (ev_var rfl) (ev_var rfl) hf ha) fun H3 e3 => ?_
    have g3 := g2.same e3
    refine sq_if (et_or (et_test (ev_ge (c_many_on_court (ev_var rfl) (g3.team s)) ev_c)) fun _ => et_test (ev_isR (ev_var rfl))) (fun b H4 e4 => ?_) (fun b H4 e4 => ?_)
    · rw [Bool.or_false] at b
      rw [if_pos (bt b)] at q
      exact fin_num (o := some m) ⟨rfl, g3.same e4⟩ rfl ev_c ((q.same e3).same e4)
    · rw [Bool.or_false] at b
      rw [if_neg (bf b)] at q
      refine wP_on_court T ((pa.same e3).same e4) ev_c (ev_var rfl) fun H5 h5 f5 => ?_
      have g5 := (g3.same e4).setP s (F := fun p => { p with onCourt := true }) ha hp f5 h5
      have t5 := g5.team s
      rw [put_teamG] at t5
      exact fin_num (o := some _) ⟨rfl, g5⟩ rfl (c_many_on_court (ev_var rfl) t5) (((q.same e3).same e4).step g5 (f5.own (own_p ha)))
theorem pure_sub (T : Txt K mg A) (h : sp_sub K A vs H Q E) : t_sub K A { nx := fun _ H' => Q .non H', rt := Q } (start ["game", "side", "goes", "comes", "found", "leaving", "coming"] vs) H := by
  obtain ⟨v, L, o, s, y, z, rfl, hg, q⟩ := h
  refine head_R hg (ev_var rfl) (ev_andV (c_is_side (ev_var rfl)) fun _ => ev_andV (c_is_number (ev_var rfl)) fun _ => c_is_number (ev_var rfl)) q rfl (fun _ => rfl) fun m H1 eo ev hr e1 g q' => ?_
  clear q
  subst ev
  have q := q'
  have hs := right_side (right_R hr)
  cases hf : (m.team s).findC y with
  | none =>
    rw [hf] at q
    refine s_asg (c_on_court_no (g.team s) (ev_team T g (ev_var rfl) (ev_var rfl) hs) (ev_var rfl) hf) fun H2 e2 => ?_
    have g2 := g.same e2
    have fin : ∀ w H3, Same H2 H3 → (w = .non ∨ ∃ a, w = .ref a) → tSeq (tIfS (tOr (tTest (tOp rIsNo (tVar 5) (tC .non))) (tTest (tOp rIsNo (tVar 6) (tC .non)))) (tRet (tLst (tCons (tC (.int (-5))) tNil))) tNext) (tSeq (sFld K (tVar 5) (tC (.bl false)) "on_court") (tSeq (sFld K (tVar 6) (tC (.bl true)) "on_court") (tRet (tLst (tCons (tC (.int 0)) tNil)))))
        { nx := fun _ H' => Q .non H', rt := Q } [some (.ref L.g), some (.int s), some (.int y), some (.int z), some (.int 0), some .non, some w] H3 := by
      intro w H3 e3 hw
      refine sq_if (b := true) (et_is (et_or (b := true) (et_test (ev_isN (ev_var rfl))) fun z => by cases z) rfl) (fun _ H4 e4 => ?_) (fun b => by cases b)
      exact fin_num (o := some m) ⟨rfl, (g2.same e3).same e4⟩ rfl ev_c (((q.same e2).same e3).same e4)
    cases hb : (m.team s).findB z with
    | none =>
      exact s_asg (c_on_bench_no (g2.team s) (ev_team T g2 (ev_var rfl) (ev_var rfl) hs) (ev_var rfl) hb) fun H3 e3 => fin _ H3 e3 (.inl rfl)
    | some j =>
      obtain ⟨a, p, ha, hp, _, pa⟩ := (g2.team s).at_ hb
      exact s_asg (c_on_bench_at (g2.team s) (ev_team T g2 (ev_var rfl) (ev_var rfl) hs) (ev_var rfl) hb ha) fun H3 e3 => fin _ H3 e3 (.inr ⟨a, rfl⟩)
  | some i =>
    rw [hf] at q
    obtain ⟨a, p, ha, hp, cp, pa⟩ := (g.team s).at_ hf
    refine s_asg (c_on_court_at (g.team s) (ev_team T g (ev_var rfl) (ev_var rfl) hs) (ev_var rfl) hf ha) fun H2 e2 => ?_
    have g2 := g.same e2
    have q := q.same e2
    cases hb : (m.team s).findB z with
    | none =>
      rw [hb] at q
      refine s_asg (c_on_bench_no (g2.team s) (ev_team T g2 (ev_var rfl) (ev_var rfl) hs) (ev_var rfl) hb) fun H3 e3 => ?_
      refine sq_if (et_or (et_test (ev_isR (ev_var rfl))) fun _ => et_test (ev_isN (ev_var rfl))) (fun _ H4 e4 => ?_) (fun b => by cases b)
      exact fin_num (o := some m) ⟨rfl, (g2.same e3).same e4⟩ rfl ev_c ((q.same e3).same e4)
    | some j =>
      rw [hb] at q
      have q : Ans A L (.ref L.g) (some m) H2 (some (m.put s (((m.team s).at i fun p => { p with onCourt := false }).at j fun p => { p with onCourt := true })), [0]) Q := q
      obtain ⟨b, r, hb1, hr1, cb, pb⟩ := (g2.team s).at_ hb
      refine s_asg (c_on_bench_at (g2.team s) (ev_team T g2 (ev_var rfl) (ev_var rfl) hs) (ev_var rfl) hb hb1) fun H3 e3 => ?_
      refine sq_if (et_or (et_test (ev_isR (ev_var rfl))) fun _ => et_test (ev_isR (ev_var rfl))) (fun b => by cases b) (fun _ H4 e4 => ?_)
      have g4 := (g2.same e3).same e4
      have ij : i ≠ j := fun c => by
        subst c
        rw [hp] at hr1
        cases hr1
        simp only [Ct.onC, Ct.onB, Ct.Pl.isBench, Bool.and_eq_true, Bool.not_eq_true'] at cp cb
        rw [cp.2] at cb
        exact absurd cb.2.1 (by simp)
      refine wP_on_court T (((pa.same e2).same e3).same e4) ev_c (ev_var rfl) fun H5 h5 f5 => ?_
      have g5 := g4.setP s (F := fun p => { p with onCourt := false }) ha hp f5 h5
      have t5 := g5.team s
      rw [put_teamG] at t5
      have hr5 : ((m.team s).at i fun p => { p with onCourt := false }).players[j]? = some r := by
        show ((m.team s).players.modify i _)[j]? = some r
        rw [List.getElem?_modify, hr1]
        simp [ij]
      refine wP_on_court T (t5.p.at_ j b r hb1 hr5) ev_c (ev_var rfl) fun H6 h6 f6 => ?_
      have hr6 : ((m.put s ((m.team s).at i fun p => { p with onCourt := false })).team s).players[j]? = some r := by rw [put_teamG]; exact hr5
      have g6 := g5.setP s (F := fun p => { p with onCourt := true }) hb1 hr6 f6 h6
      rw [put_teamG, put_put] at g6
      exact fin_num (σ := [some (.ref L.g), some (.int s), some (.int y), some (.int z), some (.int 0), some (.ref a), some (.ref b)]) (D := { nx := fun _ H' => Q .non H', rt := Q }) (o := some _) ⟨rfl, g6⟩ rfl ev_c ((((q.same e3).same e4).step g5 (f5.own (own_p ha))).step g6 (f6.own (own_p hb1)))
theorem pure_sheet (T : Txt K mg A) (h : sp_sheet K A vs H Q E) : t_sheet K A { nx := fun _ H' => Q .non H', rt := Q } (start ["game", "side"] vs) H := by
  obtain ⟨v, L, o, s, rfl, hg, q⟩ := h
  unfold Ct.sheet at q
  refine sq_if (et_not (et_B (c_is_side (ev_var rfl)))) (fun b H1 e1 => ?_) (fun b H1 e1 => ?_)
  · rw [if_pos (nt b)] at q
    refine s_retL (el_lst (ea_cons ev_c ea_nil) (by simp)) fun p H2 n2 e2 h2 => ?_
    exact q H2 p (e1.trans e2) (fresh_back e1 n2) h2
  rw [if_neg (by rw [nf b]; simp)] at q
  have hg := hg.same e1
  cases o with
  | none =>
    have e : v = .non := hg
    subst e
    refine sq_if (et_test (ev_isN (ev_var rfl))) (fun b H2 e2 => ?_) (fun b => by cases b)
    refine s_retL (el_lst (ea_cons ev_c (ea_cons ev_c (ea_cons ev_c ea_nil))) (by simp)) fun p H3 n3 e3 h3 => ?_
    exact q H3 p ((e1.trans e2).trans e3) (fresh_back (e1.trans e2) n3) h3
  | some m =>
    obtain ⟨rfl, g⟩ := hg
    refine sq_if (et_test (ev_isR (ev_var rfl))) (fun b => by cases b) (fun b2 H2 e2 => ?_)
    refine s_rcall (ea_cons (ev_team T (g.same e2) (ev_var rfl) (ev_var rfl) (nf b)) ea_nil) fun H3 e3 => ⟨L.team s, m.team s, rfl, ((g.same e2).same e3).team s, fun H4 p e4 n4 h4 => ?_⟩
    exact q H4 p (((e1.trans e2).trans e3).trans e4) (fresh_back ((e1.trans e2).trans e3) n4) h4
theorem pure_now (T : Txt K mg A) (h : sp_now K A vs H Q E) : t_now K A { nx := fun _ H' => Q .non H', rt := Q } (start ["game"] vs) H := by
  obtain ⟨v, L, o, rfl, hg, q⟩ := h
  have len : ∀ o, ((Ct.standsO o).map V.int).length = 9 := fun o => by cases o <;> rfl
  have ev : Ev (tOp rNotNo (tVar 0) (tC .non)) (start ["game"] [v]) H (.bl o.isSome) := by
    cases o with
    | none =>
      have e : v = .non := hg
      subst e
      exact ev_notN (ev_var rfl)
    | some m =>
      obtain ⟨rfl, g⟩ := hg
      exact ev_notR (ev_var rfl)
  refine s_retL (el_cat (.of (el_lst (ea_cons (ev_int1 ev) ea_nil) (by simp))) (.of (c_stands hg (ev_var rfl))) (by rw [len]; show 1 + 9 ≤ 100000; decide)) fun p H1 n1 e1 h1 => ?_
  exact q H1 p e1 n1 h1
theorem pure_foul (T : Txt K mg A) (h : sp_foul K A vs H Q E) : t_foul K A { nx := fun _ H' => Q .non H', rt := Q } (start ["game", "side", "number", "kind", "shot", "found", "team", "player"] vs) H := by
  obtain ⟨v, L, o, s, n, k, z, rfl, hg, q⟩ := h
  refine head_P hg (ev_var rfl) (c_is_right_foul (ev_var rfl) (ev_var rfl) (ev_var rfl) (ev_var rfl)) q rfl (fun _ => rfl) fun m H1 eo ev hr e1 g q' => ?_
  clear q
  subst ev
  have q := q'
  have hs := right_side (right_P hr)
  refine s_asg (ev_team T g (ev_var rfl) (ev_var rfl) hs) fun H2 e2 => ?_
  have g2 := g.same e2
  have q := q.same e2
  cases hf : (m.team s).findC n with
  | none =>
    rw [hf] at q
    refine s_asg (c_on_court_no (g2.team s) (ev_var rfl) (ev_var rfl) hf) fun H3 e3 => ?_
    refine sq_if (et_test (ev_isN (ev_var rfl))) (fun _ H4 e4 => ?_) (fun b => by cases b)
    exact fin_num (o := some m) ⟨rfl, (g2.same e3).same e4⟩ rfl ev_c ((q.same e3).same e4)
  | some i =>
    rw [hf] at q
    have q : Ans A L (.ref L.g) (some m) H2 (if m.strange s k z = true then (some m, [-4]) else Ct.told (m.fouled s i k z) ((m.team s).fouls + 1)) Q := q
    obtain ⟨a, p, ha, hp, cp, pa⟩ := (g2.team s).at_ hf
    refine s_asg (c_on_court_at (g2.team s) (ev_var rfl) (ev_var rfl) hf ha) fun H3 e3 => ?_
    refine sq_if (et_test (ev_isR (ev_var rfl))) (fun b => by cases b) (fun _ H4 e4 => ?_)
    have g4 := (g2.same e3).same e4
    refine sq_if (et_B (c_is_shot_strange g4 (ev_var rfl) (ev_var rfl) (ev_var rfl) (ev_var rfl))) (fun b H5 e5 => ?_) (fun b H5 e5 => ?_)
    · rw [if_pos b] at q
      exact fin_num (o := some m) ⟨rfl, g4.same e5⟩ rfl ev_c (((q.same e3).same e4).same e5)
    rw [if_neg (by rw [b]; simp)] at q
    have g5 := g4.same e5
    have q := ((q.same e3).same e4).same e5
    refine s_call (ea_cons (ev_var rfl) (ea_cons (ev_var rfl) ea_nil)) fun H6 e6 => ⟨a, p, k, rfl, (((pa.same e3).same e4).same e5).same e6, fun H7 h7 f7 => ?_⟩
    have g7 := (g5.same e6).setP s (F := fun p => p.noted k) ha hp f7 h7
    have t7 := g7.team s
    rw [put_teamG] at t7
    refine addT_fouls T t7.hd (ev_var rfl) ev_c fun H8 h8 f8 => ?_
    have g8 := g7.setT s f8 h8 (by rw [put_teamG])
    rw [put_put] at g8
    have q := ((q.same e6).step g7 (f7.own (own_p ha))).step g8 (f8.own (own_t s))
    generalize hu : (m.put s { ((m.team s).at i fun p => p.noted k) with fouls := ((m.team s).at i fun p => p.noted k).fouls + 1 }) = u at g8 q
    have ut : u.team s = { ((m.team s).at i fun p => p.noted k) with fouls := (m.team s).fouls + 1 } := by
      rw [← hu, put_teamG]; rfl
    have q : Ans A L (.ref L.g) (some u) H8 (Ct.told (if (u.team s).many < 2 then u.over (1 - s) else u.bring s k z) ((m.team s).fouls + 1)) Q := by
      rw [ut, ← hu]; exact q
    have last : ∀ H9 w, GameAt A H9 L w → w.a = u.a → w.b = u.b → Ans A L (.ref L.g) (some w) H9 (Ct.told w ((m.team s).fouls + 1)) Q → tRet (tOp rCat (tLst (tCons (tFld K (tVar 6) "fouls") tNil)) (tCall (sp_stands K A) [] E0 (tCons (tVar 0) tNil)))
        { nx := fun _ H' => Q .non H', rt := Q } [some (.ref L.g), some (.int s), some (.int n), some (.int k), some (.int z), some (.int 0), some (.ref (L.team s).t), some (.ref a)] H9 := by
      intro H9 w g9 wa wb q9
      have t9 := (g9.team s).hd
      rw [team_ab wa wb s, ut] at t9
      exact fin_told g9 rfl (ev_fld (ev_var rfl) (fT_fouls T t9)) (ev_var rfl) q9
    refine s_if (et_test (ev_lt (c_many_on_court (ev_var rfl) (g8.team s)) ev_c)) (fun b H9 e9 => ?_) (fun b H9 e9 => ?_)
    · rw [if_pos (bt b)] at q
      exact k_over (g8.same e9) (ev_var rfl) (c_other (ev_var rfl)) fun H10 g10 f10 => last H10 _ g10 rfl rfl ((q.same e9).step g10 f10)
    · rw [if_neg (bf b)] at q
      exact k_bring (g8.same e9) hs (ev_var rfl) (ev_var rfl) (ev_var rfl) (ev_var rfl) fun H10 g10 f10 => last H10 _ g10 (bring_ab u s k z).1 (bring_ab u s k z).2 ((q.same e9).step g10 f10)
theorem pure_throw (T : Txt K mg A) (h : sp_throw K A vs H Q E) : t_throw K A { nx := fun _ H' => Q .non H', rt := Q } (start ["game", "number", "good", "found", "team", "player"] vs) H := by
  obtain ⟨v, L, o, n, gd, rfl, hg, ok, q⟩ := h
  refine head_R hg (ev_var rfl) (ev_andV (c_is_number (ev_var rfl)) fun _ => c_is_truth (ev_var rfl)) q rfl (fun _ => rfl) fun m H1 eo ev hr e1 g q' => ?_
  clear q
  subst ev eo
  have q := q'
  have ok : m.Ok := ok
  refine sq_if (et_test (ev_eq (ev_fld (ev_throws T g (ev_var rfl)) (fH_many T g)) ev_c)) (fun b H2 e2 => ?_) (fun b H2 e2 => ?_)
  · rw [if_pos (bt b)] at q
    exact fin_num (o := some m) ⟨rfl, g.same e2⟩ rfl ev_c (q.same e2)
  rw [if_neg (bf b)] at q
  have hs := ok.side (bf b)
  have g2 := g.same e2
  have q := q.same e2
  refine sq_if (et_B (c_is_any_short g2 (ev_var rfl))) (fun b H3 e3 => ?_) (fun b H3 e3 => ?_)
  · rw [if_pos b] at q
    exact fin_num (o := some m) ⟨rfl, g2.same e3⟩ rfl ev_c (q.same e3)
  rw [if_neg (by rw [b]; simp)] at q
  have g3 := g2.same e3
  have q := q.same e3
  refine s_asg (ev_team T g3 (ev_var rfl) (ev_fld (ev_throws T g3 (ev_var rfl)) (fH_side T g3)) hs) fun H4 e4 => ?_
  have g4 := g3.same e4
  have q := q.same e4
  cases hf : (m.team m.side).findC n with
  | none =>
    rw [hf] at q
    refine s_asg (c_on_court_no (g4.team m.side) (ev_var rfl) (ev_var rfl) hf) fun H5 e5 => ?_
    refine sq_if (et_test (ev_isN (ev_var rfl))) (fun _ H6 e6 => ?_) (fun b => by cases b)
    exact fin_num (o := some m) ⟨rfl, (g4.same e5).same e6⟩ rfl ev_c ((q.same e5).same e6)
  | some i =>
    rw [hf] at q
    have q : Ans A L (.ref L.g) (some m) H4 (Ct.told (m.thrown i gd) ((m.thrown i gd).team m.side).points) Q := q
    obtain ⟨a, p, ha, hp, cp, pa⟩ := (g4.team m.side).at_ hf
    refine s_asg (c_on_court_at (g4.team m.side) (ev_var rfl) (ev_var rfl) hf ha) fun H5 e5 => ?_
    refine sq_if (et_test (ev_isR (ev_var rfl))) (fun b => by cases b) (fun _ H6 e6 => ?_)
    have g6 := (g4.same e5).same e6
    refine addP_points T ((pa.same e5).same e6) (ev_var rfl) (ev_var rfl) fun H7 h7 f7 => ?_
    have g7 := g6.setP m.side (F := fun r => { r with points := r.points + gd }) ha hp f7 h7
    have q := ((q.same e5).same e6).step g7 (f7.own (own_p ha))
    refine decH_many T g7 (ev_throws T g7 (ev_var rfl)) ev_c fun H8 g8 f8 => ?_
    have q := q.step g8 (f8.own own_h)
    have em : (m.put m.side ((m.team m.side).at i fun r => { r with points := r.points + gd })).many = m.many := by
      unfold Ct.Gm.put; split <;> rfl
    rw [em] at g8 q
    generalize hu : ({ (m.put m.side ((m.team m.side).at i fun r => { r with points := r.points + gd })) with many := m.many - 1 } : Ct.Gm) = u at g8 q
    have et : m.thrown i gd = if u.many = 0 then u.behindLast gd else u := by
      rw [← hu]; rfl
    rw [et] at q
    have last : ∀ H9 w, GameAt A H9 L w → Ans A L (.ref L.g) (some w) H9 (Ct.told w (w.team m.side).points) Q → tRet (tOp rCat (tLst (tCons (tCall (sp_points_of K A) [] E0 (tCons (tVar 4) tNil)) tNil)) (tCall (sp_stands K A) [] E0 (tCons (tVar 0) tNil)))
        { nx := fun _ H' => Q .non H', rt := Q } [some (.ref L.g), some (.int n), some (.int gd), some (.int 0), some (.ref (L.team m.side).t), some (.ref a)] H9 := by
      intro H9 w g9 q9
      exact fin_told g9 rfl (c_points_of (ev_var rfl) (g9.team m.side)) (ev_var rfl) q9
    refine sq_if (et_test (ev_eq (ev_fld (ev_throws T g8 (ev_var rfl)) (fH_many T g8)) ev_c)) (fun b H9 e9 => ?_) (fun b H9 e9 => ?_)
    · rw [if_pos (bt b)] at q
      exact k_behind (g8.same e9) (ev_var rfl) (ev_var rfl) fun H10 g10 f10 => last H10 _ g10 ((q.same e9).step g10 f10)
    · rw [if_neg (bf b)] at q
      exact last H9 u (g8.same e9) (q.same e9)
end
end CtW
/-! Promise gives reading: the table. -/
namespace CtW
open PySem PySem.Spec PyProof.Rows L2 Evl
section
variable {K : PySem.W.Frag} {mg : Str → Option Value} {A : Ad} {vs : List V} {H H1 : Hp} {Q : VK} {E E' : XK} {σ : L2.St} {ta tb tc td te : TE} {D : Ends} {n s k z : Int} {x : TL} {t : Ct.Tm} {L : GL} {m m1 : Ct.Gm} {v : V} {o : Option Ct.Gm} {r : Bool} {rs : Ct.Rs}
theorem ev_at {l : Addr} {ns : List Int} {i : Nat} (hl : SqL K H l (ns.map V.int)) (ha : Ev ta σ H (.ref l)) (hi : i < ns.length) : Ev (tOp (rIxL K) ta (tC (.int (i : Int)))) σ H (.int (Ct.itm ns i)) := by
  refine ev_op ha ev_c (rv_ixL hl (atI_nat (j := i) ?_))
  rw [List.getElem?_map]
  unfold Ct.itm
  rw [List.getD_eq_getElem?_getD, List.getElem?_eq_getElem hi]
  rfl
theorem ev_item {l : Addr} {ns : List Int} {i : Nat} {y : Int} (hl : SqL K H l (ns.map V.int)) (ha : Ev ta σ H (.ref l)) (hb : Ev tb σ H (.int (i : Int))) (hi : ns[i]? = some y) : Ev (tOp (rIxL K) ta tb) σ H (.int y) := by
  refine ev_op ha hb (rv_ixL hl (atI_nat (j := i) ?_))
  rw [List.getElem?_map, hi]; rfl
theorem ev_cnt (h : Ev ta σ H (.int n)) (h1 : 2 ≤ n) (h2 : n ≤ 15) : Ev (tCnt ta) σ H (.int (Ct.count n)) := fun H1 e Q q => h H1 e _ fun H2 e2 => ⟨n, rfl, h1, h2, q H2 e2⟩
theorem s_getG {sp : Sp} {E : XK} {t : TA} {vs : List V} {g : TG} (ha : EvA t σ H vs) (h : ∀ H1, Same H H1 → sp vs H1 (fun x H2 => g x σ H2 D.nx) E) : tAsg (tCall sp [] E t) g D σ H := ha H (Ex.refl H) _ fun H1 e1 => by
  show sp (vs ++ []) H1 _ E
  rw [List.append_nil]; exact h H1 e1
/-- xs.append(e), any size -/
theorem s_appN {l : Addr} {xs : List V} {y : V} (hl : H l = some (.lst xs)) (ha : Ev ta σ H (.ref l)) (h : Ev te σ H y) (hz : xs.length ≤ 10000100) (k : ∀ H1, Ex H H1 → D.nx σ (upd H1 l (.lst (xs ++ [y])))) :
    tDrop (tBM K "list" rAppend ta (tCons te tNil)) D σ H := ha H (Ex.refl H) _ fun H1 e1 =>
  ⟨Or.inl ⟨rfl, xs, sq_of (e1 l _ hl)⟩, h H1 e1 _ fun H2 e2 => ⟨l, xs, y, rfl, rfl, e2 l _ (e1 l _ hl), Nat.lt_of_le_of_lt hz (by decide), k H2 (e1.trans e2)⟩⟩
/-- (a, b, c) of two new lists and a value -/
theorem eu_tup3 {xs ys : List V} (ha : EvL ta σ H xs) (hb : EvL tb σ H ys) (hc : Ev tc σ H v) (k : ∀ p1 p2 p3 H1, H p1 = none → H p2 = none → H p3 = none → Same H H1 → H1 p1 = some (.lst xs) → H1 p2 = some (.lst ys) → H1 p3 = some (.tup [.ref p1, .ref p2, v]) → Q (.ref p3) H1) : tTup (tCons ta (tCons tb (tCons tc tNil))) σ H Q :=
  ha H (Ex.refl H) _ fun p1 H1 n1 e1 h1 => hb H1 e1 _ fun p2 H2 n2 e2 h2 => hc H2 (e1.trans e2) _ fun H3 e3 => ⟨by show 3 ≤ sizeLine; decide, fun p3 n3 =>
    k p1 p2 p3 _ n1 (fresh_back e1 n2) (fresh_back ((e1.trans e2).trans e3) n3) (((e1.trans e2).trans e3).trans (Ex.new n3)) ((Ex.new n3) _ _ (e3 _ _ (e2 _ _ h1))) ((Ex.new n3) _ _ (e3 _ _ h2)) upd_same⟩
/-- (a, b, c) of a value and two new lists -/
theorem eu_tup3' {xs ys : List V} (hc : Ev tc σ H v) (ha : EvL ta σ H xs) (hb : EvL tb σ H ys) (k : ∀ p1 p2 p3 H1, H p1 = none → H p2 = none → H p3 = none → Same H H1 → H1 p1 = some (.lst xs) → H1 p2 = some (.lst ys) → H1 p3 = some (.tup [v, .ref p1, .ref p2]) → Q (.ref p3) H1) : tTup (tCons tc (tCons ta (tCons tb tNil))) σ H Q :=
  hc H (Ex.refl H) _ fun H0 e0 => ha H0 e0 _ fun p1 H1 n1 e1 h1 => hb H1 (e0.trans e1) _ fun p2 H2 n2 e2 h2 => ⟨by show 3 ≤ sizeLine; decide, fun p3 n3 =>
    k p1 p2 p3 _ (fresh_back e0 n1) (fresh_back (e0.trans e1) n2) (fresh_back ((e0.trans e1).trans e2) n3) (((e0.trans e1).trans e2).trans (Ex.new n3)) ((Ex.new n3) _ _ (e2 _ _ h1)) ((Ex.new n3) _ _ h2) upd_same⟩
theorem pure_rows_at (T : Txt K mg A) (h : sp_rows_at K A vs H Q E) : t_rows_at K A { nx := fun _ H' => Q .non H', rt := Q } (start ["calls", "at", "middle", "end"] vs) H := by
  obtain ⟨c, l, pre, xs, ys, rest, rfl, hl, el, q⟩ := h
  have i1 : l[pre.length]? = some (xs.length : Int) := by rw [el]; simp
  have i2 : l[pre.length + 1 + xs.length]? = some (ys.length : Int) := by
    rw [el, List.getElem?_append_right (by omega)]
    have : pre.length + 1 + xs.length - pre.length = xs.length + 1 := by omega
    rw [this, List.getElem?_cons_succ]
    simp
  have len : l.length = pre.length + 1 + xs.length + 1 + ys.length + rest.length := by rw [el]; simp; omega
  refine s_asg (ev_is (ev_add (ev_add (ev_var rfl) ev_c) (ev_item hl (ev_var rfl) (ev_var rfl) i1)) (w := .int ((pre.length + 1 + xs.length : Nat) : Int)) (congrArg V.int (by omega))) fun H1 e1 => ?_
  have hl1 := ex_l e1 hl
  refine s_asg (ev_is (ev_add (ev_add (ev_var rfl) ev_c) (ev_item hl1 (ev_var rfl) (ev_var rfl) i2)) (w := .int ((pre.length + 1 + xs.length + 1 + ys.length : Nat) : Int)) (congrArg V.int (by omega))) fun H2 e2 => ?_
  have hl2 := ex_l e2 hl1
  have s1 : EvL (tSl (rSlL K) (tVar 0) (tPart (tOp rAddI (tVar 1) (tC (.int 1)))) (tPart (tVar 2))) [some (.ref c), some (.int (pre.length : Nat)), some (.int ((pre.length + 1 + xs.length : Nat) : Int)), some (.int ((pre.length + 1 + xs.length + 1 + ys.length : Nat) : Int))] H2 (xs.map V.int) := by
    have := el_sl (σ := [some (.ref c), some (.int (pre.length : Nat)), some (.int ((pre.length + 1 + xs.length : Nat) : Int)), some (.int ((pre.length + 1 + xs.length + 1 + ys.length : Nat) : Int))]) (te := tVar 0) (tl := tPart (tOp rAddI (tVar 1) (tC (.int 1)))) (th := tPart (tVar 2)) (lo := some ((pre.length + 1 : Nat) : Int)) (hi := some ((pre.length + 1 + xs.length : Nat) : Int))
      (ev_var rfl) (eo_some (ev_is (ev_add (ev_var rfl) ev_c) (congrArg V.int (by omega)))) (eo_some (ev_var rfl)) hl2
    rw [cut_mid (by omega) (by omega)] at this
    have e : (l.drop (pre.length + 1)).take (pre.length + 1 + xs.length - (pre.length + 1)) = xs := by
      have : l = (pre ++ [(xs.length : Int)]) ++ (xs ++ (ys.length : Int) :: (ys ++ rest)) := by rw [el]; simp
      rw [this, List.drop_append_of_le_length (by simp), List.drop_of_length_le (by simp), List.nil_append, show pre.length + 1 + xs.length - (pre.length + 1) = xs.length by omega, List.take_append_of_le_length (Nat.le_refl _), List.take_length]
    rw [e] at this
    exact this
  have s2 : EvL (tSl (rSlL K) (tVar 0) (tPart (tOp rAddI (tVar 2) (tC (.int 1)))) (tPart (tVar 3))) [some (.ref c), some (.int (pre.length : Nat)), some (.int ((pre.length + 1 + xs.length : Nat) : Int)), some (.int ((pre.length + 1 + xs.length + 1 + ys.length : Nat) : Int))] H2 (ys.map V.int) := by
    have := el_sl (σ := [some (.ref c), some (.int (pre.length : Nat)), some (.int ((pre.length + 1 + xs.length : Nat) : Int)), some (.int ((pre.length + 1 + xs.length + 1 + ys.length : Nat) : Int))]) (te := tVar 0) (tl := tPart (tOp rAddI (tVar 2) (tC (.int 1)))) (th := tPart (tVar 3)) (lo := some ((pre.length + 1 + xs.length + 1 : Nat) : Int)) (hi := some ((pre.length + 1 + xs.length + 1 + ys.length : Nat) : Int))
      (ev_var rfl) (eo_some (ev_is (ev_add (ev_var rfl) ev_c) (congrArg V.int (by omega)))) (eo_some (ev_var rfl)) hl2
    rw [cut_mid (by omega) (by omega)] at this
    have e : (l.drop (pre.length + 1 + xs.length + 1)).take (pre.length + 1 + xs.length + 1 + ys.length - (pre.length + 1 + xs.length + 1)) = ys := by
      have : l = (pre ++ [(xs.length : Int)] ++ xs ++ [(ys.length : Int)]) ++ (ys ++ rest) := by rw [el]; simp
      rw [this, List.drop_append_of_le_length (by simp; omega), List.drop_of_length_le (by simp; omega), List.nil_append, show pre.length + 1 + xs.length + 1 + ys.length - (pre.length + 1 + xs.length + 1) = ys.length by omega, List.take_append_of_le_length (Nat.le_refl _), List.take_length]
    rw [e] at this
    exact this
  have e12 := e1.trans e2
  exact eu_tup3 s1 s2 (ev_var rfl) fun p1 p2 p3 H3 n1 n2 n3 e3 h1 h2 h3 => q H3 p1 p2 p3 (e12.trans e3) (fresh_back e12 n1) (fresh_back e12 n2) (fresh_back e12 n3) h1 h2 h3
theorem pure_in_play (T : Txt K mg A) (h : sp_in_play K A vs H Q E) : t_in_play K A { nx := fun _ H' => Q .non H', rt := Q } (start ["game", "word", "told"] vs) H := by
  obtain ⟨v, L, o, n, l, ns, rfl, hg, ok, hl, h2, h8, hc, q⟩ := h
  unfold Ct.inPlay at q
  refine sq_if (et_test (ev_eq (ev_var rfl) ev_c)) (fun b H1 e1 => ?_) (fun b H1 e1 => ?_)
  · rw [if_pos (bt b)] at q
    rw [bt b] at hc
    have hc : ns.length = 1 := hc
    exact s_rcall (ea_cons (ev_var rfl) (ea_cons (ev_at (i := 0) (ex_l e1 hl) (ev_var rfl) (by omega)) ea_nil)) fun H2 e2 => ⟨v, L, o, _, rfl, hg.same (e1.trans e2), q.same (e1.trans e2)⟩
  rw [if_neg (bf b)] at q
  refine sq_if (et_test (ev_eq (ev_var rfl) ev_c)) (fun b H2 e2 => ?_) (fun b H2 e2 => ?_)
  · rw [if_pos (bt b)] at q
    rw [bt b] at hc
    have hc : ns.length = 1 := hc
    have e2 := e1.trans e2
    exact s_rcall (ea_cons (ev_var rfl) (ea_cons (ev_at (i := 0) (ex_l e2 hl) (ev_var rfl) (by omega)) ea_nil)) fun H3 e3 => ⟨v, L, o, _, rfl, hg.same (e2.trans e3), q.same (e2.trans e3)⟩
  rw [if_neg (bf b)] at q
  have e2 := e1.trans e2
  refine sq_if (et_test (ev_eq (ev_var rfl) ev_c)) (fun b H3 e3 => ?_) (fun b H3 e3 => ?_)
  · rw [if_pos (bt b)] at q
    rw [bt b] at hc
    have hc : ns.length = 2 := hc
    have e3 := e2.trans e3
    exact s_rcall (ea_cons (ev_var rfl) (ea_cons (ev_at (i := 0) (ex_l e3 hl) (ev_var rfl) (by omega)) (ea_cons (ev_at (i := 1) (ex_l e3 hl) (ev_var rfl) (by omega)) ea_nil))) fun H4 e4 => ⟨v, L, o, _, _, rfl, hg.same (e3.trans e4), ok, q.same (e3.trans e4)⟩
  rw [if_neg (bf b)] at q
  have e3 := e2.trans e3
  refine sq_if (et_test (ev_eq (ev_var rfl) ev_c)) (fun b H4 e4 => ?_) (fun b H4 e4 => ?_)
  · rw [if_pos (bt b)] at q
    rw [bt b] at hc
    have hc : ns.length = 2 := hc
    have e4 := e3.trans e4
    exact s_rcall (ea_cons (ev_var rfl) (ea_cons (ev_at (i := 0) (ex_l e4 hl) (ev_var rfl) (by omega)) (ea_cons (ev_at (i := 1) (ex_l e4 hl) (ev_var rfl) (by omega)) ea_nil))) fun H5 e5 => ⟨v, L, o, _, _, rfl, hg.same (e4.trans e5), ok, q.same (e4.trans e5)⟩
  rw [if_neg (bf b)] at q
  have e4 := e3.trans e4
  refine sq_if (et_test (ev_eq (ev_var rfl) ev_c)) (fun b H5 e5 => ?_) (fun b H5 e5 => ?_)
  · rw [if_pos (bt b)] at q
    rw [bt b] at hc
    have hc : ns.length = 1 := hc
    have e5 := e4.trans e5
    exact s_rcall (ea_cons (ev_var rfl) (ea_cons (ev_at (i := 0) (ex_l e5 hl) (ev_var rfl) (by omega)) ea_nil)) fun H6 e6 => ⟨v, L, o, _, rfl, hg.same (e5.trans e6), q.same (e5.trans e6)⟩
  rw [if_neg (bf b)] at q
  have e5 := e4.trans e5
  refine sq_if (et_test (ev_eq (ev_var rfl) ev_c)) (fun b H6 e6 => ?_) (fun b H6 e6 => ?_)
  · rw [if_pos (bt b)] at q
    have e6 := e5.trans e6
    exact s_rcall (ea_cons (ev_var rfl) ea_nil) fun H7 e7 => ⟨v, L, o, rfl, hg.same (e6.trans e7), q.same (e6.trans e7)⟩
  rw [if_neg (bf b)] at q
  have e6 := e5.trans e6
  exact s_rcall (ea_cons (ev_var rfl) ea_nil) fun H7 e7 => ⟨v, L, o, rfl, hg.same (e6.trans e7), q.same (e6.trans e7)⟩
/-- a call that leaves the game -/
theorem ans_stay {ns : List Int} (hg : GmO A H L v o) (q : Ans A L v o H (o, ns) Q) : NewL H ns Q := fun H' p s n hp => q H' p (hg.same s) (FrO.of s) n hp
theorem pure_beside_play (T : Txt K mg A) (h : sp_beside_play K A vs H Q E) : t_beside_play K A { nx := fun _ H' => Q .non H', rt := Q } (start ["game", "word", "told"] vs) H := by
  obtain ⟨v, L, o, n, l, ns, rfl, hg, ok, hl, h2, h8, hc, q⟩ := h
  unfold Ct.beside at q
  refine sq_if (et_test (ev_eq (ev_var rfl) ev_c)) (fun b H1 e1 => ?_) (fun b H1 e1 => ?_)
  · rw [if_pos (bt b)] at q
    rw [bt b] at hc
    have hc : ns.length = 4 := hc
    exact s_rcall (ea_cons (ev_var rfl) (ea_cons (ev_at (i := 0) (ex_l e1 hl) (ev_var rfl) (by omega)) (ea_cons (ev_at (i := 1) (ex_l e1 hl) (ev_var rfl) (by omega)) (ea_cons (ev_at (i := 2) (ex_l e1 hl) (ev_var rfl) (by omega)) (ea_cons (ev_at (i := 3) (ex_l e1 hl) (ev_var rfl) (by omega)) ea_nil))))) fun H2 e2 => ⟨v, L, o, _, _, _, _, rfl, hg.same (e1.trans e2), q.same (e1.trans e2)⟩
  have x1 := bf b
  rw [if_neg x1] at q
  refine sq_if (et_test (ev_eq (ev_var rfl) ev_c)) (fun b H2 e2 => ?_) (fun b H2 e2 => ?_)
  · rw [if_pos (bt b)] at q
    rw [bt b] at hc
    have hc : ns.length = 2 := hc
    have e2 := e1.trans e2
    exact s_rcall (ea_cons (ev_var rfl) (ea_cons (ev_at (i := 0) (ex_l e2 hl) (ev_var rfl) (by omega)) (ea_cons (ev_at (i := 1) (ex_l e2 hl) (ev_var rfl) (by omega)) ea_nil))) fun H3 e3 => ⟨v, L, o, _, _, rfl, hg.same (e2.trans e3), ok, q.same (e2.trans e3)⟩
  have x2 := bf b
  rw [if_neg x2] at q
  have e2 := e1.trans e2
  refine sq_if (et_test (ev_eq (ev_var rfl) ev_c)) (fun b H3 e3 => ?_) (fun b H3 e3 => ?_)
  · rw [if_pos (bt b)] at q
    rw [bt b] at hc
    have hc : ns.length = 3 := hc
    have e3 := e2.trans e3
    exact s_rcall (ea_cons (ev_var rfl) (ea_cons (ev_at (i := 0) (ex_l e3 hl) (ev_var rfl) (by omega)) (ea_cons (ev_at (i := 1) (ex_l e3 hl) (ev_var rfl) (by omega)) (ea_cons (ev_at (i := 2) (ex_l e3 hl) (ev_var rfl) (by omega)) ea_nil)))) fun H4 e4 => ⟨v, L, o, _, _, _, rfl, hg.same (e3.trans e4), q.same (e3.trans e4)⟩
  have x3 := bf b
  rw [if_neg x3] at q
  have e3 := e2.trans e3
  refine sq_if (et_test (ev_eq (ev_var rfl) ev_c)) (fun b H4 e4 => ?_) (fun b H4 e4 => ?_)
  · rw [if_pos (bt b)] at q
    rw [bt b] at hc
    have hc : ns.length = 2 := hc
    have e4 := e3.trans e4
    exact s_rcall (ea_cons (ev_var rfl) (ea_cons (ev_at (i := 0) (ex_l e4 hl) (ev_var rfl) (by omega)) (ea_cons (ev_at (i := 1) (ex_l e4 hl) (ev_var rfl) (by omega)) ea_nil))) fun H5 e5 => ⟨v, L, o, _, _, rfl, hg.same (e4.trans e5), q.same (e4.trans e5)⟩
  have x4 := bf b
  rw [if_neg x4] at q
  have e4 := e3.trans e4
  refine sq_if (et_test (ev_eq (ev_var rfl) ev_c)) (fun b H5 e5 => ?_) (fun b H5 e5 => ?_)
  · rw [if_pos (bt b)] at q
    rw [bt b] at hc
    have hc : ns.length = 1 := hc
    have e5 := e4.trans e5
    exact s_rcall (ea_cons (ev_var rfl) (ea_cons (ev_at (i := 0) (ex_l e5 hl) (ev_var rfl) (by omega)) ea_nil)) fun H6 e6 => ⟨v, L, o, _, rfl, hg.same (e5.trans e6), q.same (e5.trans e6)⟩
  have x5 := bf b
  rw [if_neg x5] at q
  have e5 := e4.trans e5
  refine sq_if (et_test (ev_eq (ev_var rfl) ev_c)) (fun b6 H6 e6 => ?_) (fun b6 H6 e6 => ?_)
  · rw [if_pos (bt b6)] at q
    have e6 := e5.trans e6
    exact s_rcall (ea_cons (ev_var rfl) ea_nil) fun H7 e7 => ⟨v, L, o, rfl, hg.same (e6.trans e7), ans_stay (hg.same (e6.trans e7)) (q.same (e6.trans e7))⟩
  rw [if_neg (bf b6)] at q
  have e6 := e5.trans e6
  have n15 : n = 15 := by
    have := bf b6
    omega
  have hc : ns.length = 1 := by rw [n15] at hc; exact hc
  have stay : ∀ s, Ct.sheet o s = (o, (Ct.sheet o s).2) := fun s => by
    unfold Ct.sheet
    split
    · rfl
    · cases o <;> rfl
  rw [stay] at q
  exact s_rcall (ea_cons (ev_var rfl) (ea_cons (ev_at (i := 0) (ex_l e6 hl) (ev_var rfl) (by omega)) ea_nil)) fun H7 e7 => ⟨v, L, o, _, rfl, hg.same (e6.trans e7), ans_stay (hg.same (e6.trans e7)) (q.same (e6.trans e7))⟩
end
end CtW
/-! Promise gives reading: the list of calls parted; the answers. -/
namespace CtW
open PySem PySem.Spec PyProof.Rows L2 Evl
section
variable {K : PySem.W.Frag} {mg : Str → Option Value} {A : Ad} {vs : List V} {H H1 : Hp} {Q : VK} {E E' : XK} {σ : L2.St} {ta tb tc td te : TE} {D : Ends} {n s k z : Int} {x : TL} {t : Ct.Tm} {L : GL} {m m1 : Ct.Gm} {v : V} {o : Option Ct.Gm} {r : Bool} {rs : Ct.Rs}
structure PartAt (H H' : Hp) (f : Addr) (ts : List Addr) (cs : List Ct.Cl) : Prop where
  len : ts.length = cs.length
  at_ : ∀ (i : Nat) t c, ts[i]? = some t → cs[i]? = some c → ∃ p1 p2, H p1 = none ∧ H p2 = none ∧ p1 ≠ f ∧ p2 ≠ f ∧ t ≠ f ∧ H' t = some (.tup [.int c.word, .ref p1, .ref p2]) ∧ H' p1 = some (.lst (c.nums.map V.int)) ∧ H' p2 = some (.lst (c.more.map V.int))
theorem PartAt.same {H H' H2 : Hp} {f : Addr} {ts : List Addr} {cs : List Ct.Cl} (h : PartAt H H' f ts cs) (s : Same H' H2) : PartAt H H2 f ts cs := ⟨h.len, fun i t c a b => by
  obtain ⟨p1, p2, h1, h2, h3, h4, h5, h6, h7, h8⟩ := h.at_ i t c a b
  exact ⟨p1, p2, h1, h2, h3, h4, h5, s _ _ h6, s _ _ h7, s _ _ h8⟩⟩
theorem PartAt.upd {H H' : Hp} {f : Addr} {o : HO} {ts : List Addr} {cs : List Ct.Cl} (h : PartAt H H' f ts cs) : PartAt H (upd H' f o) f ts cs := ⟨h.len, fun i t c a b => by
  obtain ⟨p1, p2, h1, h2, h3, h4, h5, h6, h7, h8⟩ := h.at_ i t c a b
  exact ⟨p1, p2, h1, h2, h3, h4, h5, by rw [upd_ne h5]; exact h6, by rw [upd_ne h3]; exact h7, by rw [upd_ne h4]; exact h8⟩⟩
theorem PartAt.snoc {H H' : Hp} {f t p1 p2 : Addr} {ts : List Addr} {cs : List Ct.Cl} {c : Ct.Cl} (h : PartAt H H' f ts cs) (h1 : H p1 = none) (h2 : H p2 = none) (h3 : p1 ≠ f) (h4 : p2 ≠ f) (h5 : t ≠ f) (h6 : H' t = some (.tup [.int c.word, .ref p1, .ref p2])) (h7 : H' p1 = some (.lst (c.nums.map V.int))) (h8 : H' p2 = some (.lst (c.more.map V.int))) : PartAt H H' f (ts ++ [t]) (cs ++ [c]) := by
  refine ⟨by rw [List.length_append, List.length_append, h.len]; rfl, fun i t' c' a b => ?_⟩
  by_cases hi : i < ts.length
  · rw [List.getElem?_append_left hi] at a
    rw [List.getElem?_append_left (by rw [← h.len]; exact hi)] at b
    exact h.at_ i t' c' a b
  · rw [List.getElem?_append_right (by omega)] at a
    rw [List.getElem?_append_right (by rw [← h.len]; omega)] at b
    have i0 : i - ts.length = 0 := by
      have := (List.getElem?_eq_some_iff.mp a).1
      simp at this; omega
    rw [← h.len] at b
    rw [i0] at a b
    have ea : t = t' := by simpa using a
    have eb : c = c' := by simpa using b
    subst ea eb
    exact ⟨p1, p2, h1, h2, h3, h4, h5, h6, h7, h8⟩
/-- found.append((a, [..], [..])), two new lists -/
theorem s_app3 {l : Addr} {zs xs ys : List V} (hl : H l = some (.lst zs)) (ho : Ev te σ H (.ref l)) (hc : Ev tc σ H v) (ha : EvL ta σ H xs) (hb : EvL tb σ H ys) (hz : zs.length < 100000)
    (k : ∀ p1 p2 p3 H1, H p1 = none → H p2 = none → H p3 = none → Same H H1 → H1 p1 = some (.lst xs) → H1 p2 = some (.lst ys) → H1 p3 = some (.tup [v, .ref p1, .ref p2]) → D.nx σ (upd H1 l (.lst (zs ++ [.ref p3])))) :
    tDrop (tBM K "list" rAppend te (tCons (tTup (tCons tc (tCons ta (tCons tb tNil)))) tNil)) D σ H := ho H (Ex.refl H) _ fun H1 e1 =>
  ⟨Or.inl ⟨rfl, zs, sq_of (e1 l _ hl)⟩, eu_tup3' (hc.mono e1) (EvL.mono e1 ha) (EvL.mono e1 hb) fun p1 p2 p3 H2 n1 n2 n3 s2 h1 h2 h3 => ⟨l, zs, .ref p3, rfl, rfl, s2 _ _ (e1 _ _ hl), sz_lt hz, k p1 p2 p3 H2 (fresh_back e1 n1) (fresh_back e1 n2) (fresh_back e1 n3) (Same.trans e1 s2) h1 h2 h3⟩⟩
/-- xs.extend(ys), ys known -/
theorem s_extR {l b : Addr} {xs ys : List V} (hl : H l = some (.lst xs)) (hb : H b = some (.lst ys)) (ha : Ev ta σ H (.ref l)) (h : Ev te σ H (.ref b)) (hz : xs.length + ys.length ≤ 10000100) (k : ∀ H1, Same H H1 → D.nx σ (upd H1 l (.lst (xs ++ ys)))) :
    tDrop (tBM K "list" rExtend ta (tCons te tNil)) D σ H := ha H (Ex.refl H) _ fun H1 e1 =>
  ⟨Or.inl ⟨rfl, xs, sq_of (e1 l _ hl)⟩, h H1 e1 _ fun H2 e2 => ⟨l, b, xs, ys, rfl, rfl, e2 l _ (e1 l _ hl), e2 _ _ (e1 _ _ hb), Nat.le_trans hz (by decide), k H2 (e1.trans e2)⟩⟩
theorem pure_parted (T : Txt K mg A) (h : sp_parted K A vs H Q E) : t_parted K A { nx := fun _ H' => Q .non H', rt := Q } (start ["calls", "found", "at", "word", "first", "second", "end"] vs) H := by
  obtain ⟨c, l, cs, rfl, hl, pl, hle, q⟩ := h
  refine s_asgL (el_lst ea_nil (by simp)) fun f H1 nf e1 hf => ?_
  refine s_asg ev_c fun H2 e2 => ?_
  refine s_while (fun m σ' H' => ∃ pre post cs1 cs2 ts v3 v4 v5 v6, l = pre ++ post ∧ Ct.Parse post cs2 ∧ cs = cs1 ++ cs2 ∧ m = post.length ∧ σ' = [some (.ref c), some (.ref f), some (.int (pre.length : Nat)), v3, v4, v5, v6] ∧
      Same H H' ∧ H' f = some (.lst (ts.map V.ref)) ∧ ts.length ≤ pre.length ∧ PartAt H H' f ts cs1) l.length ?_ ?_
  · exact ⟨[], l, [], cs, [], none, none, none, none, rfl, pl, rfl, rfl, rfl, e1.trans e2, e2 _ _ hf, Nat.le_refl _, ⟨rfl, fun i t c a => by cases a⟩⟩
  · rintro m σ' H' ⟨pre, post, cs1, cs2, ts, v3, v4, v5, v6, el, pp, ec, rfl, rfl, s0, hf', hts, pa⟩
    have hl' := ex_l s0 hl
    have fr : ∀ {p : Addr}, H' p = none → p ≠ f := fun {p} n e => by rw [e, hf'] at n; cases n
    refine ⟨decide (pre.length < l.length), et_is (et_test (ev_lt (ev_var rfl) (ev_len (ev_var rfl) hl'))) (by rw [List.length_map, decide_eq_decide]; omega), fun b H3 e3 => ?_, fun b H3 e3 => ?_⟩
    · have b := bt b
      have hz : (ts.map V.ref).length < 100000 := by rw [List.length_map]; omega
      refine ⟨_, fun σ2 H4 w => w, ?_⟩
      have hl3 := ex_l e3 hl'
      cases pp with
      | nil => exfalso; rw [el] at b; simp at b
      | @begin_ n k a b2 t cs' ha hb pt =>
        subst ha hb
        have i1 : l[pre.length]? = some 1 := by rw [el]; simp
        refine s_asg (ev_item hl3 (ev_var rfl) (ev_var rfl) i1) fun H4 e4 => ?_
        refine s_ifT (et_is (et_test (ev_eq (ev_var rfl) ev_c)) (by decide)) fun H5 e5 => ?_
        have e35 := (Same.trans e3 e4).trans e5
        refine s_getG (vs := [.ref c, .int (((pre ++ [1]).length : Nat) : Int)]) (ea_cons (ev_var rfl) (ea_cons (ev_is (ev_add (ev_var rfl) ev_c) (congrArg V.int (by simp))) ea_nil)) fun H6 e6 => ⟨c, l, pre ++ [1], a, b2, t, rfl, ex_l e6 (ex_l e35 hl'), by rw [el]; simp, fun H7 p1 p2 p3 e7 n1 n2 n3 h1 h2 h3 =>
          ⟨p3, _, rfl, st_of h3, rfl, _, _, rfl, _, _, rfl, _, _, rfl, rfl, ?_⟩⟩
        have e36 := e35.trans e6
        have e37 := e36.trans e7
        have eu : EvU (tTup (tCons (tVar 3) (tCons (tVar 4) (tCons (tVar 5) tNil)))) [some (.ref c), some (.ref f), some (.int (((pre ++ [1]).length + 1 + a.length + 1 + b2.length : Nat) : Int)), some (.int 1), some (.ref p1), some (.ref p2), v6] H7 [.int 1, .ref p1, .ref p2] := eu_tup (ea_cons (ev_var rfl) (ea_cons (ev_var rfl) (ea_cons (ev_var rfl) ea_nil))) (by simp)
        refine s_appU (K := K) (ta := tVar 1) (te := tTup (tCons (tVar 3) (tCons (tVar 4) (tCons (tVar 5) tNil)))) (xs := ts.map V.ref) (σ := [some (.ref c), some (.ref f), some (.int (((pre ++ [1]).length + 1 + a.length + 1 + b2.length : Nat) : Int)), some (.int 1), some (.ref p1), some (.ref p2), v6]) (e37 _ _ hf') (ev_var rfl) eu hz fun p8 H8 n8 e8 h8 => ?_
        have e38 := e37.trans e8
        have f1 := fr (fresh_back e36 n1)
        have f2 := fr (fresh_back e36 n2)
        have f8 := fr (fresh_back e37 n8)
        refine ⟨t.length, ?_, pre ++ (1 :: (a.length : Int) :: (a ++ (b2.length : Int) :: b2)), t, cs1 ++ [⟨1, a, b2⟩], cs', ts ++ [p8], some (.int 1), some (.ref p1), some (.ref p2), v6, ?_, pt, ?_, rfl, ?_, ?_, ?_, ?_, ?_⟩
        · simp; omega
        · rw [el]; simp
        · rw [ec]; simp
        · have : (pre ++ (1 :: (a.length : Int) :: (a ++ (b2.length : Int) :: b2))).length = (pre ++ [1]).length + 1 + a.length + 1 + b2.length := by simp; omega
          rw [this]
        · exact Ex.mut (s0.trans e38) nf
        · rw [upd_same, List.map_append]; rfl
        · rw [List.length_append, List.length_append]; simp; omega
        · refine PartAt.upd ((pa.same e38).snoc (s0.free (fresh_back e36 n1)) (s0.free (fresh_back e36 n2)) f1 f2 f8 h8 ?_ ?_)
          · exact e8 _ _ h1
          · exact e8 _ _ h2
      | @other p xs t cs' g1 g2 g3 pt =>
        have i1 : l[pre.length]? = some p := by rw [el]; simp
        refine s_asg (ev_item hl3 (ev_var rfl) (ev_var rfl) i1) fun H4 e4 => ?_
        refine s_ifF (et_is (et_test (ev_eq (ev_var rfl) ev_c)) (decide_eq_false (by omega))) fun H5 e5 => ?_
        refine s_asg (ev_is (ev_add (ev_add (ev_var rfl) ev_c) (ev_cnt (ev_var rfl) g1 g2)) (w := .int ((pre.length + 1 + xs.length : Nat) : Int)) (congrArg V.int (by rw [g3]; omega))) fun H6 e6 => ?_
        have e36 := ((Same.trans e3 e4).trans e5).trans e6
        have len : l.length = pre.length + 1 + xs.length + t.length := by rw [el]; simp; omega
        have sl : EvL (tSl (rSlL K) (tVar 0) (tPart (tOp rAddI (tVar 2) (tC (.int 1)))) (tPart (tVar 6))) [some (.ref c), some (.ref f), some (.int (pre.length : Nat)), some (.int p), v4, v5, some (.int ((pre.length + 1 + xs.length : Nat) : Int))] H6 (xs.map V.int) := by
          have := el_sl (σ := [some (.ref c), some (.ref f), some (.int (pre.length : Nat)), some (.int p), v4, v5, some (.int ((pre.length + 1 + xs.length : Nat) : Int))]) (te := tVar 0) (tl := tPart (tOp rAddI (tVar 2) (tC (.int 1)))) (th := tPart (tVar 6)) (lo := some ((pre.length + 1 : Nat) : Int)) (hi := some ((pre.length + 1 + xs.length : Nat) : Int))
            (ev_var rfl) (eo_some (ev_is (ev_add (ev_var rfl) ev_c) (congrArg V.int (by omega)))) (eo_some (ev_var rfl)) (ex_l e36 hl')
          rw [cut_mid (by omega) (by omega)] at this
          have e : (l.drop (pre.length + 1)).take (pre.length + 1 + xs.length - (pre.length + 1)) = xs := by
            have : l = (pre ++ [p]) ++ (xs ++ t) := by rw [el]; simp
            rw [this, List.drop_append_of_le_length (by simp), List.drop_of_length_le (by simp), List.nil_append, show pre.length + 1 + xs.length - (pre.length + 1) = xs.length by omega, List.take_append_of_le_length (Nat.le_refl _), List.take_length]
          rw [e] at this
          exact this
        refine s_app3 (σ := [some (.ref c), some (.ref f), some (.int (pre.length : Nat)), some (.int p), v4, v5, some (.int ((pre.length + 1 + xs.length : Nat) : Int))]) (zs := ts.map V.ref) (ys := []) (e36 _ _ hf') (ev_var rfl) (ev_var rfl) sl (el_lst ea_nil (by simp)) hz fun p1 p2 p3 H7 n1 n2 n3 e7 h1 h2 h3 => ?_
        have e37 := e36.trans e7
        have f1 := fr (fresh_back e36 n1)
        have f2 := fr (fresh_back e36 n2)
        have f3 := fr (fresh_back e36 n3)
        refine s_asg (σ := [some (.ref c), some (.ref f), some (.int (pre.length : Nat)), some (.int p), v4, v5, some (.int ((pre.length + 1 + xs.length : Nat) : Int))]) (ev_var rfl) fun H8 e8 => ?_
        refine ⟨t.length, ?_, pre ++ (p :: xs), t, cs1 ++ [⟨p, xs, []⟩], cs', ts ++ [p3], some (.int p), v4, v5, some (.int ((pre.length + 1 + xs.length : Nat) : Int)), ?_, pt, ?_, rfl, ?_, ?_, ?_, ?_, ?_⟩
        · simp; omega
        · rw [el]; simp
        · rw [ec]; simp
        · have : (pre ++ (p :: xs)).length = pre.length + 1 + xs.length := by simp; omega
          rw [this]; rfl
        · exact (Ex.mut (s0.trans e37) nf).trans e8
        · have := e8 _ _ (upd_same (H := H7) (a := f) (o := .lst (ts.map V.ref ++ [.ref p3])))
          rw [this, List.map_append]; rfl
        · rw [List.length_append, List.length_append]; simp; omega
        · exact (PartAt.upd ((pa.same e37).snoc (s0.free (fresh_back e36 n1)) (s0.free (fresh_back e36 n2)) f1 f2 f3 (c := ⟨p, xs, []⟩) h3 h1 (show H7 p2 = some (.lst (([] : List Int).map V.int)) from h2))).same e8
    · have b := bf b
      have hp : post = [] := by
        rw [el, List.length_append] at b
        exact List.eq_nil_of_length_eq_zero (by omega)
      subst hp
      cases pp
      rw [List.append_nil] at ec
      refine s_ret (σ := [some (.ref c), some (.ref f), some (.int (pre.length : Nat)), v3, v4, v5, v6]) (D := { nx := fun _ H' => Q .non H', rt := Q }) (ev_var rfl) fun H4 e4 => ?_
      have pa := (pa.same e3).same e4
      subst ec
      refine q H4 f ts ((s0.trans e3).trans e4) nf (e4 _ _ (e3 _ _ hf')) ⟨pa.len, fun i t c a b => ?_⟩
      obtain ⟨p1, p2, h1, h2, _, _, _, h6, h7, h8⟩ := pa.at_ i t c a b
      exact ⟨p1, p2, h1, h2, h6, h7, h8⟩
end
end CtW
/-! Promise gives reading: the answers. -/
namespace CtW
open PySem PySem.Spec PyProof.Rows L2 Evl
section
variable {K : PySem.W.Frag} {mg : Str → Option Value} {A : Ad} {vs : List V} {H H1 : Hp} {Q : VK} {E E' : XK} {σ : L2.St} {ta tb tc td te : TE} {D : Ends} {n s k z : Int} {x : TL} {t : Ct.Tm} {L : GL} {m m1 : Ct.Gm} {v : V} {o : Option Ct.Gm} {r : Bool} {rs : Ct.Rs}
theorem GmO.fr1 {H' : Hp} {f : Addr} (g : GmO A H L v o) (h : Fr [f] H H') (n : v ≠ .non → f ∉ L.own) : GmO A H' L v o := by
  cases o with
  | none => exact g
  | some m =>
    obtain ⟨rfl, g⟩ := g
    refine ⟨rfl, g.fr h fun a ha z => ?_⟩
    have : a = f := by simpa using z
    subst this
    exact n (by intro z; cases z) ha
theorem GmO.isSome {H' : Hp} (g : GmO A H L v o) {o' : Option Ct.Gm} (g' : GmO A H' L v o') : o.isSome = o'.isSome := by
  cases o with
  | none =>
    cases o' with
    | none => rfl
    | some m =>
      have e : v = .non := g
      have := g'.1
      rw [e] at this; cases this
  | some m =>
    cases o' with
    | none =>
      have e : v = .non := g'
      have := g.1
      rw [e] at this; cases this
    | some m => rfl
/-- what stands between two calls -/
structure Turn (A : Ad) (Hb : Hp) (c f : Addr) (cs : List Ct.Cl) (i : Nat) (σ : L2.St) (H : Hp) : Prop where
  ex : ∃ (L : GL) (v : V) (w3 w4 w5 w6 : Option V), σ = [some (.ref c), some v, some (.ref f), w3, w4, w5, w6] ∧ GmO A H L v (Ct.after none (cs.take i)) ∧ (v ≠ .non → ∀ b ∈ L.own, Hb b = none)
  out : H f = some (.lst ((Ct.runAll none (cs.take i)).map V.int))
  keep : ∀ b o, Hb b = some o → b ≠ f → H b = some o
theorem run_le {cs : List Ct.Cl} {i : Nat} : (Ct.runAll none (cs.take i)).length ≤ (Ct.runAll none cs).length := by
  have := Ct.runAll_append (cs.take i) (cs.drop i) none
  rw [List.take_append_drop] at this
  rw [this, List.length_append]; omega
theorem run_snoc {cs : List Ct.Cl} {i : Nat} {cl : Ct.Cl} (h : cs[i]? = some cl) : Ct.runAll none (cs.take (i + 1)) = Ct.runAll none (cs.take i) ++ Ct.out (Ct.call (Ct.after none (cs.take i)) cl).2 ∧
    Ct.after none (cs.take (i + 1)) = (Ct.call (Ct.after none (cs.take i)) cl).1 := by
  rw [take_one h, Ct.runAll_append, Ct.after_append]
  refine ⟨?_, rfl⟩
  show _ ++ (Ct.out _ ++ []) = _
  rw [List.append_nil]
/-- the two last statements of a turn -/
theorem turn_end {Hb : Hp} {c f : Addr} {cs : List Ct.Cl} {i : Nat} {cl : Ct.Cl} {w3 w4 w5 : Option V} {pa : Addr} {D : Ends} (hcl : cs[i]? = some cl) (room : (Ct.runAll none cs).length ≤ 10000000) (bf : ∃ o, Hb f = some o)
    (g : GmO A H L v (Ct.call (Ct.after none (cs.take i)) cl).1) (own : v ≠ .non → ∀ b ∈ L.own, Hb b = none) (ha : H pa = some (.lst ((Ct.call (Ct.after none (cs.take i)) cl).2.map V.int))) (hpa : pa ≠ f)
    (hf : H f = some (.lst ((Ct.runAll none (cs.take i)).map V.int))) (keep : ∀ b o, Hb b = some o → b ≠ f → H b = some o) (hD : ∀ σ H, Turn A Hb c f cs (i + 1) σ H → D.nx σ H) :
    tSeq (tDrop (tBM K "list" rAppend (tVar 2) (tCons (tCB (rLenQ K) (tCons (tVar 6) tNil)) tNil))) (tDrop (tBM K "list" rExtend (tVar 2) (tCons (tVar 6) tNil))) D [some (.ref c), some v, some (.ref f), w3, w4, w5, some (.ref pa)] H := by
  obtain ⟨ea, eg⟩ := run_snoc hcl
  have l1 := run_le (cs := cs) (i := i + 1)
  rw [ea, List.length_append] at l1
  have l2 : (Ct.out (Ct.call (Ct.after none (cs.take i)) cl).2).length = (Ct.call (Ct.after none (cs.take i)) cl).2.length + 1 := rfl
  refine s_appN (K := K) (ta := tVar 2) (te := tCB (rLenQ K) (tCons (tVar 6) tNil)) hf (ev_var rfl) (ev_len (ev_var rfl) (sq_of ha)) (by rw [List.length_map]; omega) fun H1 s1 => ?_
  have fpa : pa ≠ f := hpa
  refine s_extR (K := K) (ta := tVar 2) (te := tVar 6) (σ := [some (.ref c), some v, some (.ref f), w3, w4, w5, some (.ref pa)]) upd_same (by rw [upd_ne fpa]; exact s1 _ _ ha) (ev_var rfl) (ev_var rfl) ?_ fun H2 s2 => hD _ _ ?_
  · rw [List.length_append, List.length_map, List.length_map]
    show (Ct.runAll none (cs.take i)).length + 1 + _ ≤ _
    omega
  · have fr : Fr [f] H (upd H2 f (.lst ((Ct.runAll none (cs.take i)).map V.int ++ [.int ((((Ct.call (Ct.after none (cs.take i)) cl).2.map V.int).length : Nat) : Int)] ++ (Ct.call (Ct.after none (cs.take i)) cl).2.map V.int))) :=
      ((Fr.of s1).trans fr_upd).trans ((Fr.of s2).trans fr_upd)
    refine ⟨⟨L, v, w3, w4, w5, some (.ref pa), rfl, ?_, own⟩, ?_, fun b o hb nb => fr _ _ (keep b o hb nb) (by simpa using nb)⟩
    · rw [eg]
      refine g.fr1 fr fun nv hm => ?_
      obtain ⟨o, ho⟩ := bf
      have := own nv f hm
      rw [ho] at this; cases this
    · rw [upd_same, ea]
      unfold Ct.out
      rw [List.map_append, List.map_cons, List.length_map, List.append_assoc]
      rfl
theorem pure_answers (T : Txt K mg A) (h : sp_answers K A vs H Q E) : t_answers K A { nx := fun _ H' => Q .non H', rt := Q } (start ["calls", "game", "found", "word", "told", "more", "answer"] vs) H := by
  obtain ⟨c, l, rfl, hl, hle, ask, q⟩ := h
  obtain ⟨cs, due⟩ := Ct.due_of ask
  refine s_asg ev_c fun H1 e1 => ?_
  refine s_asgL (el_lst ea_nil (by simp)) fun f H2 nf e2 hf => ?_
  refine ⟨_, rfl, c, l, cs, rfl, ex_l e2 (ex_l e1 hl), due.parse, hle, fun Hb p ts s3 np hp cl => ⟨p, rfl, ⟨_, sq_of hp⟩, for_list (K := K) (a := p) (xs := ts.map V.ref) (Turn A Hb c f cs) ?_ ?_ ?_ ?_⟩⟩
  · exact ⟨⟨⟨0, 0, 0, 0, ⟨0, 0, []⟩, ⟨0, 0, []⟩⟩, .non, none, none, none, none, rfl, rfl, fun n => absurd rfl n⟩, s3 _ _ hf, fun b o hb _ => hb⟩
  · intro i σ' H' _ t
    have pf : p ≠ f := fun z => by rw [z, hf] at np; cases np
    exact sq_of (t.keep _ _ hp pf)
  · intro i y σ' H' hy t
    rw [List.getElem?_map] at hy
    cases ht : ts[i]? with
    | none => rw [ht] at hy; cases hy
    | some tp =>
      rw [ht] at hy
      cases hy
      have hi := (List.getElem?_eq_some_iff.mp ht).1
      rw [cl.len] at hi
      have hcl : cs[i]? = some cs[i] := by simp
      obtain ⟨p1, p2, n1, n2, h1, h2, h3⟩ := cl.at_ i tp _ ht hcl
      generalize hc0 : cs[i] = cl0 at hcl h1 h2 h3
      obtain ⟨⟨L, v, w3, w4, w5, w6, rfl, g, own⟩, out, keep⟩ := t
      have bf : Hb f = some (.lst []) := s3 _ _ hf
      have tpf : tp ≠ f := fun z => by rw [z, bf] at h1; cases h1
      have p1f : p1 ≠ f := fun z => by rw [z, hf] at n1; cases n1
      have p2f : p2 ≠ f := fun z => by rw [z, hf] at n2; cases n2
      have okg := due.ok (cs.take i) (cs.drop i) (List.take_append_drop _ _)
      refine ⟨tp, _, rfl, st_of (keep _ _ h1 tpf), rfl, _, _, rfl, _, _, rfl, _, _, rfl, rfl, ?_⟩
      -- answer = [0]
      refine s_asgL (σ := [some (.ref c), some v, some (.ref f), some (.int cl0.word), some (.ref p1), some (.ref p2), w6]) (te := tLst (tCons (tC (.int 0)) tNil)) (el_lst (ea_cons ev_c ea_nil) (by simp)) fun pa H3 npa e3 hpa => ?_
      have fresh : ∀ {H' : Hp} {b : Addr}, (∀ x o, Hb x = some o → x ≠ f → H' x = some o) → (∃ o, H' f = some o) → H' b = none → Hb b = none := fun {H' b} k kf n => by
        by_cases z : b = f
        · obtain ⟨o, ko⟩ := kf
          rw [z, ko] at n; cases n
        · cases q3 : Hb b with
          | none => rfl
          | some o => rw [k _ _ q3 z] at n; cases n
      have keep3 : ∀ b o, Hb b = some o → b ≠ f → H3 b = some o := fun b o hb nb => e3 _ _ (keep b o hb nb)
      have out3 := e3 _ _ out
      have g3 := g.same e3
      have paf : pa ≠ f := fun z => by rw [z, out] at npa; cases npa
      have l1 : ∀ {H4 : Hp}, Same H3 H4 → SqL K H4 p1 (cl0.nums.map V.int) := fun s => sq_of (s _ _ (keep3 _ _ h2 p1f))
      have l2 : ∀ {H4 : Hp}, Same H3 H4 → SqL K H4 p2 (cl0.more.map V.int) := fun s => sq_of (s _ _ (keep3 _ _ h3 p2f))
      -- behind the branch
      have fin : ∀ (L5 : GL) (v5 : V) (pb : Addr) (H5 : Hp), GmO A H5 L5 v5 (Ct.call (Ct.after none (cs.take i)) cl0).1 → (v5 ≠ .non → ∀ b ∈ L5.own, Hb b = none) → H5 pb = some (.lst ((Ct.call (Ct.after none (cs.take i)) cl0).2.map V.int)) → pb ≠ f →
          H5 f = some (.lst ((Ct.runAll none (cs.take i)).map V.int)) → (∀ b o, Hb b = some o → b ≠ f → H5 b = some o) →
          tSeq (tDrop (tBM K "list" rAppend (tVar 2) (tCons (tCB (rLenQ K) (tCons (tVar 6) tNil)) tNil))) (tDrop (tBM K "list" rExtend (tVar 2) (tCons (tVar 6) tNil)))
            { nx := Turn A Hb c f cs (i + 1), rt := Q, bk := tRet (tVar 2) { nx := fun _ H' => Q .non H', rt := Q }, ct := Turn A Hb c f cs (i + 1) } [some (.ref c), some v5, some (.ref f), some (.int cl0.word), some (.ref p1), some (.ref p2), some (.ref pb)] H5 :=
        fun L5 v5 pb H5 g5 o5 h5 nb f5 k5 => turn_end hcl due.room ⟨_, bf⟩ g5 o5 h5 nb f5 k5 fun _ _ t => t
      have same_fin : ∀ {H4 : Hp}, Same H3 H4 → ∀ {ns : List Int}, Ct.call (Ct.after none (cs.take i)) cl0 = (Ct.after none (cs.take i), ns) → ∀ pb, H4 pb = some (.lst (ns.map V.int)) → pb ≠ f →
          tSeq (tDrop (tBM K "list" rAppend (tVar 2) (tCons (tCB (rLenQ K) (tCons (tVar 6) tNil)) tNil))) (tDrop (tBM K "list" rExtend (tVar 2) (tCons (tVar 6) tNil)))
            { nx := Turn A Hb c f cs (i + 1), rt := Q, bk := tRet (tVar 2) { nx := fun _ H' => Q .non H', rt := Q }, ct := Turn A Hb c f cs (i + 1) } [some (.ref c), some v, some (.ref f), some (.int cl0.word), some (.ref p1), some (.ref p2), some (.ref pb)] H4 := by
        intro H4 s ns ec pb hpb nb
        refine fin L v pb H4 ?_ own ?_ nb (s _ _ out3) fun b o hb n => s _ _ (keep3 b o hb n)
        · rw [ec]; exact g3.same s
        · rw [ec]; exact hpb
      -- what a call of play leaves
      have play : ∀ {H4 : Hp}, Same H3 H4 → ∀ {rs : Ct.Rs}, Ct.call (Ct.after none (cs.take i)) cl0 = rs → Ans A L v (Ct.after none (cs.take i)) H4 rs fun x H5 =>
          tSeq (tDrop (tBM K "list" rAppend (tVar 2) (tCons (tCB (rLenQ K) (tCons (tVar 6) tNil)) tNil))) (tDrop (tBM K "list" rExtend (tVar 2) (tCons (tVar 6) tNil)))
            { nx := Turn A Hb c f cs (i + 1), rt := Q, bk := tRet (tVar 2) { nx := fun _ H' => Q .non H', rt := Q }, ct := Turn A Hb c f cs (i + 1) } [some (.ref c), some v, some (.ref f), some (.int cl0.word), some (.ref p1), some (.ref p2), some x] H5 := by
        intro H4 s rs ec H5 pb g5 f5 nb h5
        have fs : ∀ b o, H4 b = some o → (v ≠ .non → b ∉ L.own) → H5 b = some o := by
          intro b o hb nb
          cases ho : Ct.after none (cs.take i) with
          | none => rw [ho] at f5; exact f5 b o hb
          | some m =>
            rw [ho] at f5
            have nv : v ≠ .non := by
              have := (g3.same s)
              rw [ho] at this
              rw [this.1]; intro z; cases z
            exact f5 b o hb (nb nv)
        have f4 := s _ _ out3
        refine fin L v pb H5 (by rw [ec]; exact g5) own (by rw [ec]; exact h5) (fun z => by rw [z, f4] at nb; cases nb) (fs _ _ f4 fun nv hm => ?_) (fun b o hb n => fs _ _ (s _ _ (keep3 b o hb n)) fun nv hm => ?_)
        · have := own nv f hm; rw [bf] at this; cases this
        · have := own nv b hm; rw [hb] at this; cases this
      refine s_if (et_and (et_test (ev_eq (ev_var rfl) ev_c)) fun _ => et_and (et_B (c_are_players (ev_var rfl) (l1 (Same.refl _)))) fun _ => et_B (c_are_players (ev_var rfl) (l2 (Same.refl _)))) (fun b H4 e4 => ?_) (fun b H4 e4 => ?_)
      · -- a game begins
        rw [Bool.and_eq_true, Bool.and_eq_true, decide_eq_true_eq] at b
        obtain ⟨b1, b2, b3⟩ := b
        have ec : Ct.call (Ct.after none (cs.take i)) cl0 = (some (Ct.Gm.fresh cl0.nums cl0.more), [0]) := by
          unfold Ct.call
          rw [if_pos b1, if_pos ⟨b2, b3⟩]
        have len12 : ∀ ns, Ct.arePlayers ns = true → ns.length ≤ 12 := fun ns h => by
          unfold Ct.arePlayers at h
          simp only [Bool.and_eq_true, decide_eq_true_eq] at h
          exact h.1.2
        refine ⟨_, rfl, _, rfl, fun ga dx ng nx _ => ⟨ga, dx, p1, p2, cl0.nums, cl0.more, rfl, upd_same, ex_l (made_up ng nx) (l1 e4), ex_l (made_up ng nx) (l2 e4), len12 _ b2, len12 _ b3, fun H5 L5 eL g5 o5 f5 => ⟨rfl, ?_⟩⟩⟩
        have s5 : Same H4 H5 := made_same ng (made_up ng nx) f5
        have s35 := Same.trans e4 s5
        have k4 : ∀ b o, Hb b = some o → b ≠ f → H4 b = some o := fun b o hb n => e4 _ _ (keep3 b o hb n)
        refine fin L5 (.ref ga) pa H5 (by rw [ec]; exact ⟨by rw [eL], g5⟩) (fun _ b hb => ?_) (by rw [ec]; exact s35 _ _ hpa) paf (s35 _ _ out3) fun b o hb n => s35 _ _ (keep3 b o hb n)
        rcases o5 b hb with z | z
        · rw [z]; exact fresh k4 ⟨_, e4 _ _ out3⟩ ng
        · exact fresh k4 ⟨_, e4 _ _ out3⟩ ((made_up ng nx).free z)
      have b0 : ¬ (cl0.word = 1 ∧ Ct.arePlayers cl0.nums = true ∧ Ct.arePlayers cl0.more = true) := fun y => by
        rw [decide_eq_true y.1, y.2.1, y.2.2] at b; cases b
      refine s_if (σ := [some (.ref c), some v, some (.ref f), some (.int cl0.word), some (.ref p1), some (.ref p2), some (.ref pa)]) (et_test (ev_eq (ev_var rfl) ev_c)) (fun b1 H5 e5 => ?_) (fun b1 H5 e5 => ?_)
      · have ec : Ct.call (Ct.after none (cs.take i)) cl0 = (Ct.after none (cs.take i), [-1]) := by
          unfold Ct.call
          rw [if_pos (bt b1), if_neg fun y => b0 ⟨bt b1, y⟩]
        have e35 := Same.trans e4 e5
        refine s_asgL (σ := [some (.ref c), some v, some (.ref f), some (.int cl0.word), some (.ref p1), some (.ref p2), some (.ref pa)]) (te := tLst (tCons (tC (.int (-1))) tNil)) (el_lst (ea_cons ev_c ea_nil) (by simp)) fun pb H6 nb e6 h6 => ?_
        exact same_fin (e35.trans e6) ec pb h6 (fun z => by rw [z, e35 _ _ out3] at nb; cases nb)
      have b1 := CtW.bf b1
      have e35 := Same.trans e4 e5
      have pc := due.parse.at_ hcl
      refine s_if (σ := [some (.ref c), some v, some (.ref f), some (.int cl0.word), some (.ref p1), some (.ref p2), some (.ref pa)]) (et_test (ev_le (ev_var rfl) ev_c)) (fun b8 H6 e6 => ?_) (fun b8 H6 e6 => ?_)
      · have ec : Ct.call (Ct.after none (cs.take i)) cl0 = Ct.inPlay (Ct.after none (cs.take i)) cl0.word cl0.nums := by
          unfold Ct.call
          rw [if_neg b1, if_pos (bt b8)]
        obtain ⟨w1, w2, w3⟩ := pc.resolve_left b1
        refine s_get (σ := [some (.ref c), some v, some (.ref f), some (.int cl0.word), some (.ref p1), some (.ref p2), some (.ref pa)]) (ea_cons (ev_var rfl) (ea_cons (ev_var rfl) (ea_cons (ev_var rfl) ea_nil))) fun H7 e7 => ?_
        have e37 := (Same.trans e35 e6).trans e7
        exact ⟨v, L, _, cl0.word, p1, cl0.nums, rfl, g3.same e37, okg, l1 e37, w1, bt b8, w3, play e37 ec⟩
      · have ec : Ct.call (Ct.after none (cs.take i)) cl0 = Ct.beside (Ct.after none (cs.take i)) cl0.word cl0.nums := by
          unfold Ct.call
          rw [if_neg b1, if_neg (CtW.bf b8)]
        obtain ⟨w1, w2, w3⟩ := pc.resolve_left b1
        refine s_get (σ := [some (.ref c), some v, some (.ref f), some (.int cl0.word), some (.ref p1), some (.ref p2), some (.ref pa)]) (ea_cons (ev_var rfl) (ea_cons (ev_var rfl) (ea_cons (ev_var rfl) ea_nil))) fun H7 e7 => ?_
        have e37 := (Same.trans e35 e6).trans e7
        have := CtW.bf b8
        exact ⟨v, L, _, cl0.word, p1, cl0.nums, rfl, g3.same e37, okg, l1 e37, by omega, w2, w3, play e37 ec⟩
  · intro σ' H' t
    obtain ⟨⟨L, v, w3, w4, w5, w6, rfl, g, own⟩, out, keep⟩ := t
    rw [List.length_map, cl.len, List.take_length, due.is] at out
    refine s_ret (σ := [some (.ref c), some v, some (.ref f), w3, w4, w5, w6]) (D := { nx := fun _ H' => Q .non H', rt := Q }) (ev_var rfl) fun H4 e4 => ?_
    exact q H4 f (e4 _ _ out)
end
end CtW
/-! Each def keeps its promise. -/
namespace CtW
open PySem PySem.Spec PyProof.Rows L2
theorem ok_init_Player {P : Program} {w : World} {K : PySem.W.Frag} {mg : Str → Option Value} {base : Heap} {A : Ad} (T : Txt K mg A) (F0 : TopCls K mg "Player" A.cP s_init_Player) : MkD P w K mg base A.cP "Player" ["self", "number", "on_court"] 1 (sp_init_Player K A) := by
  obtain ⟨f, fd, F, M, hm⟩ := F0
  have G : FnOk P w K mg base CX0 1 f fd ["self", "number", "on_court"] (sp_init_Player K A) := F.ok sc_init_Player (fun vs H Q E h => len_init_Player h) (fun cdv Ar outer s H vs Q E hr h => ⟨t_init_Player K A, tie_init_Player T hr, pure_init_Player T h⟩)
  exact ⟨f, fd, M, G, hm, F.binds (ps := ["self", "number", "on_court"]) (fun _ _ _ _ _ _ us hl => match us, hl with | [_, _, _], _ => rfl)⟩

theorem ok_is_out {P : Program} {w : World} {K : PySem.W.Frag} {mg : Str → Option Value} {base : Heap} {A : Ad} (T : Txt K mg A) (F0 : TopFn K mg "is_out" s_is_out) : Def P w K mg base "is_out" ["player"] 1 (sp_is_out K A) := by
  obtain ⟨f, fd, F, hm⟩ := F0
  have G : FnOk P w K mg base CX0 1 f fd ["player"] (sp_is_out K A) := F.ok sc_is_out (fun vs H Q E h => len_is_out h) (fun cdv Ar outer s H vs Q E hr h => ⟨t_is_out K A, tie_is_out T hr, pure_is_out T h⟩)
  exact ⟨f, fd, G, hm, F.kp, F.binds (ps := ["player"]) (fun _ _ _ _ _ _ us hl => match us, hl with | [_], _ => rfl)⟩

theorem ok_is_on_bench {P : Program} {w : World} {K : PySem.W.Frag} {mg : Str → Option Value} {base : Heap} {A : Ad} (T : Txt K mg A) (D_is_out : Def P w K mg base "is_out" ["player"] 1 (sp_is_out K A)) (F0 : TopFn K mg "is_on_bench" s_is_on_bench) : Def P w K mg base "is_on_bench" ["player"] 2 (sp_is_on_bench K A) := by
  obtain ⟨f, fd, F, hm⟩ := F0
  have G : FnOk P w K mg base CX0 2 f fd ["player"] (sp_is_on_bench K A) := F.ok sc_is_on_bench (fun vs H Q E h => len_is_on_bench h) (fun cdv Ar outer s H vs Q E hr h => ⟨t_is_on_bench K A, tie_is_on_bench T D_is_out hr, pure_is_on_bench T h⟩)
  exact ⟨f, fd, G, hm, F.kp, F.binds (ps := ["player"]) (fun _ _ _ _ _ _ us hl => match us, hl with | [_], _ => rfl)⟩

theorem ok_note_foul {P : Program} {w : World} {K : PySem.W.Frag} {mg : Str → Option Value} {base : Heap} {A : Ad} (T : Txt K mg A) (D_is_out : Def P w K mg base "is_out" ["player"] 1 (sp_is_out K A)) (F0 : TopFn K mg "note_foul" s_note_foul) : Def P w K mg base "note_foul" ["player", "kind"] 2 (sp_note_foul K A) := by
  obtain ⟨f, fd, F, hm⟩ := F0
  have G : FnOk P w K mg base CX0 2 f fd ["player", "kind"] (sp_note_foul K A) := F.ok sc_note_foul (fun vs H Q E h => len_note_foul h) (fun cdv Ar outer s H vs Q E hr h => ⟨t_note_foul K A, tie_note_foul T D_is_out hr, pure_note_foul T h⟩)
  exact ⟨f, fd, G, hm, F.kp, F.binds (ps := ["player", "kind"]) (fun _ _ _ _ _ _ us hl => match us, hl with | [_, _], _ => rfl)⟩

theorem ok_written {P : Program} {w : World} {K : PySem.W.Frag} {mg : Str → Option Value} {base : Heap} {A : Ad} (T : Txt K mg A) (D_is_out : Def P w K mg base "is_out" ["player"] 1 (sp_is_out K A)) (F0 : TopFn K mg "written" s_written) : Def P w K mg base "written" ["player"] 2 (sp_written K A) := by
  obtain ⟨f, fd, F, hm⟩ := F0
  have G : FnOk P w K mg base CX0 2 f fd ["player"] (sp_written K A) := F.ok sc_written (fun vs H Q E h => len_written h) (fun cdv Ar outer s H vs Q E hr h => ⟨t_written K A, tie_written T D_is_out hr, pure_written T h⟩)
  exact ⟨f, fd, G, hm, F.kp, F.binds (ps := ["player"]) (fun _ _ _ _ _ _ us hl => match us, hl with | [_], _ => rfl)⟩

theorem ok_other {P : Program} {w : World} {K : PySem.W.Frag} {mg : Str → Option Value} {base : Heap} {A : Ad} (T : Txt K mg A) (F0 : TopFn K mg "other" s_other) : Def P w K mg base "other" ["side"] 1 (sp_other K A) := by
  obtain ⟨f, fd, F, hm⟩ := F0
  have G : FnOk P w K mg base CX0 1 f fd ["side"] (sp_other K A) := F.ok sc_other (fun vs H Q E h => len_other h) (fun cdv Ar outer s H vs Q E hr h => ⟨t_other K A, tie_other T hr, pure_other T h⟩)
  exact ⟨f, fd, G, hm, F.kp, F.binds (ps := ["side"]) (fun _ _ _ _ _ _ us hl => match us, hl with | [_], _ => rfl)⟩

theorem ok_is_side {P : Program} {w : World} {K : PySem.W.Frag} {mg : Str → Option Value} {base : Heap} {A : Ad} (T : Txt K mg A) (F0 : TopFn K mg "is_side" s_is_side) : Def P w K mg base "is_side" ["number"] 1 (sp_is_side K A) := by
  obtain ⟨f, fd, F, hm⟩ := F0
  have G : FnOk P w K mg base CX0 1 f fd ["number"] (sp_is_side K A) := F.ok sc_is_side (fun vs H Q E h => len_is_side h) (fun cdv Ar outer s H vs Q E hr h => ⟨t_is_side K A, tie_is_side T hr, pure_is_side T h⟩)
  exact ⟨f, fd, G, hm, F.kp, F.binds (ps := ["number"]) (fun _ _ _ _ _ _ us hl => match us, hl with | [_], _ => rfl)⟩

theorem ok_is_number {P : Program} {w : World} {K : PySem.W.Frag} {mg : Str → Option Value} {base : Heap} {A : Ad} (T : Txt K mg A) (F0 : TopFn K mg "is_number" s_is_number) : Def P w K mg base "is_number" ["number"] 1 (sp_is_number K A) := by
  obtain ⟨f, fd, F, hm⟩ := F0
  have G : FnOk P w K mg base CX0 1 f fd ["number"] (sp_is_number K A) := F.ok sc_is_number (fun vs H Q E h => len_is_number h) (fun cdv Ar outer s H vs Q E hr h => ⟨t_is_number K A, tie_is_number T hr, pure_is_number T h⟩)
  exact ⟨f, fd, G, hm, F.kp, F.binds (ps := ["number"]) (fun _ _ _ _ _ _ us hl => match us, hl with | [_], _ => rfl)⟩

theorem ok_is_truth {P : Program} {w : World} {K : PySem.W.Frag} {mg : Str → Option Value} {base : Heap} {A : Ad} (T : Txt K mg A) (F0 : TopFn K mg "is_truth" s_is_truth) : Def P w K mg base "is_truth" ["number"] 1 (sp_is_truth K A) := by
  obtain ⟨f, fd, F, hm⟩ := F0
  have G : FnOk P w K mg base CX0 1 f fd ["number"] (sp_is_truth K A) := F.ok sc_is_truth (fun vs H Q E h => len_is_truth h) (fun cdv Ar outer s H vs Q E hr h => ⟨t_is_truth K A, tie_is_truth T hr, pure_is_truth T h⟩)
  exact ⟨f, fd, G, hm, F.kp, F.binds (ps := ["number"]) (fun _ _ _ _ _ _ us hl => match us, hl with | [_], _ => rfl)⟩

theorem ok_init_Team {P : Program} {w : World} {K : PySem.W.Frag} {mg : Str → Option Value} {base : Heap} {A : Ad} (T : Txt K mg A) (M_Player : MkD P w K mg base A.cP "Player" ["self", "number", "on_court"] 1 (sp_init_Player K A)) (F0 : TopCls K mg "Team" A.cT s_init_Team) : MkD P w K mg base A.cT "Team" ["self", "numbers"] 3 (sp_init_Team K A) := by
  obtain ⟨f, fd, F, M, hm⟩ := F0
  have G : FnOk P w K mg base CX0 3 f fd ["self", "numbers"] (sp_init_Team K A) := F.ok sc_init_Team (fun vs H Q E h => len_init_Team h) (fun cdv Ar outer s H vs Q E hr h => ⟨t_init_Team K A, tie_init_Team T M_Player hr, pure_init_Team T h⟩)
  exact ⟨f, fd, M, G, hm, F.binds (ps := ["self", "numbers"]) (fun _ _ _ _ _ _ us hl => match us, hl with | [_, _], _ => rfl)⟩

theorem ok_are_players {P : Program} {w : World} {K : PySem.W.Frag} {mg : Str → Option Value} {base : Heap} {A : Ad} (T : Txt K mg A) (D_is_number : Def P w K mg base "is_number" ["number"] 1 (sp_is_number K A)) (F0 : TopFn K mg "are_players" s_are_players) : Def P w K mg base "are_players" ["numbers"] 2 (sp_are_players K A) := by
  obtain ⟨f, fd, F, hm⟩ := F0
  have G : FnOk P w K mg base CX0 2 f fd ["numbers"] (sp_are_players K A) := F.ok sc_are_players (fun vs H Q E h => len_are_players h) (fun cdv Ar outer s H vs Q E hr h => ⟨t_are_players K A, tie_are_players T D_is_number hr, pure_are_players T h⟩)
  exact ⟨f, fd, G, hm, F.kp, F.binds (ps := ["numbers"]) (fun _ _ _ _ _ _ us hl => match us, hl with | [_], _ => rfl)⟩

theorem ok_points_of {P : Program} {w : World} {K : PySem.W.Frag} {mg : Str → Option Value} {base : Heap} {A : Ad} (T : Txt K mg A) (F0 : TopFn K mg "points_of" s_points_of) : Def P w K mg base "points_of" ["team"] 1 (sp_points_of K A) := by
  obtain ⟨f, fd, F, hm⟩ := F0
  have G : FnOk P w K mg base CX0 1 f fd ["team"] (sp_points_of K A) := F.ok sc_points_of (fun vs H Q E h => len_points_of h) (fun cdv Ar outer s H vs Q E hr h => ⟨t_points_of K A, tie_points_of T hr, pure_points_of T h⟩)
  exact ⟨f, fd, G, hm, F.kp, F.binds (ps := ["team"]) (fun _ _ _ _ _ _ us hl => match us, hl with | [_], _ => rfl)⟩

theorem ok_on_court {P : Program} {w : World} {K : PySem.W.Frag} {mg : Str → Option Value} {base : Heap} {A : Ad} (T : Txt K mg A) (F0 : TopFn K mg "on_court" s_on_court) : Def P w K mg base "on_court" ["team", "number"] 1 (sp_on_court K A) := by
  obtain ⟨f, fd, F, hm⟩ := F0
  have G : FnOk P w K mg base CX0 1 f fd ["team", "number"] (sp_on_court K A) := F.ok sc_on_court (fun vs H Q E h => len_on_court h) (fun cdv Ar outer s H vs Q E hr h => ⟨t_on_court K A, tie_on_court T hr, pure_on_court T h⟩)
  exact ⟨f, fd, G, hm, F.kp, F.binds (ps := ["team", "number"]) (fun _ _ _ _ _ _ us hl => match us, hl with | [_, _], _ => rfl)⟩

theorem ok_on_bench {P : Program} {w : World} {K : PySem.W.Frag} {mg : Str → Option Value} {base : Heap} {A : Ad} (T : Txt K mg A) (D_is_on_bench : Def P w K mg base "is_on_bench" ["player"] 2 (sp_is_on_bench K A)) (F0 : TopFn K mg "on_bench" s_on_bench) : Def P w K mg base "on_bench" ["team", "number"] 3 (sp_on_bench K A) := by
  obtain ⟨f, fd, F, hm⟩ := F0
  have G : FnOk P w K mg base CX0 3 f fd ["team", "number"] (sp_on_bench K A) := F.ok sc_on_bench (fun vs H Q E h => len_on_bench h) (fun cdv Ar outer s H vs Q E hr h => ⟨t_on_bench K A, tie_on_bench T D_is_on_bench hr, pure_on_bench T h⟩)
  exact ⟨f, fd, G, hm, F.kp, F.binds (ps := ["team", "number"]) (fun _ _ _ _ _ _ us hl => match us, hl with | [_, _], _ => rfl)⟩

theorem ok_many_on_court {P : Program} {w : World} {K : PySem.W.Frag} {mg : Str → Option Value} {base : Heap} {A : Ad} (T : Txt K mg A) (F0 : TopFn K mg "many_on_court" s_many_on_court) : Def P w K mg base "many_on_court" ["team"] 1 (sp_many_on_court K A) := by
  obtain ⟨f, fd, F, hm⟩ := F0
  have G : FnOk P w K mg base CX0 1 f fd ["team"] (sp_many_on_court K A) := F.ok sc_many_on_court (fun vs H Q E h => len_many_on_court h) (fun cdv Ar outer s H vs Q E hr h => ⟨t_many_on_court K A, tie_many_on_court T hr, pure_many_on_court T h⟩)
  exact ⟨f, fd, G, hm, F.kp, F.binds (ps := ["team"]) (fun _ _ _ _ _ _ us hl => match us, hl with | [_], _ => rfl)⟩

theorem ok_is_short {P : Program} {w : World} {K : PySem.W.Frag} {mg : Str → Option Value} {base : Heap} {A : Ad} (T : Txt K mg A) (D_many_on_court : Def P w K mg base "many_on_court" ["team"] 1 (sp_many_on_court K A)) (D_is_on_bench : Def P w K mg base "is_on_bench" ["player"] 2 (sp_is_on_bench K A)) (F0 : TopFn K mg "is_short" s_is_short) : Def P w K mg base "is_short" ["team"] 3 (sp_is_short K A) := by
  obtain ⟨f, fd, F, hm⟩ := F0
  have G : FnOk P w K mg base CX0 3 f fd ["team"] (sp_is_short K A) := F.ok sc_is_short (fun vs H Q E h => len_is_short h) (fun cdv Ar outer s H vs Q E hr h => ⟨t_is_short K A, tie_is_short T D_many_on_court D_is_on_bench hr, pure_is_short T h⟩)
  exact ⟨f, fd, G, hm, F.kp, F.binds (ps := ["team"]) (fun _ _ _ _ _ _ us hl => match us, hl with | [_], _ => rfl)⟩

theorem ok_sheet_of {P : Program} {w : World} {K : PySem.W.Frag} {mg : Str → Option Value} {base : Heap} {A : Ad} (T : Txt K mg A) (D_points_of : Def P w K mg base "points_of" ["team"] 1 (sp_points_of K A)) (D_written : Def P w K mg base "written" ["player"] 2 (sp_written K A)) (F0 : TopFn K mg "sheet_of" s_sheet_of) : Def P w K mg base "sheet_of" ["team"] 3 (sp_sheet_of K A) := by
  obtain ⟨f, fd, F, hm⟩ := F0
  have G : FnOk P w K mg base CX0 3 f fd ["team"] (sp_sheet_of K A) := F.ok sc_sheet_of (fun vs H Q E h => len_sheet_of h) (fun cdv Ar outer s H vs Q E hr h => ⟨t_sheet_of K A, tie_sheet_of T D_points_of D_written hr, pure_sheet_of T h⟩)
  exact ⟨f, fd, G, hm, F.kp, F.binds (ps := ["team"]) (fun _ _ _ _ _ _ us hl => match us, hl with | [_], _ => rfl)⟩

theorem ok_init_Clock {P : Program} {w : World} {K : PySem.W.Frag} {mg : Str → Option Value} {base : Heap} {A : Ad} (T : Txt K mg A) (F0 : TopCls K mg "Clock" A.cC s_init_Clock) : MkD P w K mg base A.cC "Clock" ["self"] 1 (sp_init_Clock K A) := by
  obtain ⟨f, fd, F, M, hm⟩ := F0
  have G : FnOk P w K mg base CX0 1 f fd ["self"] (sp_init_Clock K A) := F.ok sc_init_Clock (fun vs H Q E h => len_init_Clock h) (fun cdv Ar outer s H vs Q E hr h => ⟨t_init_Clock K A, tie_init_Clock T hr, pure_init_Clock T h⟩)
  exact ⟨f, fd, M, G, hm, F.binds (ps := ["self"]) (fun _ _ _ _ _ _ us hl => match us, hl with | [_], _ => rfl)⟩

theorem ok_init_Throws {P : Program} {w : World} {K : PySem.W.Frag} {mg : Str → Option Value} {base : Heap} {A : Ad} (T : Txt K mg A) (F0 : TopCls K mg "Throws" A.cH s_init_Throws) : MkD P w K mg base A.cH "Throws" ["self"] 1 (sp_init_Throws K A) := by
  obtain ⟨f, fd, F, M, hm⟩ := F0
  have G : FnOk P w K mg base CX0 1 f fd ["self"] (sp_init_Throws K A) := F.ok sc_init_Throws (fun vs H Q E h => len_init_Throws h) (fun cdv Ar outer s H vs Q E hr h => ⟨t_init_Throws K A, tie_init_Throws T hr, pure_init_Throws T h⟩)
  exact ⟨f, fd, M, G, hm, F.binds (ps := ["self"]) (fun _ _ _ _ _ _ us hl => match us, hl with | [_], _ => rfl)⟩

theorem ok_init_Game {P : Program} {w : World} {K : PySem.W.Frag} {mg : Str → Option Value} {base : Heap} {A : Ad} (T : Txt K mg A) (M_Team : MkD P w K mg base A.cT "Team" ["self", "numbers"] 3 (sp_init_Team K A)) (M_Clock : MkD P w K mg base A.cC "Clock" ["self"] 1 (sp_init_Clock K A)) (M_Throws : MkD P w K mg base A.cH "Throws" ["self"] 1 (sp_init_Throws K A)) (F0 : TopCls K mg "Game" A.cG s_init_Game) : MkD P w K mg base A.cG "Game" ["self", "first", "second"] 5 (sp_init_Game K A) := by
  obtain ⟨f, fd, F, M, hm⟩ := F0
  have G : FnOk P w K mg base CX0 5 f fd ["self", "first", "second"] (sp_init_Game K A) := F.ok sc_init_Game (fun vs H Q E h => len_init_Game h) (fun cdv Ar outer s H vs Q E hr h => ⟨t_init_Game K A, tie_init_Game T M_Team M_Clock M_Throws hr, pure_init_Game T h⟩)
  exact ⟨f, fd, M, G, hm, F.binds (ps := ["self", "first", "second"]) (fun _ _ _ _ _ _ us hl => match us, hl with | [_, _, _], _ => rfl)⟩

theorem ok_stands {P : Program} {w : World} {K : PySem.W.Frag} {mg : Str → Option Value} {base : Heap} {A : Ad} (T : Txt K mg A) (D_points_of : Def P w K mg base "points_of" ["team"] 1 (sp_points_of K A)) (F0 : TopFn K mg "stands" s_stands) : Def P w K mg base "stands" ["game"] 2 (sp_stands K A) := by
  obtain ⟨f, fd, F, hm⟩ := F0
  have G : FnOk P w K mg base CX0 2 f fd ["game"] (sp_stands K A) := F.ok sc_stands (fun vs H Q E h => len_stands h) (fun cdv Ar outer s H vs Q E hr h => ⟨t_stands K A, tie_stands T D_points_of hr, pure_stands T h⟩)
  exact ⟨f, fd, G, hm, F.kp, F.binds (ps := ["game"]) (fun _ _ _ _ _ _ us hl => match us, hl with | [_], _ => rfl)⟩

theorem ok_is_played {P : Program} {w : World} {K : PySem.W.Frag} {mg : Str → Option Value} {base : Heap} {A : Ad} (T : Txt K mg A) (F0 : TopFn K mg "is_played" s_is_played) : Def P w K mg base "is_played" ["game"] 1 (sp_is_played K A) := by
  obtain ⟨f, fd, F, hm⟩ := F0
  have G : FnOk P w K mg base CX0 1 f fd ["game"] (sp_is_played K A) := F.ok sc_is_played (fun vs H Q E h => len_is_played h) (fun cdv Ar outer s H vs Q E hr h => ⟨t_is_played K A, tie_is_played T hr, pure_is_played T h⟩)
  exact ⟨f, fd, G, hm, F.kp, F.binds (ps := ["game"]) (fun _ _ _ _ _ _ us hl => match us, hl with | [_], _ => rfl)⟩

theorem ok_refusal {P : Program} {w : World} {K : PySem.W.Frag} {mg : Str → Option Value} {base : Heap} {A : Ad} (T : Txt K mg A) (D_is_played : Def P w K mg base "is_played" ["game"] 1 (sp_is_played K A)) (F0 : TopFn K mg "refusal" s_refusal) : Def P w K mg base "refusal" ["game", "right"] 2 (sp_refusal K A) := by
  obtain ⟨f, fd, F, hm⟩ := F0
  have G : FnOk P w K mg base CX0 2 f fd ["game", "right"] (sp_refusal K A) := F.ok sc_refusal (fun vs H Q E h => len_refusal h) (fun cdv Ar outer s H vs Q E hr h => ⟨t_refusal K A, tie_refusal T D_is_played hr, pure_refusal T h⟩)
  exact ⟨f, fd, G, hm, F.kp, F.binds (ps := ["game", "right"]) (fun _ _ _ _ _ _ us hl => match us, hl with | [_, _], _ => rfl)⟩

theorem ok_is_any_short {P : Program} {w : World} {K : PySem.W.Frag} {mg : Str → Option Value} {base : Heap} {A : Ad} (T : Txt K mg A) (D_is_short : Def P w K mg base "is_short" ["team"] 3 (sp_is_short K A)) (F0 : TopFn K mg "is_any_short" s_is_any_short) : Def P w K mg base "is_any_short" ["game"] 4 (sp_is_any_short K A) := by
  obtain ⟨f, fd, F, hm⟩ := F0
  have G : FnOk P w K mg base CX0 4 f fd ["game"] (sp_is_any_short K A) := F.ok sc_is_any_short (fun vs H Q E h => len_is_any_short h) (fun cdv Ar outer s H vs Q E hr h => ⟨t_is_any_short K A, tie_is_any_short T D_is_short hr, pure_is_any_short T h⟩)
  exact ⟨f, fd, G, hm, F.kp, F.binds (ps := ["game"]) (fun _ _ _ _ _ _ us hl => match us, hl with | [_], _ => rfl)⟩

theorem ok_refusal_in_play {P : Program} {w : World} {K : PySem.W.Frag} {mg : Str → Option Value} {base : Heap} {A : Ad} (T : Txt K mg A) (D_refusal : Def P w K mg base "refusal" ["game", "right"] 2 (sp_refusal K A)) (D_is_any_short : Def P w K mg base "is_any_short" ["game"] 4 (sp_is_any_short K A)) (F0 : TopFn K mg "refusal_in_play" s_refusal_in_play) : Def P w K mg base "refusal_in_play" ["game", "right"] 5 (sp_refusal_in_play K A) := by
  obtain ⟨f, fd, F, hm⟩ := F0
  have G : FnOk P w K mg base CX0 5 f fd ["game", "right"] (sp_refusal_in_play K A) := F.ok sc_refusal_in_play (fun vs H Q E h => len_refusal_in_play h) (fun cdv Ar outer s H vs Q E hr h => ⟨t_refusal_in_play K A, tie_refusal_in_play T D_refusal D_is_any_short hr, pure_refusal_in_play T h⟩)
  exact ⟨f, fd, G, hm, F.kp, F.binds (ps := ["game", "right"]) (fun _ _ _ _ _ _ us hl => match us, hl with | [_, _], _ => rfl)⟩

theorem ok_give_ball {P : Program} {w : World} {K : PySem.W.Frag} {mg : Str → Option Value} {base : Heap} {A : Ad} (T : Txt K mg A) (F0 : TopFn K mg "give_ball" s_give_ball) : Def P w K mg base "give_ball" ["game", "side", "shot"] 1 (sp_give_ball K A) := by
  obtain ⟨f, fd, F, hm⟩ := F0
  have G : FnOk P w K mg base CX0 1 f fd ["game", "side", "shot"] (sp_give_ball K A) := F.ok sc_give_ball (fun vs H Q E h => len_give_ball h) (fun cdv Ar outer s H vs Q E hr h => ⟨t_give_ball K A, tie_give_ball T hr, pure_give_ball T h⟩)
  exact ⟨f, fd, G, hm, F.kp, F.binds (ps := ["game", "side", "shot"]) (fun _ _ _ _ _ _ us hl => match us, hl with | [_, _, _], _ => rfl)⟩

theorem ok_miss_by {P : Program} {w : World} {K : PySem.W.Frag} {mg : Str → Option Value} {base : Heap} {A : Ad} (T : Txt K mg A) (F0 : TopFn K mg "miss_by" s_miss_by) : Def P w K mg base "miss_by" ["game", "side", "ring"] 1 (sp_miss_by K A) := by
  obtain ⟨f, fd, F, hm⟩ := F0
  have G : FnOk P w K mg base CX0 1 f fd ["game", "side", "ring"] (sp_miss_by K A) := F.ok sc_miss_by (fun vs H Q E h => len_miss_by h) (fun cdv Ar outer s H vs Q E hr h => ⟨t_miss_by K A, tie_miss_by T hr, pure_miss_by T h⟩)
  exact ⟨f, fd, G, hm, F.kp, F.binds (ps := ["game", "side", "ring"]) (fun _ _ _ _ _ _ us hl => match us, hl with | [_, _, _], _ => rfl)⟩

theorem ok_end_game {P : Program} {w : World} {K : PySem.W.Frag} {mg : Str → Option Value} {base : Heap} {A : Ad} (T : Txt K mg A) (F0 : TopFn K mg "end_game" s_end_game) : Def P w K mg base "end_game" ["game", "winner"] 1 (sp_end_game K A) := by
  obtain ⟨f, fd, F, hm⟩ := F0
  have G : FnOk P w K mg base CX0 1 f fd ["game", "winner"] (sp_end_game K A) := F.ok sc_end_game (fun vs H Q E h => len_end_game h) (fun cdv Ar outer s H vs Q E hr h => ⟨t_end_game K A, tie_end_game T hr, pure_end_game T h⟩)
  exact ⟨f, fd, G, hm, F.kp, F.binds (ps := ["game", "winner"]) (fun _ _ _ _ _ _ us hl => match us, hl with | [_, _], _ => rfl)⟩

theorem ok_turn_arrow {P : Program} {w : World} {K : PySem.W.Frag} {mg : Str → Option Value} {base : Heap} {A : Ad} (T : Txt K mg A) (D_other : Def P w K mg base "other" ["side"] 1 (sp_other K A)) (F0 : TopFn K mg "turn_arrow" s_turn_arrow) : Def P w K mg base "turn_arrow" ["game"] 2 (sp_turn_arrow K A) := by
  obtain ⟨f, fd, F, hm⟩ := F0
  have G : FnOk P w K mg base CX0 2 f fd ["game"] (sp_turn_arrow K A) := F.ok sc_turn_arrow (fun vs H Q E h => len_turn_arrow h) (fun cdv Ar outer s H vs Q E hr h => ⟨t_turn_arrow K A, tie_turn_arrow T D_other hr, pure_turn_arrow T h⟩)
  exact ⟨f, fd, G, hm, F.kp, F.binds (ps := ["game"]) (fun _ _ _ _ _ _ us hl => match us, hl with | [_], _ => rfl)⟩

theorem ok_count_anew {P : Program} {w : World} {K : PySem.W.Frag} {mg : Str → Option Value} {base : Heap} {A : Ad} (T : Txt K mg A) (F0 : TopFn K mg "count_anew" s_count_anew) : Def P w K mg base "count_anew" ["team", "period"] 1 (sp_count_anew K A) := by
  obtain ⟨f, fd, F, hm⟩ := F0
  have G : FnOk P w K mg base CX0 1 f fd ["team", "period"] (sp_count_anew K A) := F.ok sc_count_anew (fun vs H Q E h => len_count_anew h) (fun cdv Ar outer s H vs Q E hr h => ⟨t_count_anew K A, tie_count_anew T hr, pure_count_anew T h⟩)
  exact ⟨f, fd, G, hm, F.kp, F.binds (ps := ["team", "period"]) (fun _ _ _ _ _ _ us hl => match us, hl with | [_, _], _ => rfl)⟩

theorem ok_begin_period {P : Program} {w : World} {K : PySem.W.Frag} {mg : Str → Option Value} {base : Heap} {A : Ad} (T : Txt K mg A) (D_count_anew : Def P w K mg base "count_anew" ["team", "period"] 1 (sp_count_anew K A)) (D_give_ball : Def P w K mg base "give_ball" ["game", "side", "shot"] 1 (sp_give_ball K A)) (D_turn_arrow : Def P w K mg base "turn_arrow" ["game"] 2 (sp_turn_arrow K A)) (F0 : TopFn K mg "begin_period" s_begin_period) : Def P w K mg base "begin_period" ["game"] 3 (sp_begin_period K A) := by
  obtain ⟨f, fd, F, hm⟩ := F0
  have G : FnOk P w K mg base CX0 3 f fd ["game"] (sp_begin_period K A) := F.ok sc_begin_period (fun vs H Q E h => len_begin_period h) (fun cdv Ar outer s H vs Q E hr h => ⟨t_begin_period K A, tie_begin_period T D_count_anew D_give_ball D_turn_arrow hr, pure_begin_period T h⟩)
  exact ⟨f, fd, G, hm, F.kp, F.binds (ps := ["game"]) (fun _ _ _ _ _ _ us hl => match us, hl with | [_], _ => rfl)⟩

theorem ok_end_period {P : Program} {w : World} {K : PySem.W.Frag} {mg : Str → Option Value} {base : Heap} {A : Ad} (T : Txt K mg A) (D_points_of : Def P w K mg base "points_of" ["team"] 1 (sp_points_of K A)) (D_end_game : Def P w K mg base "end_game" ["game", "winner"] 1 (sp_end_game K A)) (D_begin_period : Def P w K mg base "begin_period" ["game"] 3 (sp_begin_period K A)) (F0 : TopFn K mg "end_period" s_end_period) : Def P w K mg base "end_period" ["game"] 4 (sp_end_period K A) := by
  obtain ⟨f, fd, F, hm⟩ := F0
  have G : FnOk P w K mg base CX0 4 f fd ["game"] (sp_end_period K A) := F.ok sc_end_period (fun vs H Q E h => len_end_period h) (fun cdv Ar outer s H vs Q E hr h => ⟨t_end_period K A, tie_end_period T D_points_of D_end_game D_begin_period hr, pure_end_period T h⟩)
  exact ⟨f, fd, G, hm, F.kp, F.binds (ps := ["game"]) (fun _ _ _ _ _ _ us hl => match us, hl with | [_], _ => rfl)⟩

theorem ok_sub {P : Program} {w : World} {K : PySem.W.Frag} {mg : Str → Option Value} {base : Heap} {A : Ad} (T : Txt K mg A) (D_is_side : Def P w K mg base "is_side" ["number"] 1 (sp_is_side K A)) (D_is_number : Def P w K mg base "is_number" ["number"] 1 (sp_is_number K A)) (D_refusal : Def P w K mg base "refusal" ["game", "right"] 2 (sp_refusal K A)) (D_on_court : Def P w K mg base "on_court" ["team", "number"] 1 (sp_on_court K A)) (D_on_bench : Def P w K mg base "on_bench" ["team", "number"] 3 (sp_on_bench K A)) (F0 : TopFn K mg "sub" s_sub) : Def P w K mg base "sub" ["game", "side", "goes", "comes"] 4 (sp_sub K A) := by
  obtain ⟨f, fd, F, hm⟩ := F0
  have G : FnOk P w K mg base CX0 4 f fd ["game", "side", "goes", "comes"] (sp_sub K A) := F.ok sc_sub (fun vs H Q E h => len_sub h) (fun cdv Ar outer s H vs Q E hr h => ⟨t_sub K A, tie_sub T D_is_side D_is_number D_refusal D_on_court D_on_bench hr, pure_sub T h⟩)
  exact ⟨f, fd, G, hm, F.kp, F.binds (ps := ["game", "side", "goes", "comes"]) (fun _ _ _ _ _ _ us hl => match us, hl with | [_, _, _, _], _ => rfl)⟩

theorem ok_enter {P : Program} {w : World} {K : PySem.W.Frag} {mg : Str → Option Value} {base : Heap} {A : Ad} (T : Txt K mg A) (D_is_side : Def P w K mg base "is_side" ["number"] 1 (sp_is_side K A)) (D_is_number : Def P w K mg base "is_number" ["number"] 1 (sp_is_number K A)) (D_refusal : Def P w K mg base "refusal" ["game", "right"] 2 (sp_refusal K A)) (D_on_bench : Def P w K mg base "on_bench" ["team", "number"] 3 (sp_on_bench K A)) (D_many_on_court : Def P w K mg base "many_on_court" ["team"] 1 (sp_many_on_court K A)) (F0 : TopFn K mg "enter" s_enter) : Def P w K mg base "enter" ["game", "side", "comes"] 4 (sp_enter K A) := by
  obtain ⟨f, fd, F, hm⟩ := F0
  have G : FnOk P w K mg base CX0 4 f fd ["game", "side", "comes"] (sp_enter K A) := F.ok sc_enter (fun vs H Q E h => len_enter h) (fun cdv Ar outer s H vs Q E hr h => ⟨t_enter K A, tie_enter T D_is_side D_is_number D_refusal D_on_bench D_many_on_court hr, pure_enter T h⟩)
  exact ⟨f, fd, G, hm, F.kp, F.binds (ps := ["game", "side", "comes"]) (fun _ _ _ _ _ _ us hl => match us, hl with | [_, _, _], _ => rfl)⟩

theorem ok_most_timeouts {P : Program} {w : World} {K : PySem.W.Frag} {mg : Str → Option Value} {base : Heap} {A : Ad} (T : Txt K mg A) (F0 : TopFn K mg "most_timeouts" s_most_timeouts) : Def P w K mg base "most_timeouts" ["period"] 1 (sp_most_timeouts K A) := by
  obtain ⟨f, fd, F, hm⟩ := F0
  have G : FnOk P w K mg base CX0 1 f fd ["period"] (sp_most_timeouts K A) := F.ok sc_most_timeouts (fun vs H Q E h => len_most_timeouts h) (fun cdv Ar outer s H vs Q E hr h => ⟨t_most_timeouts K A, tie_most_timeouts T hr, pure_most_timeouts T h⟩)
  exact ⟨f, fd, G, hm, F.kp, F.binds (ps := ["period"]) (fun _ _ _ _ _ _ us hl => match us, hl with | [_], _ => rfl)⟩

theorem ok_timeout {P : Program} {w : World} {K : PySem.W.Frag} {mg : Str → Option Value} {base : Heap} {A : Ad} (T : Txt K mg A) (D_is_side : Def P w K mg base "is_side" ["number"] 1 (sp_is_side K A)) (D_refusal : Def P w K mg base "refusal" ["game", "right"] 2 (sp_refusal K A)) (D_most_timeouts : Def P w K mg base "most_timeouts" ["period"] 1 (sp_most_timeouts K A)) (F0 : TopFn K mg "timeout" s_timeout) : Def P w K mg base "timeout" ["game", "side"] 3 (sp_timeout K A) := by
  obtain ⟨f, fd, F, hm⟩ := F0
  have G : FnOk P w K mg base CX0 3 f fd ["game", "side"] (sp_timeout K A) := F.ok sc_timeout (fun vs H Q E h => len_timeout h) (fun cdv Ar outer s H vs Q E hr h => ⟨t_timeout K A, tie_timeout T D_is_side D_refusal D_most_timeouts hr, pure_timeout T h⟩)
  exact ⟨f, fd, G, hm, F.kp, F.binds (ps := ["game", "side"]) (fun _ _ _ _ _ _ us hl => match us, hl with | [_, _], _ => rfl)⟩

theorem ok_sheet {P : Program} {w : World} {K : PySem.W.Frag} {mg : Str → Option Value} {base : Heap} {A : Ad} (T : Txt K mg A) (D_is_side : Def P w K mg base "is_side" ["number"] 1 (sp_is_side K A)) (D_sheet_of : Def P w K mg base "sheet_of" ["team"] 3 (sp_sheet_of K A)) (F0 : TopFn K mg "sheet" s_sheet) : Def P w K mg base "sheet" ["game", "side"] 4 (sp_sheet K A) := by
  obtain ⟨f, fd, F, hm⟩ := F0
  have G : FnOk P w K mg base CX0 4 f fd ["game", "side"] (sp_sheet K A) := F.ok sc_sheet (fun vs H Q E h => len_sheet h) (fun cdv Ar outer s H vs Q E hr h => ⟨t_sheet K A, tie_sheet T D_is_side D_sheet_of hr, pure_sheet T h⟩)
  exact ⟨f, fd, G, hm, F.kp, F.binds (ps := ["game", "side"]) (fun _ _ _ _ _ _ us hl => match us, hl with | [_, _], _ => rfl)⟩

theorem ok_throws_for {P : Program} {w : World} {K : PySem.W.Frag} {mg : Str → Option Value} {base : Heap} {A : Ad} (T : Txt K mg A) (F0 : TopFn K mg "throws_for" s_throws_for) : Def P w K mg base "throws_for" ["game", "side", "many", "behind"] 1 (sp_throws_for K A) := by
  obtain ⟨f, fd, F, hm⟩ := F0
  have G : FnOk P w K mg base CX0 1 f fd ["game", "side", "many", "behind"] (sp_throws_for K A) := F.ok sc_throws_for (fun vs H Q E h => len_throws_for h) (fun cdv Ar outer s H vs Q E hr h => ⟨t_throws_for K A, tie_throws_for T hr, pure_throws_for T h⟩)
  exact ⟨f, fd, G, hm, F.kp, F.binds (ps := ["game", "side", "many", "behind"]) (fun _ _ _ _ _ _ us hl => match us, hl with | [_, _, _, _], _ => rfl)⟩

theorem ok_bring {P : Program} {w : World} {K : PySem.W.Frag} {mg : Str → Option Value} {base : Heap} {A : Ad} (T : Txt K mg A) (D_other : Def P w K mg base "other" ["side"] 1 (sp_other K A)) (D_throws_for : Def P w K mg base "throws_for" ["game", "side", "many", "behind"] 1 (sp_throws_for K A)) (D_give_ball : Def P w K mg base "give_ball" ["game", "side", "shot"] 1 (sp_give_ball K A)) (F0 : TopFn K mg "bring" s_bring) : Def P w K mg base "bring" ["game", "side", "kind", "shot"] 2 (sp_bring K A) := by
  obtain ⟨f, fd, F, hm⟩ := F0
  have G : FnOk P w K mg base CX0 2 f fd ["game", "side", "kind", "shot"] (sp_bring K A) := F.ok sc_bring (fun vs H Q E h => len_bring h) (fun cdv Ar outer s H vs Q E hr h => ⟨t_bring K A, tie_bring T D_other D_throws_for D_give_ball hr, pure_bring T h⟩)
  exact ⟨f, fd, G, hm, F.kp, F.binds (ps := ["game", "side", "kind", "shot"]) (fun _ _ _ _ _ _ us hl => match us, hl with | [_, _, _, _], _ => rfl)⟩

theorem ok_is_right_foul {P : Program} {w : World} {K : PySem.W.Frag} {mg : Str → Option Value} {base : Heap} {A : Ad} (T : Txt K mg A) (D_is_side : Def P w K mg base "is_side" ["number"] 1 (sp_is_side K A)) (D_is_number : Def P w K mg base "is_number" ["number"] 1 (sp_is_number K A)) (F0 : TopFn K mg "is_right_foul" s_is_right_foul) : Def P w K mg base "is_right_foul" ["side", "number", "kind", "shot"] 2 (sp_is_right_foul K A) := by
  obtain ⟨f, fd, F, hm⟩ := F0
  have G : FnOk P w K mg base CX0 2 f fd ["side", "number", "kind", "shot"] (sp_is_right_foul K A) := F.ok sc_is_right_foul (fun vs H Q E h => len_is_right_foul h) (fun cdv Ar outer s H vs Q E hr h => ⟨t_is_right_foul K A, tie_is_right_foul T D_is_side D_is_number hr, pure_is_right_foul T h⟩)
  exact ⟨f, fd, G, hm, F.kp, F.binds (ps := ["side", "number", "kind", "shot"]) (fun _ _ _ _ _ _ us hl => match us, hl with | [_, _, _, _], _ => rfl)⟩

theorem ok_is_shot_strange {P : Program} {w : World} {K : PySem.W.Frag} {mg : Str → Option Value} {base : Heap} {A : Ad} (T : Txt K mg A) (F0 : TopFn K mg "is_shot_strange" s_is_shot_strange) : Def P w K mg base "is_shot_strange" ["game", "side", "kind", "shot"] 1 (sp_is_shot_strange K A) := by
  obtain ⟨f, fd, F, hm⟩ := F0
  have G : FnOk P w K mg base CX0 1 f fd ["game", "side", "kind", "shot"] (sp_is_shot_strange K A) := F.ok sc_is_shot_strange (fun vs H Q E h => len_is_shot_strange h) (fun cdv Ar outer s H vs Q E hr h => ⟨t_is_shot_strange K A, tie_is_shot_strange T hr, pure_is_shot_strange T h⟩)
  exact ⟨f, fd, G, hm, F.kp, F.binds (ps := ["game", "side", "kind", "shot"]) (fun _ _ _ _ _ _ us hl => match us, hl with | [_, _, _, _], _ => rfl)⟩

theorem ok_foul {P : Program} {w : World} {K : PySem.W.Frag} {mg : Str → Option Value} {base : Heap} {A : Ad} (T : Txt K mg A) (D_is_right_foul : Def P w K mg base "is_right_foul" ["side", "number", "kind", "shot"] 2 (sp_is_right_foul K A)) (D_refusal_in_play : Def P w K mg base "refusal_in_play" ["game", "right"] 5 (sp_refusal_in_play K A)) (D_on_court : Def P w K mg base "on_court" ["team", "number"] 1 (sp_on_court K A)) (D_is_shot_strange : Def P w K mg base "is_shot_strange" ["game", "side", "kind", "shot"] 1 (sp_is_shot_strange K A)) (D_note_foul : Def P w K mg base "note_foul" ["player", "kind"] 2 (sp_note_foul K A)) (D_many_on_court : Def P w K mg base "many_on_court" ["team"] 1 (sp_many_on_court K A)) (D_other : Def P w K mg base "other" ["side"] 1 (sp_other K A)) (D_end_game : Def P w K mg base "end_game" ["game", "winner"] 1 (sp_end_game K A)) (D_bring : Def P w K mg base "bring" ["game", "side", "kind", "shot"] 2 (sp_bring K A)) (D_stands : Def P w K mg base "stands" ["game"] 2 (sp_stands K A)) (F0 : TopFn K mg "foul" s_foul) : Def P w K mg base "foul" ["game", "side", "number", "kind", "shot"] 6 (sp_foul K A) := by
  obtain ⟨f, fd, F, hm⟩ := F0
  have G : FnOk P w K mg base CX0 6 f fd ["game", "side", "number", "kind", "shot"] (sp_foul K A) := F.ok sc_foul (fun vs H Q E h => len_foul h) (fun cdv Ar outer s H vs Q E hr h => ⟨t_foul K A, tie_foul T D_is_right_foul D_refusal_in_play D_on_court D_is_shot_strange D_note_foul D_many_on_court D_other D_end_game D_bring D_stands hr, pure_foul T h⟩)
  exact ⟨f, fd, G, hm, F.kp, F.binds (ps := ["game", "side", "number", "kind", "shot"]) (fun _ _ _ _ _ _ us hl => match us, hl with | [_, _, _, _, _], _ => rfl)⟩

theorem ok_go_on_behind {P : Program} {w : World} {K : PySem.W.Frag} {mg : Str → Option Value} {base : Heap} {A : Ad} (T : Txt K mg A) (D_give_ball : Def P w K mg base "give_ball" ["game", "side", "shot"] 1 (sp_give_ball K A)) (D_other : Def P w K mg base "other" ["side"] 1 (sp_other K A)) (D_miss_by : Def P w K mg base "miss_by" ["game", "side", "ring"] 1 (sp_miss_by K A)) (F0 : TopFn K mg "go_on_behind" s_go_on_behind) : Def P w K mg base "go_on_behind" ["game", "good"] 2 (sp_go_on_behind K A) := by
  obtain ⟨f, fd, F, hm⟩ := F0
  have G : FnOk P w K mg base CX0 2 f fd ["game", "good"] (sp_go_on_behind K A) := F.ok sc_go_on_behind (fun vs H Q E h => len_go_on_behind h) (fun cdv Ar outer s H vs Q E hr h => ⟨t_go_on_behind K A, tie_go_on_behind T D_give_ball D_other D_miss_by hr, pure_go_on_behind T h⟩)
  exact ⟨f, fd, G, hm, F.kp, F.binds (ps := ["game", "good"]) (fun _ _ _ _ _ _ us hl => match us, hl with | [_, _], _ => rfl)⟩

theorem ok_throw {P : Program} {w : World} {K : PySem.W.Frag} {mg : Str → Option Value} {base : Heap} {A : Ad} (T : Txt K mg A) (D_is_number : Def P w K mg base "is_number" ["number"] 1 (sp_is_number K A)) (D_is_truth : Def P w K mg base "is_truth" ["number"] 1 (sp_is_truth K A)) (D_refusal : Def P w K mg base "refusal" ["game", "right"] 2 (sp_refusal K A)) (D_is_any_short : Def P w K mg base "is_any_short" ["game"] 4 (sp_is_any_short K A)) (D_on_court : Def P w K mg base "on_court" ["team", "number"] 1 (sp_on_court K A)) (D_go_on_behind : Def P w K mg base "go_on_behind" ["game", "good"] 2 (sp_go_on_behind K A)) (D_points_of : Def P w K mg base "points_of" ["team"] 1 (sp_points_of K A)) (D_stands : Def P w K mg base "stands" ["game"] 2 (sp_stands K A)) (F0 : TopFn K mg "throw" s_throw) : Def P w K mg base "throw" ["game", "number", "good"] 5 (sp_throw K A) := by
  obtain ⟨f, fd, F, hm⟩ := F0
  have G : FnOk P w K mg base CX0 5 f fd ["game", "number", "good"] (sp_throw K A) := F.ok sc_throw (fun vs H Q E h => len_throw h) (fun cdv Ar outer s H vs Q E hr h => ⟨t_throw K A, tie_throw T D_is_number D_is_truth D_refusal D_is_any_short D_on_court D_go_on_behind D_points_of D_stands hr, pure_throw T h⟩)
  exact ⟨f, fd, G, hm, F.kp, F.binds (ps := ["game", "number", "good"]) (fun _ _ _ _ _ _ us hl => match us, hl with | [_, _, _], _ => rfl)⟩

theorem ok_tip {P : Program} {w : World} {K : PySem.W.Frag} {mg : Str → Option Value} {base : Heap} {A : Ad} (T : Txt K mg A) (D_is_side : Def P w K mg base "is_side" ["number"] 1 (sp_is_side K A)) (D_begin_period : Def P w K mg base "begin_period" ["game"] 3 (sp_begin_period K A)) (D_stands : Def P w K mg base "stands" ["game"] 2 (sp_stands K A)) (F0 : TopFn K mg "tip" s_tip) : Def P w K mg base "tip" ["game", "side"] 4 (sp_tip K A) := by
  obtain ⟨f, fd, F, hm⟩ := F0
  have G : FnOk P w K mg base CX0 4 f fd ["game", "side"] (sp_tip K A) := F.ok sc_tip (fun vs H Q E h => len_tip h) (fun cdv Ar outer s H vs Q E hr h => ⟨t_tip K A, tie_tip T D_is_side D_begin_period D_stands hr, pure_tip T h⟩)
  exact ⟨f, fd, G, hm, F.kp, F.binds (ps := ["game", "side"]) (fun _ _ _ _ _ _ us hl => match us, hl with | [_, _], _ => rfl)⟩

theorem ok_time_to_stop {P : Program} {w : World} {K : PySem.W.Frag} {mg : Str → Option Value} {base : Heap} {A : Ad} (T : Txt K mg A) (F0 : TopFn K mg "time_to_stop" s_time_to_stop) : Def P w K mg base "time_to_stop" ["game"] 1 (sp_time_to_stop K A) := by
  obtain ⟨f, fd, F, hm⟩ := F0
  have G : FnOk P w K mg base CX0 1 f fd ["game"] (sp_time_to_stop K A) := F.ok sc_time_to_stop (fun vs H Q E h => len_time_to_stop h) (fun cdv Ar outer s H vs Q E hr h => ⟨t_time_to_stop K A, tie_time_to_stop T hr, pure_time_to_stop T h⟩)
  exact ⟨f, fd, G, hm, F.kp, F.binds (ps := ["game"]) (fun _ _ _ _ _ _ us hl => match us, hl with | [_], _ => rfl)⟩

theorem ok_let_run {P : Program} {w : World} {K : PySem.W.Frag} {mg : Str → Option Value} {base : Heap} {A : Ad} (T : Txt K mg A) (D_end_period : Def P w K mg base "end_period" ["game"] 4 (sp_end_period K A)) (D_other : Def P w K mg base "other" ["side"] 1 (sp_other K A)) (D_give_ball : Def P w K mg base "give_ball" ["game", "side", "shot"] 1 (sp_give_ball K A)) (F0 : TopFn K mg "let_run" s_let_run) : Def P w K mg base "let_run" ["game", "tenths"] 5 (sp_let_run K A) := by
  obtain ⟨f, fd, F, hm⟩ := F0
  have G : FnOk P w K mg base CX0 5 f fd ["game", "tenths"] (sp_let_run K A) := F.ok sc_let_run (fun vs H Q E h => len_let_run h) (fun cdv Ar outer s H vs Q E hr h => ⟨t_let_run K A, tie_let_run T D_end_period D_other D_give_ball hr, pure_let_run T h⟩)
  exact ⟨f, fd, G, hm, F.kp, F.binds (ps := ["game", "tenths"]) (fun _ _ _ _ _ _ us hl => match us, hl with | [_, _], _ => rfl)⟩

theorem ok_run {P : Program} {w : World} {K : PySem.W.Frag} {mg : Str → Option Value} {base : Heap} {A : Ad} (T : Txt K mg A) (D_refusal_in_play : Def P w K mg base "refusal_in_play" ["game", "right"] 5 (sp_refusal_in_play K A)) (D_time_to_stop : Def P w K mg base "time_to_stop" ["game"] 1 (sp_time_to_stop K A)) (D_let_run : Def P w K mg base "let_run" ["game", "tenths"] 5 (sp_let_run K A)) (D_stands : Def P w K mg base "stands" ["game"] 2 (sp_stands K A)) (F0 : TopFn K mg "run" s_run) : Def P w K mg base "run" ["game", "tenths"] 6 (sp_run K A) := by
  obtain ⟨f, fd, F, hm⟩ := F0
  have G : FnOk P w K mg base CX0 6 f fd ["game", "tenths"] (sp_run K A) := F.ok sc_run (fun vs H Q E h => len_run h) (fun cdv Ar outer s H vs Q E hr h => ⟨t_run K A, tie_run T D_refusal_in_play D_time_to_stop D_let_run D_stands hr, pure_run T h⟩)
  exact ⟨f, fd, G, hm, F.kp, F.binds (ps := ["game", "tenths"]) (fun _ _ _ _ _ _ us hl => match us, hl with | [_, _], _ => rfl)⟩

theorem ok_basket {P : Program} {w : World} {K : PySem.W.Frag} {mg : Str → Option Value} {base : Heap} {A : Ad} (T : Txt K mg A) (D_is_number : Def P w K mg base "is_number" ["number"] 1 (sp_is_number K A)) (D_refusal_in_play : Def P w K mg base "refusal_in_play" ["game", "right"] 5 (sp_refusal_in_play K A)) (D_on_court : Def P w K mg base "on_court" ["team", "number"] 1 (sp_on_court K A)) (D_other : Def P w K mg base "other" ["side"] 1 (sp_other K A)) (D_give_ball : Def P w K mg base "give_ball" ["game", "side", "shot"] 1 (sp_give_ball K A)) (D_points_of : Def P w K mg base "points_of" ["team"] 1 (sp_points_of K A)) (D_stands : Def P w K mg base "stands" ["game"] 2 (sp_stands K A)) (F0 : TopFn K mg "basket" s_basket) : Def P w K mg base "basket" ["game", "number", "points"] 6 (sp_basket K A) := by
  obtain ⟨f, fd, F, hm⟩ := F0
  have G : FnOk P w K mg base CX0 6 f fd ["game", "number", "points"] (sp_basket K A) := F.ok sc_basket (fun vs H Q E h => len_basket h) (fun cdv Ar outer s H vs Q E hr h => ⟨t_basket K A, tie_basket T D_is_number D_refusal_in_play D_on_court D_other D_give_ball D_points_of D_stands hr, pure_basket T h⟩)
  exact ⟨f, fd, G, hm, F.kp, F.binds (ps := ["game", "number", "points"]) (fun _ _ _ _ _ _ us hl => match us, hl with | [_, _, _], _ => rfl)⟩

theorem ok_miss {P : Program} {w : World} {K : PySem.W.Frag} {mg : Str → Option Value} {base : Heap} {A : Ad} (T : Txt K mg A) (D_is_number : Def P w K mg base "is_number" ["number"] 1 (sp_is_number K A)) (D_is_truth : Def P w K mg base "is_truth" ["number"] 1 (sp_is_truth K A)) (D_refusal_in_play : Def P w K mg base "refusal_in_play" ["game", "right"] 5 (sp_refusal_in_play K A)) (D_on_court : Def P w K mg base "on_court" ["team", "number"] 1 (sp_on_court K A)) (D_miss_by : Def P w K mg base "miss_by" ["game", "side", "ring"] 1 (sp_miss_by K A)) (D_stands : Def P w K mg base "stands" ["game"] 2 (sp_stands K A)) (F0 : TopFn K mg "miss" s_miss) : Def P w K mg base "miss" ["game", "number", "ring"] 6 (sp_miss K A) := by
  obtain ⟨f, fd, F, hm⟩ := F0
  have G : FnOk P w K mg base CX0 6 f fd ["game", "number", "ring"] (sp_miss K A) := F.ok sc_miss (fun vs H Q E h => len_miss h) (fun cdv Ar outer s H vs Q E hr h => ⟨t_miss K A, tie_miss T D_is_number D_is_truth D_refusal_in_play D_on_court D_miss_by D_stands hr, pure_miss T h⟩)
  exact ⟨f, fd, G, hm, F.kp, F.binds (ps := ["game", "number", "ring"]) (fun _ _ _ _ _ _ us hl => match us, hl with | [_, _, _], _ => rfl)⟩

theorem ok_shot_behind {P : Program} {w : World} {K : PySem.W.Frag} {mg : Str → Option Value} {base : Heap} {A : Ad} (T : Txt K mg A) (F0 : TopFn K mg "shot_behind" s_shot_behind) : Def P w K mg base "shot_behind" ["game", "side"] 1 (sp_shot_behind K A) := by
  obtain ⟨f, fd, F, hm⟩ := F0
  have G : FnOk P w K mg base CX0 1 f fd ["game", "side"] (sp_shot_behind K A) := F.ok sc_shot_behind (fun vs H Q E h => len_shot_behind h) (fun cdv Ar outer s H vs Q E hr h => ⟨t_shot_behind K A, tie_shot_behind T hr, pure_shot_behind T h⟩)
  exact ⟨f, fd, G, hm, F.kp, F.binds (ps := ["game", "side"]) (fun _ _ _ _ _ _ us hl => match us, hl with | [_, _], _ => rfl)⟩

theorem ok_rebound {P : Program} {w : World} {K : PySem.W.Frag} {mg : Str → Option Value} {base : Heap} {A : Ad} (T : Txt K mg A) (D_is_side : Def P w K mg base "is_side" ["number"] 1 (sp_is_side K A)) (D_refusal_in_play : Def P w K mg base "refusal_in_play" ["game", "right"] 5 (sp_refusal_in_play K A)) (D_shot_behind : Def P w K mg base "shot_behind" ["game", "side"] 1 (sp_shot_behind K A)) (D_give_ball : Def P w K mg base "give_ball" ["game", "side", "shot"] 1 (sp_give_ball K A)) (D_stands : Def P w K mg base "stands" ["game"] 2 (sp_stands K A)) (F0 : TopFn K mg "rebound" s_rebound) : Def P w K mg base "rebound" ["game", "side"] 6 (sp_rebound K A) := by
  obtain ⟨f, fd, F, hm⟩ := F0
  have G : FnOk P w K mg base CX0 6 f fd ["game", "side"] (sp_rebound K A) := F.ok sc_rebound (fun vs H Q E h => len_rebound h) (fun cdv Ar outer s H vs Q E hr h => ⟨t_rebound K A, tie_rebound T D_is_side D_refusal_in_play D_shot_behind D_give_ball D_stands hr, pure_rebound T h⟩)
  exact ⟨f, fd, G, hm, F.kp, F.binds (ps := ["game", "side"]) (fun _ _ _ _ _ _ us hl => match us, hl with | [_, _], _ => rfl)⟩

theorem ok_lose {P : Program} {w : World} {K : PySem.W.Frag} {mg : Str → Option Value} {base : Heap} {A : Ad} (T : Txt K mg A) (D_refusal_in_play : Def P w K mg base "refusal_in_play" ["game", "right"] 5 (sp_refusal_in_play K A)) (D_other : Def P w K mg base "other" ["side"] 1 (sp_other K A)) (D_give_ball : Def P w K mg base "give_ball" ["game", "side", "shot"] 1 (sp_give_ball K A)) (D_stands : Def P w K mg base "stands" ["game"] 2 (sp_stands K A)) (F0 : TopFn K mg "lose" s_lose) : Def P w K mg base "lose" ["game"] 6 (sp_lose K A) := by
  obtain ⟨f, fd, F, hm⟩ := F0
  have G : FnOk P w K mg base CX0 6 f fd ["game"] (sp_lose K A) := F.ok sc_lose (fun vs H Q E h => len_lose h) (fun cdv Ar outer s H vs Q E hr h => ⟨t_lose K A, tie_lose T D_refusal_in_play D_other D_give_ball D_stands hr, pure_lose T h⟩)
  exact ⟨f, fd, G, hm, F.kp, F.binds (ps := ["game"]) (fun _ _ _ _ _ _ us hl => match us, hl with | [_], _ => rfl)⟩

theorem ok_held {P : Program} {w : World} {K : PySem.W.Frag} {mg : Str → Option Value} {base : Heap} {A : Ad} (T : Txt K mg A) (D_refusal_in_play : Def P w K mg base "refusal_in_play" ["game", "right"] 5 (sp_refusal_in_play K A)) (D_give_ball : Def P w K mg base "give_ball" ["game", "side", "shot"] 1 (sp_give_ball K A)) (D_turn_arrow : Def P w K mg base "turn_arrow" ["game"] 2 (sp_turn_arrow K A)) (D_stands : Def P w K mg base "stands" ["game"] 2 (sp_stands K A)) (F0 : TopFn K mg "held" s_held) : Def P w K mg base "held" ["game"] 6 (sp_held K A) := by
  obtain ⟨f, fd, F, hm⟩ := F0
  have G : FnOk P w K mg base CX0 6 f fd ["game"] (sp_held K A) := F.ok sc_held (fun vs H Q E h => len_held h) (fun cdv Ar outer s H vs Q E hr h => ⟨t_held K A, tie_held T D_refusal_in_play D_give_ball D_turn_arrow D_stands hr, pure_held T h⟩)
  exact ⟨f, fd, G, hm, F.kp, F.binds (ps := ["game"]) (fun _ _ _ _ _ _ us hl => match us, hl with | [_], _ => rfl)⟩

theorem ok_rows_at {P : Program} {w : World} {K : PySem.W.Frag} {mg : Str → Option Value} {base : Heap} {A : Ad} (T : Txt K mg A) (F0 : TopFn K mg "rows_at" s_rows_at) : Def P w K mg base "rows_at" ["calls", "at"] 1 (sp_rows_at K A) := by
  obtain ⟨f, fd, F, hm⟩ := F0
  have G : FnOk P w K mg base CX0 1 f fd ["calls", "at"] (sp_rows_at K A) := F.ok sc_rows_at (fun vs H Q E h => len_rows_at h) (fun cdv Ar outer s H vs Q E hr h => ⟨t_rows_at K A, tie_rows_at T hr, pure_rows_at T h⟩)
  exact ⟨f, fd, G, hm, F.kp, F.binds (ps := ["calls", "at"]) (fun _ _ _ _ _ _ us hl => match us, hl with | [_, _], _ => rfl)⟩

theorem ok_parted {P : Program} {w : World} {K : PySem.W.Frag} {mg : Str → Option Value} {base : Heap} {A : Ad} (T : Txt K mg A) (D_rows_at : Def P w K mg base "rows_at" ["calls", "at"] 1 (sp_rows_at K A)) (F0 : TopFn K mg "parted" s_parted) : Def P w K mg base "parted" ["calls"] 2 (sp_parted K A) := by
  obtain ⟨f, fd, F, hm⟩ := F0
  have G : FnOk P w K mg base CX0 2 f fd ["calls"] (sp_parted K A) := F.ok sc_parted (fun vs H Q E h => len_parted h) (fun cdv Ar outer s H vs Q E hr h => ⟨t_parted K A, tie_parted T D_rows_at hr, pure_parted T h⟩)
  exact ⟨f, fd, G, hm, F.kp, F.binds (ps := ["calls"]) (fun _ _ _ _ _ _ us hl => match us, hl with | [_], _ => rfl)⟩

theorem ok_now {P : Program} {w : World} {K : PySem.W.Frag} {mg : Str → Option Value} {base : Heap} {A : Ad} (T : Txt K mg A) (D_stands : Def P w K mg base "stands" ["game"] 2 (sp_stands K A)) (F0 : TopFn K mg "now" s_now) : Def P w K mg base "now" ["game"] 3 (sp_now K A) := by
  obtain ⟨f, fd, F, hm⟩ := F0
  have G : FnOk P w K mg base CX0 3 f fd ["game"] (sp_now K A) := F.ok sc_now (fun vs H Q E h => len_now h) (fun cdv Ar outer s H vs Q E hr h => ⟨t_now K A, tie_now T D_stands hr, pure_now T h⟩)
  exact ⟨f, fd, G, hm, F.kp, F.binds (ps := ["game"]) (fun _ _ _ _ _ _ us hl => match us, hl with | [_], _ => rfl)⟩

theorem ok_in_play {P : Program} {w : World} {K : PySem.W.Frag} {mg : Str → Option Value} {base : Heap} {A : Ad} (T : Txt K mg A) (D_tip : Def P w K mg base "tip" ["game", "side"] 4 (sp_tip K A)) (D_run : Def P w K mg base "run" ["game", "tenths"] 6 (sp_run K A)) (D_basket : Def P w K mg base "basket" ["game", "number", "points"] 6 (sp_basket K A)) (D_miss : Def P w K mg base "miss" ["game", "number", "ring"] 6 (sp_miss K A)) (D_rebound : Def P w K mg base "rebound" ["game", "side"] 6 (sp_rebound K A)) (D_lose : Def P w K mg base "lose" ["game"] 6 (sp_lose K A)) (D_held : Def P w K mg base "held" ["game"] 6 (sp_held K A)) (F0 : TopFn K mg "in_play" s_in_play) : Def P w K mg base "in_play" ["game", "word", "told"] 7 (sp_in_play K A) := by
  obtain ⟨f, fd, F, hm⟩ := F0
  have G : FnOk P w K mg base CX0 7 f fd ["game", "word", "told"] (sp_in_play K A) := F.ok sc_in_play (fun vs H Q E h => len_in_play h) (fun cdv Ar outer s H vs Q E hr h => ⟨t_in_play K A, tie_in_play T D_tip D_run D_basket D_miss D_rebound D_lose D_held hr, pure_in_play T h⟩)
  exact ⟨f, fd, G, hm, F.kp, F.binds (ps := ["game", "word", "told"]) (fun _ _ _ _ _ _ us hl => match us, hl with | [_, _, _], _ => rfl)⟩

theorem ok_beside_play {P : Program} {w : World} {K : PySem.W.Frag} {mg : Str → Option Value} {base : Heap} {A : Ad} (T : Txt K mg A) (D_foul : Def P w K mg base "foul" ["game", "side", "number", "kind", "shot"] 6 (sp_foul K A)) (D_throw : Def P w K mg base "throw" ["game", "number", "good"] 5 (sp_throw K A)) (D_sub : Def P w K mg base "sub" ["game", "side", "goes", "comes"] 4 (sp_sub K A)) (D_enter : Def P w K mg base "enter" ["game", "side", "comes"] 4 (sp_enter K A)) (D_timeout : Def P w K mg base "timeout" ["game", "side"] 3 (sp_timeout K A)) (D_now : Def P w K mg base "now" ["game"] 3 (sp_now K A)) (D_sheet : Def P w K mg base "sheet" ["game", "side"] 4 (sp_sheet K A)) (F0 : TopFn K mg "beside_play" s_beside_play) : Def P w K mg base "beside_play" ["game", "word", "told"] 7 (sp_beside_play K A) := by
  obtain ⟨f, fd, F, hm⟩ := F0
  have G : FnOk P w K mg base CX0 7 f fd ["game", "word", "told"] (sp_beside_play K A) := F.ok sc_beside_play (fun vs H Q E h => len_beside_play h) (fun cdv Ar outer s H vs Q E hr h => ⟨t_beside_play K A, tie_beside_play T D_foul D_throw D_sub D_enter D_timeout D_now D_sheet hr, pure_beside_play T h⟩)
  exact ⟨f, fd, G, hm, F.kp, F.binds (ps := ["game", "word", "told"]) (fun _ _ _ _ _ _ us hl => match us, hl with | [_, _, _], _ => rfl)⟩

theorem ok_answers {P : Program} {w : World} {K : PySem.W.Frag} {mg : Str → Option Value} {base : Heap} {A : Ad} (T : Txt K mg A) (D_parted : Def P w K mg base "parted" ["calls"] 2 (sp_parted K A)) (D_are_players : Def P w K mg base "are_players" ["numbers"] 2 (sp_are_players K A)) (D_in_play : Def P w K mg base "in_play" ["game", "word", "told"] 7 (sp_in_play K A)) (D_beside_play : Def P w K mg base "beside_play" ["game", "word", "told"] 7 (sp_beside_play K A)) (M_Game : MkD P w K mg base A.cG "Game" ["self", "first", "second"] 5 (sp_init_Game K A)) (F0 : TopFn K mg "answers" s_answers) : Def P w K mg base "answers" ["calls"] 8 (sp_answers K A) := by
  obtain ⟨f, fd, F, hm⟩ := F0
  have G : FnOk P w K mg base CX0 8 f fd ["calls"] (sp_answers K A) := F.ok sc_answers (fun vs H Q E h => len_answers h) (fun cdv Ar outer s H vs Q E hr h => ⟨t_answers K A, tie_answers T D_parted D_are_players D_in_play D_beside_play M_Game hr, pure_answers T h⟩)
  exact ⟨f, fd, G, hm, F.kp, F.binds (ps := ["calls"]) (fun _ _ _ _ _ _ us hl => match us, hl with | [_], _ => rfl)⟩

end CtW
/-! All put together. -/
namespace CtW
open PySem PySem.Spec PyProof.Rows L2
theorem top_fn {K : PySem.W.Frag} {h : Heap} {mg : Str → Option Value} (X : K.In h) (G : h.Ns mainGlobals mg) {x : Str} {st : Stmt} {f : Addr} {oc : Value} {od an : Option Addr} {osl : Array (Option Value)} {kV doc pm cdv ct : Value} (a : PySem.W.nsIn K mainGlobals x = some (some (.ref f)))
    (l : K.lookup f = some ⟨oc, od, .func (PySem.W.fnOf x x (defArgs st) (defBody st) (defScope st) .none kV doc pm an cdv ct), osl⟩) (c : PySem.W.codeIn K cdv x = true) (k : PySem.W.keepIn K (.ref f) = true) : TopFn K mg x st := ⟨f, _, fun_mk l c k, PySem.W.mg_of X G a⟩
theorem top_cls {K : PySem.W.Frag} {h : Heap} {mg : Str → Option Value} (X : K.In h) (G : h.Ns mainGlobals mg) {x q : Str} {st : Stmt} {C f : Addr} {oc : Value} {od an : Option Addr} {osl : Array (Option Value)} {kV doc pm cdv ct : Value} (eq : q = x ++ ".__init__") (a : PySem.W.nsIn K mainGlobals x = some (some (.ref C)))
    (i : PySem.W.findIn K (.ref C) "__init__" = some (some (.ref f))) (j : PySem.W.isFn K (.ref f) = true) (m : PySem.W.makesIn K C = true) (n : PySem.W.keepIn K (.ref C) = true)
    (l : K.lookup f = some ⟨oc, od, .func (PySem.W.fnOf "__init__" q (defArgs st) (defBody st) (defScope st) .none kV doc pm an cdv ct), osl⟩) (c : PySem.W.codeIn K cdv q = true) (k : PySem.W.keepIn K (.ref f) = true) : TopCls K mg x C st := by
  subst eq
  exact ⟨f, _, fun_mk l c k, ⟨m, i, j, n⟩, PySem.W.mg_of X G a⟩
theorem txt_mk {K : PySem.W.Frag} {h : Heap} {mg : Str → Option Value} (X : K.In h) (G : h.Ns mainGlobals mg) {cP cT cC cH cG dC : Addr} {nC : Nat} {k_FOULS_OUT k_HEAVY_OUT k_TECHNICAL_players k_DISQUALIFYING k_NOBODY k_QUARTER k_EXTRA k_QUARTERS k_FULL_SHOT k_SHORT_SHOT k_FIVE k_FEWEST_PLAYERS k_MOST_PLAYERS k_GREATEST_NUMBER k_MOST_TENTHS k_WRONG k_NOT_PLAYED k_THROWS_THERE k_BALL_ELSEWHERE k_NOT_THERE k_COURT_SHORT k_AS_IT_WAS k_THEIR_BALL k_PLAYED_ON k_FIRST_OF_LAST_TWO k_TWO_QUARTERS k_PERSONAL k_TECHNICAL_fouls k_FEWEST_ON_COURT k_BEGIN : Tok} {t2 u2 t3 u3 t4 u4 t5 u5 t6 u6 t7 u7 t8 u8 t9 u9 t10 u10 t11 u11 t12 u12 t13 u13 t14 u14 t15 u15 : Tok}
    (bP : PySem.W.nsIn K mainGlobals "Player" = some (some (.ref cP)))
    (bT : PySem.W.nsIn K mainGlobals "Team" = some (some (.ref cT)))
    (bC : PySem.W.nsIn K mainGlobals "Clock" = some (some (.ref cC)))
    (bH : PySem.W.nsIn K mainGlobals "Throws" = some (some (.ref cH)))
    (bG : PySem.W.nsIn K mainGlobals "Game" = some (some (.ref cG)))
    (pgP : PySem.W.plainGet K cP Str.empty = true) (hdP : PySem.W.hasDictIn K cP = true) (poP : PySem.W.plainOver K cP = true) (saP : PySem.W.findIn K (.ref cP) "__setattr__" = some (some (.builtin "object.__setattr__")))
    (pgT : PySem.W.plainGet K cT Str.empty = true) (hdT : PySem.W.hasDictIn K cT = true) (poT : PySem.W.plainOver K cT = true) (saT : PySem.W.findIn K (.ref cT) "__setattr__" = some (some (.builtin "object.__setattr__")))
    (pgC : PySem.W.plainGet K cC Str.empty = true) (hdC : PySem.W.hasDictIn K cC = true) (poC : PySem.W.plainOver K cC = true) (saC : PySem.W.findIn K (.ref cC) "__setattr__" = some (some (.builtin "object.__setattr__")))
    (pgH : PySem.W.plainGet K cH Str.empty = true) (hdH : PySem.W.hasDictIn K cH = true) (poH : PySem.W.plainOver K cH = true) (saH : PySem.W.findIn K (.ref cH) "__setattr__" = some (some (.builtin "object.__setattr__")))
    (pgG : PySem.W.plainGet K cG Str.empty = true) (hdG : PySem.W.hasDictIn K cG = true) (poG : PySem.W.plainOver K cG = true) (saG : PySem.W.findIn K (.ref cG) "__setattr__" = some (some (.builtin "object.__setattr__")))
    (aP_number : PySem.W.findIn K (.ref cP) "number" = some none)
    (aP_points : PySem.W.findIn K (.ref cP) "points" = some none)
    (aP_personal : PySem.W.findIn K (.ref cP) "personal" = some none)
    (aP_technical : PySem.W.findIn K (.ref cP) "technical" = some none)
    (aP_heavy : PySem.W.findIn K (.ref cP) "heavy" = some none)
    (aP_sent_off : PySem.W.findIn K (.ref cP) "sent_off" = some none)
    (aP_on_court : PySem.W.findIn K (.ref cP) "on_court" = some none)
    (aT_players : PySem.W.findIn K (.ref cT) "players" = some none)
    (aT_fouls : PySem.W.findIn K (.ref cT) "fouls" = some none)
    (aT_timeouts : PySem.W.findIn K (.ref cT) "timeouts" = some none)
    (aC_period : PySem.W.findIn K (.ref cC) "period" = some none)
    (aC_left : PySem.W.findIn K (.ref cC) "left" = some none)
    (aC_shot : PySem.W.findIn K (.ref cC) "shot" = some none)
    (aH_many : PySem.W.findIn K (.ref cH) "many" = some none)
    (aH_side : PySem.W.findIn K (.ref cH) "side" = some none)
    (aH_behind : PySem.W.findIn K (.ref cH) "behind" = some none)
    (aG_teams : PySem.W.findIn K (.ref cG) "teams" = some none)
    (aG_clock : PySem.W.findIn K (.ref cG) "clock" = some none)
    (aG_throws : PySem.W.findIn K (.ref cG) "throws" = some none)
    (aG_ball : PySem.W.findIn K (.ref cG) "ball" = some none)
    (aG_arrow : PySem.W.findIn K (.ref cG) "arrow" = some none)
    (aG_missed : PySem.W.findIn K (.ref cG) "missed" = some none)
    (aG_ring : PySem.W.findIn K (.ref cG) "ring" = some none)
    (aG_winner : PySem.W.findIn K (.ref cG) "winner" = some none)
    (g_FOULS_OUT : PySem.W.nsIn K mainGlobals "FOULS_OUT" = some (some (.int (5) k_FOULS_OUT)))
    (g_HEAVY_OUT : PySem.W.nsIn K mainGlobals "HEAVY_OUT" = some (some (.int (2) k_HEAVY_OUT)))
    (g_TECHNICAL_players : PySem.W.nsIn K mainGlobals "TECHNICAL_players" = some (some (.int (1) k_TECHNICAL_players)))
    (g_DISQUALIFYING : PySem.W.nsIn K mainGlobals "DISQUALIFYING" = some (some (.int (3) k_DISQUALIFYING)))
    (g_NOBODY : PySem.W.nsIn K mainGlobals "NOBODY" = some (some (.int (-1) k_NOBODY)))
    (g_QUARTER : PySem.W.nsIn K mainGlobals "QUARTER" = some (some (.int (6000) k_QUARTER)))
    (g_EXTRA : PySem.W.nsIn K mainGlobals "EXTRA" = some (some (.int (3000) k_EXTRA)))
    (g_QUARTERS : PySem.W.nsIn K mainGlobals "QUARTERS" = some (some (.int (4) k_QUARTERS)))
    (g_FULL_SHOT : PySem.W.nsIn K mainGlobals "FULL_SHOT" = some (some (.int (240) k_FULL_SHOT)))
    (g_SHORT_SHOT : PySem.W.nsIn K mainGlobals "SHORT_SHOT" = some (some (.int (140) k_SHORT_SHOT)))
    (g_FIVE : PySem.W.nsIn K mainGlobals "FIVE" = some (some (.int (5) k_FIVE)))
    (g_FEWEST_PLAYERS : PySem.W.nsIn K mainGlobals "FEWEST_PLAYERS" = some (some (.int (5) k_FEWEST_PLAYERS)))
    (g_MOST_PLAYERS : PySem.W.nsIn K mainGlobals "MOST_PLAYERS" = some (some (.int (12) k_MOST_PLAYERS)))
    (g_GREATEST_NUMBER : PySem.W.nsIn K mainGlobals "GREATEST_NUMBER" = some (some (.int (99) k_GREATEST_NUMBER)))
    (g_MOST_TENTHS : PySem.W.nsIn K mainGlobals "MOST_TENTHS" = some (some (.int (100000) k_MOST_TENTHS)))
    (g_WRONG : PySem.W.nsIn K mainGlobals "WRONG" = some (some (.int (-1) k_WRONG)))
    (g_NOT_PLAYED : PySem.W.nsIn K mainGlobals "NOT_PLAYED" = some (some (.int (-2) k_NOT_PLAYED)))
    (g_THROWS_THERE : PySem.W.nsIn K mainGlobals "THROWS_THERE" = some (some (.int (-3) k_THROWS_THERE)))
    (g_BALL_ELSEWHERE : PySem.W.nsIn K mainGlobals "BALL_ELSEWHERE" = some (some (.int (-4) k_BALL_ELSEWHERE)))
    (g_NOT_THERE : PySem.W.nsIn K mainGlobals "NOT_THERE" = some (some (.int (-5) k_NOT_THERE)))
    (g_COURT_SHORT : PySem.W.nsIn K mainGlobals "COURT_SHORT" = some (some (.int (-6) k_COURT_SHORT)))
    (g_AS_IT_WAS : PySem.W.nsIn K mainGlobals "AS_IT_WAS" = some (some (.int (0) k_AS_IT_WAS)))
    (g_THEIR_BALL : PySem.W.nsIn K mainGlobals "THEIR_BALL" = some (some (.int (1) k_THEIR_BALL)))
    (g_PLAYED_ON : PySem.W.nsIn K mainGlobals "PLAYED_ON" = some (some (.int (2) k_PLAYED_ON)))
    (g_FIRST_OF_LAST_TWO : PySem.W.nsIn K mainGlobals "FIRST_OF_LAST_TWO" = some (some (.int (3) k_FIRST_OF_LAST_TWO)))
    (g_TWO_QUARTERS : PySem.W.nsIn K mainGlobals "TWO_QUARTERS" = some (some (.int (2) k_TWO_QUARTERS)))
    (g_PERSONAL : PySem.W.nsIn K mainGlobals "PERSONAL" = some (some (.int (0) k_PERSONAL)))
    (g_TECHNICAL_fouls : PySem.W.nsIn K mainGlobals "TECHNICAL_fouls" = some (some (.int (1) k_TECHNICAL_fouls)))
    (g_FEWEST_ON_COURT : PySem.W.nsIn K mainGlobals "FEWEST_ON_COURT" = some (some (.int (2) k_FEWEST_ON_COURT)))
    (g_BEGIN : PySem.W.nsIn K mainGlobals "BEGIN" = some (some (.int (1) k_BEGIN)))
    (n_sum : PySem.W.nsIn K mainGlobals "sum" = some none)
    (n_len : PySem.W.nsIn K mainGlobals "len" = some none)
    (n_any : PySem.W.nsIn K mainGlobals "any" = some none)
    (n_int : PySem.W.nsIn K mainGlobals "int" = some none)
    (n_min : PySem.W.nsIn K mainGlobals "min" = some none)
    (n_max : PySem.W.nsIn K mainGlobals "max" = some none)
    (n_enumerate : PySem.W.nsIn K mainGlobals "enumerate" = some none)
    (tn : PySem.W.nsIn K mainGlobals "COUNTS" = some (some (.ref dC))) (tl : K.lookup dC = some ⟨.type "dict", none, .dict #[⟨2, .int 2 t2, .int 1 u2⟩, ⟨3, .int 3 t3, .int 1 u3⟩, ⟨4, .int 4 t4, .int 2 u4⟩, ⟨5, .int 5 t5, .int 2 u5⟩, ⟨6, .int 6 t6, .int 1 u6⟩, ⟨7, .int 7 t7, .int 0 u7⟩, ⟨8, .int 8 t8, .int 0 u8⟩, ⟨9, .int 9 t9, .int 4 u9⟩, ⟨10, .int 10 t10, .int 2 u10⟩, ⟨11, .int 11 t11, .int 3 u11⟩, ⟨12, .int 12 t12, .int 2 u12⟩, ⟨13, .int 13 t13, .int 1 u13⟩, ⟨14, .int 14 t14, .int 0 u14⟩, ⟨15, .int 15 t15, .int 1 u15⟩] nC, #[]⟩) (low : (dC == sysModules) = false) : Txt K mg ⟨cP, cT, cC, cH, cG⟩ where
  clP := ⟨pgP, hdP, poP, saP⟩
  aP_number := aP_number
  aP_points := aP_points
  aP_personal := aP_personal
  aP_technical := aP_technical
  aP_heavy := aP_heavy
  aP_sent_off := aP_sent_off
  aP_on_court := aP_on_court
  clT := ⟨pgT, hdT, poT, saT⟩
  aT_players := aT_players
  aT_fouls := aT_fouls
  aT_timeouts := aT_timeouts
  clC := ⟨pgC, hdC, poC, saC⟩
  aC_period := aC_period
  aC_left := aC_left
  aC_shot := aC_shot
  clH := ⟨pgH, hdH, poH, saH⟩
  aH_many := aH_many
  aH_side := aH_side
  aH_behind := aH_behind
  clG := ⟨pgG, hdG, poG, saG⟩
  aG_teams := aG_teams
  aG_clock := aG_clock
  aG_throws := aG_throws
  aG_ball := aG_ball
  aG_arrow := aG_arrow
  aG_missed := aG_missed
  aG_ring := aG_ring
  aG_winner := aG_winner
  g_FOULS_OUT := ⟨_, PySem.W.mg_of X G g_FOULS_OUT⟩
  g_HEAVY_OUT := ⟨_, PySem.W.mg_of X G g_HEAVY_OUT⟩
  g_TECHNICAL_players := ⟨_, PySem.W.mg_of X G g_TECHNICAL_players⟩
  g_DISQUALIFYING := ⟨_, PySem.W.mg_of X G g_DISQUALIFYING⟩
  g_NOBODY := ⟨_, PySem.W.mg_of X G g_NOBODY⟩
  g_QUARTER := ⟨_, PySem.W.mg_of X G g_QUARTER⟩
  g_EXTRA := ⟨_, PySem.W.mg_of X G g_EXTRA⟩
  g_QUARTERS := ⟨_, PySem.W.mg_of X G g_QUARTERS⟩
  g_FULL_SHOT := ⟨_, PySem.W.mg_of X G g_FULL_SHOT⟩
  g_SHORT_SHOT := ⟨_, PySem.W.mg_of X G g_SHORT_SHOT⟩
  g_FIVE := ⟨_, PySem.W.mg_of X G g_FIVE⟩
  g_FEWEST_PLAYERS := ⟨_, PySem.W.mg_of X G g_FEWEST_PLAYERS⟩
  g_MOST_PLAYERS := ⟨_, PySem.W.mg_of X G g_MOST_PLAYERS⟩
  g_GREATEST_NUMBER := ⟨_, PySem.W.mg_of X G g_GREATEST_NUMBER⟩
  g_MOST_TENTHS := ⟨_, PySem.W.mg_of X G g_MOST_TENTHS⟩
  g_WRONG := ⟨_, PySem.W.mg_of X G g_WRONG⟩
  g_NOT_PLAYED := ⟨_, PySem.W.mg_of X G g_NOT_PLAYED⟩
  g_THROWS_THERE := ⟨_, PySem.W.mg_of X G g_THROWS_THERE⟩
  g_BALL_ELSEWHERE := ⟨_, PySem.W.mg_of X G g_BALL_ELSEWHERE⟩
  g_NOT_THERE := ⟨_, PySem.W.mg_of X G g_NOT_THERE⟩
  g_COURT_SHORT := ⟨_, PySem.W.mg_of X G g_COURT_SHORT⟩
  g_AS_IT_WAS := ⟨_, PySem.W.mg_of X G g_AS_IT_WAS⟩
  g_THEIR_BALL := ⟨_, PySem.W.mg_of X G g_THEIR_BALL⟩
  g_PLAYED_ON := ⟨_, PySem.W.mg_of X G g_PLAYED_ON⟩
  g_FIRST_OF_LAST_TWO := ⟨_, PySem.W.mg_of X G g_FIRST_OF_LAST_TWO⟩
  g_TWO_QUARTERS := ⟨_, PySem.W.mg_of X G g_TWO_QUARTERS⟩
  g_PERSONAL := ⟨_, PySem.W.mg_of X G g_PERSONAL⟩
  g_TECHNICAL_fouls := ⟨_, PySem.W.mg_of X G g_TECHNICAL_fouls⟩
  g_FEWEST_ON_COURT := ⟨_, PySem.W.mg_of X G g_FEWEST_ON_COURT⟩
  g_BEGIN := ⟨_, PySem.W.mg_of X G g_BEGIN⟩
  n_sum := PySem.W.mg_none_of X G n_sum
  n_len := PySem.W.mg_none_of X G n_len
  n_any := PySem.W.mg_none_of X G n_any
  n_int := PySem.W.mg_none_of X G n_int
  n_min := PySem.W.mg_none_of X G n_min
  n_max := PySem.W.mg_none_of X G n_max
  n_enumerate := PySem.W.mg_none_of X G n_enumerate
  counts := ⟨dC, PySem.W.mg_of X G tn, wtab_mk tl low⟩
theorem all_ok {P : Program} {w : World} {K : PySem.W.Frag} {mg : Str → Option Value} {A : Ad} {fa : Addr} (T : Txt K mg A) (F_is_out : TopFn K mg "is_out" s_is_out) (F_is_on_bench : TopFn K mg "is_on_bench" s_is_on_bench) (F_note_foul : TopFn K mg "note_foul" s_note_foul) (F_written : TopFn K mg "written" s_written) (F_other : TopFn K mg "other" s_other) (F_is_side : TopFn K mg "is_side" s_is_side) (F_is_number : TopFn K mg "is_number" s_is_number) (F_is_truth : TopFn K mg "is_truth" s_is_truth) (F_are_players : TopFn K mg "are_players" s_are_players) (F_points_of : TopFn K mg "points_of" s_points_of) (F_on_court : TopFn K mg "on_court" s_on_court) (F_on_bench : TopFn K mg "on_bench" s_on_bench) (F_many_on_court : TopFn K mg "many_on_court" s_many_on_court) (F_is_short : TopFn K mg "is_short" s_is_short) (F_sheet_of : TopFn K mg "sheet_of" s_sheet_of) (F_stands : TopFn K mg "stands" s_stands) (F_is_played : TopFn K mg "is_played" s_is_played) (F_refusal : TopFn K mg "refusal" s_refusal) (F_is_any_short : TopFn K mg "is_any_short" s_is_any_short) (F_refusal_in_play : TopFn K mg "refusal_in_play" s_refusal_in_play) (F_give_ball : TopFn K mg "give_ball" s_give_ball) (F_miss_by : TopFn K mg "miss_by" s_miss_by) (F_end_game : TopFn K mg "end_game" s_end_game) (F_turn_arrow : TopFn K mg "turn_arrow" s_turn_arrow) (F_count_anew : TopFn K mg "count_anew" s_count_anew) (F_begin_period : TopFn K mg "begin_period" s_begin_period) (F_end_period : TopFn K mg "end_period" s_end_period) (F_sub : TopFn K mg "sub" s_sub) (F_enter : TopFn K mg "enter" s_enter) (F_most_timeouts : TopFn K mg "most_timeouts" s_most_timeouts) (F_timeout : TopFn K mg "timeout" s_timeout) (F_sheet : TopFn K mg "sheet" s_sheet) (F_throws_for : TopFn K mg "throws_for" s_throws_for) (F_bring : TopFn K mg "bring" s_bring) (F_is_right_foul : TopFn K mg "is_right_foul" s_is_right_foul) (F_is_shot_strange : TopFn K mg "is_shot_strange" s_is_shot_strange) (F_foul : TopFn K mg "foul" s_foul) (F_go_on_behind : TopFn K mg "go_on_behind" s_go_on_behind) (F_throw : TopFn K mg "throw" s_throw) (F_tip : TopFn K mg "tip" s_tip) (F_time_to_stop : TopFn K mg "time_to_stop" s_time_to_stop) (F_let_run : TopFn K mg "let_run" s_let_run) (F_run : TopFn K mg "run" s_run) (F_basket : TopFn K mg "basket" s_basket) (F_miss : TopFn K mg "miss" s_miss) (F_shot_behind : TopFn K mg "shot_behind" s_shot_behind) (F_rebound : TopFn K mg "rebound" s_rebound) (F_lose : TopFn K mg "lose" s_lose) (F_held : TopFn K mg "held" s_held) (F_rows_at : TopFn K mg "rows_at" s_rows_at) (F_parted : TopFn K mg "parted" s_parted) (F_now : TopFn K mg "now" s_now) (F_in_play : TopFn K mg "in_play" s_in_play) (F_beside_play : TopFn K mg "beside_play" s_beside_play) (F_answers : TopFn K mg "answers" s_answers) (C_Player : TopCls K mg "Player" A.cP s_init_Player) (C_Team : TopCls K mg "Team" A.cT s_init_Team) (C_Clock : TopCls K mg "Clock" A.cC s_init_Clock) (C_Throws : TopCls K mg "Throws" A.cH s_init_Throws) (C_Game : TopCls K mg "Game" A.cG s_init_Game) (hfa : mg "answers" = some (.ref fa)) :
    ∃ fd : FuncData, (∀ (s : Shared) (us : List Value), us.length = (["calls"] : List Str).length → BindsTo s fd ⟨us, []⟩ ((["calls"] : List Str).zip us)) ∧ ∀ base : Heap, FnOk P w K mg base CX0 8 fa fd ["calls"] (sp_answers K A) := by
  obtain ⟨f, fd, F, hm⟩ := F_answers
  have ef := hfa.symm.trans hm
  cases ef
  refine ⟨fd, ?_, fun base => ?_⟩
  · obtain ⟨oc, od, kV, doc, pm, an, cdv, ct, osl, rfl, lk, hcd⟩ := F.ex
    exact fun s us hu => match us, hu with | [_], _ => .of_eq rfl
  · have M_Player := ok_init_Player (P := P) (w := w) (base := base) T C_Player
    have D_is_out := ok_is_out (P := P) (w := w) (base := base) T F_is_out
    have D_other := ok_other (P := P) (w := w) (base := base) T F_other
    have D_is_side := ok_is_side (P := P) (w := w) (base := base) T F_is_side
    have D_is_number := ok_is_number (P := P) (w := w) (base := base) T F_is_number
    have D_is_truth := ok_is_truth (P := P) (w := w) (base := base) T F_is_truth
    have D_points_of := ok_points_of (P := P) (w := w) (base := base) T F_points_of
    have D_on_court := ok_on_court (P := P) (w := w) (base := base) T F_on_court
    have D_many_on_court := ok_many_on_court (P := P) (w := w) (base := base) T F_many_on_court
    have M_Clock := ok_init_Clock (P := P) (w := w) (base := base) T C_Clock
    have M_Throws := ok_init_Throws (P := P) (w := w) (base := base) T C_Throws
    have D_is_played := ok_is_played (P := P) (w := w) (base := base) T F_is_played
    have D_give_ball := ok_give_ball (P := P) (w := w) (base := base) T F_give_ball
    have D_miss_by := ok_miss_by (P := P) (w := w) (base := base) T F_miss_by
    have D_end_game := ok_end_game (P := P) (w := w) (base := base) T F_end_game
    have D_count_anew := ok_count_anew (P := P) (w := w) (base := base) T F_count_anew
    have D_most_timeouts := ok_most_timeouts (P := P) (w := w) (base := base) T F_most_timeouts
    have D_throws_for := ok_throws_for (P := P) (w := w) (base := base) T F_throws_for
    have D_is_shot_strange := ok_is_shot_strange (P := P) (w := w) (base := base) T F_is_shot_strange
    have D_time_to_stop := ok_time_to_stop (P := P) (w := w) (base := base) T F_time_to_stop
    have D_shot_behind := ok_shot_behind (P := P) (w := w) (base := base) T F_shot_behind
    have D_rows_at := ok_rows_at (P := P) (w := w) (base := base) T F_rows_at
    have D_is_on_bench := ok_is_on_bench (P := P) (w := w) (base := base) T D_is_out F_is_on_bench
    have D_note_foul := ok_note_foul (P := P) (w := w) (base := base) T D_is_out F_note_foul
    have D_written := ok_written (P := P) (w := w) (base := base) T D_is_out F_written
    have D_are_players := ok_are_players (P := P) (w := w) (base := base) T D_is_number F_are_players
    have D_stands := ok_stands (P := P) (w := w) (base := base) T D_points_of F_stands
    have D_refusal := ok_refusal (P := P) (w := w) (base := base) T D_is_played F_refusal
    have D_turn_arrow := ok_turn_arrow (P := P) (w := w) (base := base) T D_other F_turn_arrow
    have D_bring := ok_bring (P := P) (w := w) (base := base) T D_other D_throws_for D_give_ball F_bring
    have D_is_right_foul := ok_is_right_foul (P := P) (w := w) (base := base) T D_is_side D_is_number F_is_right_foul
    have D_go_on_behind := ok_go_on_behind (P := P) (w := w) (base := base) T D_give_ball D_other D_miss_by F_go_on_behind
    have D_parted := ok_parted (P := P) (w := w) (base := base) T D_rows_at F_parted
    have M_Team := ok_init_Team (P := P) (w := w) (base := base) T M_Player C_Team
    have D_on_bench := ok_on_bench (P := P) (w := w) (base := base) T D_is_on_bench F_on_bench
    have D_is_short := ok_is_short (P := P) (w := w) (base := base) T D_many_on_court D_is_on_bench F_is_short
    have D_sheet_of := ok_sheet_of (P := P) (w := w) (base := base) T D_points_of D_written F_sheet_of
    have D_begin_period := ok_begin_period (P := P) (w := w) (base := base) T D_count_anew D_give_ball D_turn_arrow F_begin_period
    have D_timeout := ok_timeout (P := P) (w := w) (base := base) T D_is_side D_refusal D_most_timeouts F_timeout
    have D_now := ok_now (P := P) (w := w) (base := base) T D_stands F_now
    have D_is_any_short := ok_is_any_short (P := P) (w := w) (base := base) T D_is_short F_is_any_short
    have D_end_period := ok_end_period (P := P) (w := w) (base := base) T D_points_of D_end_game D_begin_period F_end_period
    have D_sub := ok_sub (P := P) (w := w) (base := base) T D_is_side D_is_number D_refusal D_on_court D_on_bench F_sub
    have D_enter := ok_enter (P := P) (w := w) (base := base) T D_is_side D_is_number D_refusal D_on_bench D_many_on_court F_enter
    have D_sheet := ok_sheet (P := P) (w := w) (base := base) T D_is_side D_sheet_of F_sheet
    have D_tip := ok_tip (P := P) (w := w) (base := base) T D_is_side D_begin_period D_stands F_tip
    have M_Game := ok_init_Game (P := P) (w := w) (base := base) T M_Team M_Clock M_Throws C_Game
    have D_refusal_in_play := ok_refusal_in_play (P := P) (w := w) (base := base) T D_refusal D_is_any_short F_refusal_in_play
    have D_throw := ok_throw (P := P) (w := w) (base := base) T D_is_number D_is_truth D_refusal D_is_any_short D_on_court D_go_on_behind D_points_of D_stands F_throw
    have D_let_run := ok_let_run (P := P) (w := w) (base := base) T D_end_period D_other D_give_ball F_let_run
    have D_foul := ok_foul (P := P) (w := w) (base := base) T D_is_right_foul D_refusal_in_play D_on_court D_is_shot_strange D_note_foul D_many_on_court D_other D_end_game D_bring D_stands F_foul
    have D_run := ok_run (P := P) (w := w) (base := base) T D_refusal_in_play D_time_to_stop D_let_run D_stands F_run
    have D_basket := ok_basket (P := P) (w := w) (base := base) T D_is_number D_refusal_in_play D_on_court D_other D_give_ball D_points_of D_stands F_basket
    have D_miss := ok_miss (P := P) (w := w) (base := base) T D_is_number D_is_truth D_refusal_in_play D_on_court D_miss_by D_stands F_miss
    have D_rebound := ok_rebound (P := P) (w := w) (base := base) T D_is_side D_refusal_in_play D_shot_behind D_give_ball D_stands F_rebound
    have D_lose := ok_lose (P := P) (w := w) (base := base) T D_refusal_in_play D_other D_give_ball D_stands F_lose
    have D_held := ok_held (P := P) (w := w) (base := base) T D_refusal_in_play D_give_ball D_turn_arrow D_stands F_held
    have D_in_play := ok_in_play (P := P) (w := w) (base := base) T D_tip D_run D_basket D_miss D_rebound D_lose D_held F_in_play
    have D_beside_play := ok_beside_play (P := P) (w := w) (base := base) T D_foul D_throw D_sub D_enter D_timeout D_now D_sheet F_beside_play
    exact F.ok sc_answers (fun vs H Q E h => len_answers h) (fun cdv Ar outer s H vs Q E hr h => ⟨t_answers K A, tie_answers T D_parted D_are_players D_in_play D_beside_play M_Game hr, pure_answers T h⟩)
end CtW
open PySem PySem.W PyProof.Rows
set_option maxRecDepth 100000 in
set_option maxHeartbeats 0 in
theorem PySem.Challenge.cw_courttable_s01_answers_holds : PySem.Challenge.rw_courttable_s01_answers.Holds := by
  w_on; k_headS; (case hw => exact ⟨[.list [.int 14]], by decide +kernel, by decide +kernel⟩)
  k_fillS
  refine L2.walk_specK (r := PySem.Challenge.rw_courttable_s01_answers) (k := 8) (CX := L2.CX0) (ps := ["calls"]) (sp := fun K => CtW.sp_answers K ⟨0, 0, 0, 0, 0⟩) (by decide +kernel) rfl rfl ⟨rfl, by decide, by decide⟩ (fun w h Y => PySem.W.kIn_of Y) ?F ?S (fun _ _ _ _ z => z)
  case F =>
    intro w mg fa h Y KX G hmg
    have F_is_out := by
      refine' CtW.top_fn (x := "is_out") (st := CtW.s_is_out) KX G ?a ?l ?c ?k
      (case a => k_is); (case l => k_is); (case c => k_is); (case k => k_is)
    have F_is_on_bench := by
      refine' CtW.top_fn (x := "is_on_bench") (st := CtW.s_is_on_bench) KX G ?a ?l ?c ?k
      (case a => k_is); (case l => k_is); (case c => k_is); (case k => k_is)
    have F_note_foul := by
      refine' CtW.top_fn (x := "note_foul") (st := CtW.s_note_foul) KX G ?a ?l ?c ?k
      (case a => k_is); (case l => k_is); (case c => k_is); (case k => k_is)
    have F_written := by
      refine' CtW.top_fn (x := "written") (st := CtW.s_written) KX G ?a ?l ?c ?k
      (case a => k_is); (case l => k_is); (case c => k_is); (case k => k_is)
    have F_other := by
      refine' CtW.top_fn (x := "other") (st := CtW.s_other) KX G ?a ?l ?c ?k
      (case a => k_is); (case l => k_is); (case c => k_is); (case k => k_is)
    have F_is_side := by
      refine' CtW.top_fn (x := "is_side") (st := CtW.s_is_side) KX G ?a ?l ?c ?k
      (case a => k_is); (case l => k_is); (case c => k_is); (case k => k_is)
    have F_is_number := by
      refine' CtW.top_fn (x := "is_number") (st := CtW.s_is_number) KX G ?a ?l ?c ?k
      (case a => k_is); (case l => k_is); (case c => k_is); (case k => k_is)
    have F_is_truth := by
      refine' CtW.top_fn (x := "is_truth") (st := CtW.s_is_truth) KX G ?a ?l ?c ?k
      (case a => k_is); (case l => k_is); (case c => k_is); (case k => k_is)
    have F_are_players := by
      refine' CtW.top_fn (x := "are_players") (st := CtW.s_are_players) KX G ?a ?l ?c ?k
      (case a => k_is); (case l => k_is); (case c => k_is); (case k => k_is)
    have F_points_of := by
      refine' CtW.top_fn (x := "points_of") (st := CtW.s_points_of) KX G ?a ?l ?c ?k
      (case a => k_is); (case l => k_is); (case c => k_is); (case k => k_is)
    have F_on_court := by
      refine' CtW.top_fn (x := "on_court") (st := CtW.s_on_court) KX G ?a ?l ?c ?k
      (case a => k_is); (case l => k_is); (case c => k_is); (case k => k_is)
    have F_on_bench := by
      refine' CtW.top_fn (x := "on_bench") (st := CtW.s_on_bench) KX G ?a ?l ?c ?k
      (case a => k_is); (case l => k_is); (case c => k_is); (case k => k_is)
    have F_many_on_court := by
      refine' CtW.top_fn (x := "many_on_court") (st := CtW.s_many_on_court) KX G ?a ?l ?c ?k
      (case a => k_is); (case l => k_is); (case c => k_is); (case k => k_is)
    have F_is_short := by
      refine' CtW.top_fn (x := "is_short") (st := CtW.s_is_short) KX G ?a ?l ?c ?k
      (case a => k_is); (case l => k_is); (case c => k_is); (case k => k_is)
    have F_sheet_of := by
      refine' CtW.top_fn (x := "sheet_of") (st := CtW.s_sheet_of) KX G ?a ?l ?c ?k
      (case a => k_is); (case l => k_is); (case c => k_is); (case k => k_is)
    have F_stands := by
      refine' CtW.top_fn (x := "stands") (st := CtW.s_stands) KX G ?a ?l ?c ?k
      (case a => k_is); (case l => k_is); (case c => k_is); (case k => k_is)
    have F_is_played := by
      refine' CtW.top_fn (x := "is_played") (st := CtW.s_is_played) KX G ?a ?l ?c ?k
      (case a => k_is); (case l => k_is); (case c => k_is); (case k => k_is)
    have F_refusal := by
      refine' CtW.top_fn (x := "refusal") (st := CtW.s_refusal) KX G ?a ?l ?c ?k
      (case a => k_is); (case l => k_is); (case c => k_is); (case k => k_is)
    have F_is_any_short := by
      refine' CtW.top_fn (x := "is_any_short") (st := CtW.s_is_any_short) KX G ?a ?l ?c ?k
      (case a => k_is); (case l => k_is); (case c => k_is); (case k => k_is)
    have F_refusal_in_play := by
      refine' CtW.top_fn (x := "refusal_in_play") (st := CtW.s_refusal_in_play) KX G ?a ?l ?c ?k
      (case a => k_is); (case l => k_is); (case c => k_is); (case k => k_is)
    have F_give_ball := by
      refine' CtW.top_fn (x := "give_ball") (st := CtW.s_give_ball) KX G ?a ?l ?c ?k
      (case a => k_is); (case l => k_is); (case c => k_is); (case k => k_is)
    have F_miss_by := by
      refine' CtW.top_fn (x := "miss_by") (st := CtW.s_miss_by) KX G ?a ?l ?c ?k
      (case a => k_is); (case l => k_is); (case c => k_is); (case k => k_is)
    have F_end_game := by
      refine' CtW.top_fn (x := "end_game") (st := CtW.s_end_game) KX G ?a ?l ?c ?k
      (case a => k_is); (case l => k_is); (case c => k_is); (case k => k_is)
    have F_turn_arrow := by
      refine' CtW.top_fn (x := "turn_arrow") (st := CtW.s_turn_arrow) KX G ?a ?l ?c ?k
      (case a => k_is); (case l => k_is); (case c => k_is); (case k => k_is)
    have F_count_anew := by
      refine' CtW.top_fn (x := "count_anew") (st := CtW.s_count_anew) KX G ?a ?l ?c ?k
      (case a => k_is); (case l => k_is); (case c => k_is); (case k => k_is)
    have F_begin_period := by
      refine' CtW.top_fn (x := "begin_period") (st := CtW.s_begin_period) KX G ?a ?l ?c ?k
      (case a => k_is); (case l => k_is); (case c => k_is); (case k => k_is)
    have F_end_period := by
      refine' CtW.top_fn (x := "end_period") (st := CtW.s_end_period) KX G ?a ?l ?c ?k
      (case a => k_is); (case l => k_is); (case c => k_is); (case k => k_is)
    have F_sub := by
      refine' CtW.top_fn (x := "sub") (st := CtW.s_sub) KX G ?a ?l ?c ?k
      (case a => k_is); (case l => k_is); (case c => k_is); (case k => k_is)
    have F_enter := by
      refine' CtW.top_fn (x := "enter") (st := CtW.s_enter) KX G ?a ?l ?c ?k
      (case a => k_is); (case l => k_is); (case c => k_is); (case k => k_is)
    have F_most_timeouts := by
      refine' CtW.top_fn (x := "most_timeouts") (st := CtW.s_most_timeouts) KX G ?a ?l ?c ?k
      (case a => k_is); (case l => k_is); (case c => k_is); (case k => k_is)
    have F_timeout := by
      refine' CtW.top_fn (x := "timeout") (st := CtW.s_timeout) KX G ?a ?l ?c ?k
      (case a => k_is); (case l => k_is); (case c => k_is); (case k => k_is)
    have F_sheet := by
      refine' CtW.top_fn (x := "sheet") (st := CtW.s_sheet) KX G ?a ?l ?c ?k
      (case a => k_is); (case l => k_is); (case c => k_is); (case k => k_is)
    have F_throws_for := by
      refine' CtW.top_fn (x := "throws_for") (st := CtW.s_throws_for) KX G ?a ?l ?c ?k
      (case a => k_is); (case l => k_is); (case c => k_is); (case k => k_is)
    have F_bring := by
      refine' CtW.top_fn (x := "bring") (st := CtW.s_bring) KX G ?a ?l ?c ?k
      (case a => k_is); (case l => k_is); (case c => k_is); (case k => k_is)
    have F_is_right_foul := by
      refine' CtW.top_fn (x := "is_right_foul") (st := CtW.s_is_right_foul) KX G ?a ?l ?c ?k
      (case a => k_is); (case l => k_is); (case c => k_is); (case k => k_is)
    have F_is_shot_strange := by
      refine' CtW.top_fn (x := "is_shot_strange") (st := CtW.s_is_shot_strange) KX G ?a ?l ?c ?k
      (case a => k_is); (case l => k_is); (case c => k_is); (case k => k_is)
    have F_foul := by
      refine' CtW.top_fn (x := "foul") (st := CtW.s_foul) KX G ?a ?l ?c ?k
      (case a => k_is); (case l => k_is); (case c => k_is); (case k => k_is)
    have F_go_on_behind := by
      refine' CtW.top_fn (x := "go_on_behind") (st := CtW.s_go_on_behind) KX G ?a ?l ?c ?k
      (case a => k_is); (case l => k_is); (case c => k_is); (case k => k_is)
    have F_throw := by
      refine' CtW.top_fn (x := "throw") (st := CtW.s_throw) KX G ?a ?l ?c ?k
      (case a => k_is); (case l => k_is); (case c => k_is); (case k => k_is)
    have F_tip := by
      refine' CtW.top_fn (x := "tip") (st := CtW.s_tip) KX G ?a ?l ?c ?k
      (case a => k_is); (case l => k_is); (case c => k_is); (case k => k_is)
    have F_time_to_stop := by
      refine' CtW.top_fn (x := "time_to_stop") (st := CtW.s_time_to_stop) KX G ?a ?l ?c ?k
      (case a => k_is); (case l => k_is); (case c => k_is); (case k => k_is)
    have F_let_run := by
      refine' CtW.top_fn (x := "let_run") (st := CtW.s_let_run) KX G ?a ?l ?c ?k
      (case a => k_is); (case l => k_is); (case c => k_is); (case k => k_is)
    have F_run := by
      refine' CtW.top_fn (x := "run") (st := CtW.s_run) KX G ?a ?l ?c ?k
      (case a => k_is); (case l => k_is); (case c => k_is); (case k => k_is)
    have F_basket := by
      refine' CtW.top_fn (x := "basket") (st := CtW.s_basket) KX G ?a ?l ?c ?k
      (case a => k_is); (case l => k_is); (case c => k_is); (case k => k_is)
    have F_miss := by
      refine' CtW.top_fn (x := "miss") (st := CtW.s_miss) KX G ?a ?l ?c ?k
      (case a => k_is); (case l => k_is); (case c => k_is); (case k => k_is)
    have F_shot_behind := by
      refine' CtW.top_fn (x := "shot_behind") (st := CtW.s_shot_behind) KX G ?a ?l ?c ?k
      (case a => k_is); (case l => k_is); (case c => k_is); (case k => k_is)
    have F_rebound := by
      refine' CtW.top_fn (x := "rebound") (st := CtW.s_rebound) KX G ?a ?l ?c ?k
      (case a => k_is); (case l => k_is); (case c => k_is); (case k => k_is)
    have F_lose := by
      refine' CtW.top_fn (x := "lose") (st := CtW.s_lose) KX G ?a ?l ?c ?k
      (case a => k_is); (case l => k_is); (case c => k_is); (case k => k_is)
    have F_held := by
      refine' CtW.top_fn (x := "held") (st := CtW.s_held) KX G ?a ?l ?c ?k
      (case a => k_is); (case l => k_is); (case c => k_is); (case k => k_is)
    have F_rows_at := by
      refine' CtW.top_fn (x := "rows_at") (st := CtW.s_rows_at) KX G ?a ?l ?c ?k
      (case a => k_is); (case l => k_is); (case c => k_is); (case k => k_is)
    have F_parted := by
      refine' CtW.top_fn (x := "parted") (st := CtW.s_parted) KX G ?a ?l ?c ?k
      (case a => k_is); (case l => k_is); (case c => k_is); (case k => k_is)
    have F_now := by
      refine' CtW.top_fn (x := "now") (st := CtW.s_now) KX G ?a ?l ?c ?k
      (case a => k_is); (case l => k_is); (case c => k_is); (case k => k_is)
    have F_in_play := by
      refine' CtW.top_fn (x := "in_play") (st := CtW.s_in_play) KX G ?a ?l ?c ?k
      (case a => k_is); (case l => k_is); (case c => k_is); (case k => k_is)
    have F_beside_play := by
      refine' CtW.top_fn (x := "beside_play") (st := CtW.s_beside_play) KX G ?a ?l ?c ?k
      (case a => k_is); (case l => k_is); (case c => k_is); (case k => k_is)
    have F_answers := by
      refine' CtW.top_fn (x := "answers") (st := CtW.s_answers) KX G ?a ?l ?c ?k
      (case a => k_is); (case l => k_is); (case c => k_is); (case k => k_is)
    have C_Player := by
      refine' CtW.top_cls (x := "Player") (q := "Player.__init__") (st := CtW.s_init_Player) KX G rfl ?a ?i ?j ?m ?n ?l ?c ?k
      (case a => k_is); (case i => k_is); (case j => k_is); (case m => k_is); (case n => k_is); (case l => k_is); (case c => k_is); (case k => k_is)
    have C_Team := by
      refine' CtW.top_cls (x := "Team") (q := "Team.__init__") (st := CtW.s_init_Team) KX G rfl ?a ?i ?j ?m ?n ?l ?c ?k
      (case a => k_is); (case i => k_is); (case j => k_is); (case m => k_is); (case n => k_is); (case l => k_is); (case c => k_is); (case k => k_is)
    have C_Clock := by
      refine' CtW.top_cls (x := "Clock") (q := "Clock.__init__") (st := CtW.s_init_Clock) KX G rfl ?a ?i ?j ?m ?n ?l ?c ?k
      (case a => k_is); (case i => k_is); (case j => k_is); (case m => k_is); (case n => k_is); (case l => k_is); (case c => k_is); (case k => k_is)
    have C_Throws := by
      refine' CtW.top_cls (x := "Throws") (q := "Throws.__init__") (st := CtW.s_init_Throws) KX G rfl ?a ?i ?j ?m ?n ?l ?c ?k
      (case a => k_is); (case i => k_is); (case j => k_is); (case m => k_is); (case n => k_is); (case l => k_is); (case c => k_is); (case k => k_is)
    have C_Game := by
      refine' CtW.top_cls (x := "Game") (q := "Game.__init__") (st := CtW.s_init_Game) KX G rfl ?a ?i ?j ?m ?n ?l ?c ?k
      (case a => k_is); (case i => k_is); (case j => k_is); (case m => k_is); (case n => k_is); (case l => k_is); (case c => k_is); (case k => k_is)
    have T := by
      refine' CtW.txt_mk KX G ?bP ?bT ?bC ?bH ?bG ?pgP ?hdP ?poP ?saP ?pgT ?hdT ?poT ?saT ?pgC ?hdC ?poC ?saC ?pgH ?hdH ?poH ?saH ?pgG ?hdG ?poG ?saG ?aP_number ?aP_points ?aP_personal ?aP_technical ?aP_heavy ?aP_sent_off ?aP_on_court ?aT_players ?aT_fouls ?aT_timeouts ?aC_period ?aC_left ?aC_shot ?aH_many ?aH_side ?aH_behind ?aG_teams ?aG_clock ?aG_throws ?aG_ball ?aG_arrow ?aG_missed ?aG_ring ?aG_winner ?g_FOULS_OUT ?g_HEAVY_OUT ?g_TECHNICAL_players ?g_DISQUALIFYING ?g_NOBODY ?g_QUARTER ?g_EXTRA ?g_QUARTERS ?g_FULL_SHOT ?g_SHORT_SHOT ?g_FIVE ?g_FEWEST_PLAYERS ?g_MOST_PLAYERS ?g_GREATEST_NUMBER ?g_MOST_TENTHS ?g_WRONG ?g_NOT_PLAYED ?g_THROWS_THERE ?g_BALL_ELSEWHERE ?g_NOT_THERE ?g_COURT_SHORT ?g_AS_IT_WAS ?g_THEIR_BALL ?g_PLAYED_ON ?g_FIRST_OF_LAST_TWO ?g_TWO_QUARTERS ?g_PERSONAL ?g_TECHNICAL_fouls ?g_FEWEST_ON_COURT ?g_BEGIN ?n_sum ?n_len ?n_any ?n_int ?n_min ?n_max ?n_enumerate ?tn ?tl ?low
      (case bP => k_is); (case bT => k_is); (case bC => k_is); (case bH => k_is); (case bG => k_is); (case pgP => k_is)
      (case hdP => k_is); (case poP => k_is); (case saP => k_is); (case pgT => k_is); (case hdT => k_is); (case poT => k_is)
      (case saT => k_is); (case pgC => k_is); (case hdC => k_is); (case poC => k_is); (case saC => k_is); (case pgH => k_is)
      (case hdH => k_is); (case poH => k_is); (case saH => k_is); (case pgG => k_is); (case hdG => k_is); (case poG => k_is)
      (case saG => k_is); (case aP_number => k_is); (case aP_points => k_is); (case aP_personal => k_is); (case aP_technical => k_is); (case aP_heavy => k_is)
      (case aP_sent_off => k_is); (case aP_on_court => k_is); (case aT_players => k_is); (case aT_fouls => k_is); (case aT_timeouts => k_is); (case aC_period => k_is)
      (case aC_left => k_is); (case aC_shot => k_is); (case aH_many => k_is); (case aH_side => k_is); (case aH_behind => k_is); (case aG_teams => k_is)
      (case aG_clock => k_is); (case aG_throws => k_is); (case aG_ball => k_is); (case aG_arrow => k_is); (case aG_missed => k_is); (case aG_ring => k_is)
      (case aG_winner => k_is); (case g_FOULS_OUT => k_is); (case g_HEAVY_OUT => k_is); (case g_TECHNICAL_players => k_is); (case g_DISQUALIFYING => k_is); (case g_NOBODY => k_is)
      (case g_QUARTER => k_is); (case g_EXTRA => k_is); (case g_QUARTERS => k_is); (case g_FULL_SHOT => k_is); (case g_SHORT_SHOT => k_is); (case g_FIVE => k_is)
      (case g_FEWEST_PLAYERS => k_is); (case g_MOST_PLAYERS => k_is); (case g_GREATEST_NUMBER => k_is); (case g_MOST_TENTHS => k_is); (case g_WRONG => k_is); (case g_NOT_PLAYED => k_is)
      (case g_THROWS_THERE => k_is); (case g_BALL_ELSEWHERE => k_is); (case g_NOT_THERE => k_is); (case g_COURT_SHORT => k_is); (case g_AS_IT_WAS => k_is); (case g_THEIR_BALL => k_is)
      (case g_PLAYED_ON => k_is); (case g_FIRST_OF_LAST_TWO => k_is); (case g_TWO_QUARTERS => k_is); (case g_PERSONAL => k_is); (case g_TECHNICAL_fouls => k_is); (case g_FEWEST_ON_COURT => k_is)
      (case g_BEGIN => k_is); (case n_sum => k_is); (case n_len => k_is); (case n_any => k_is); (case n_int => k_is); (case n_min => k_is)
      (case n_max => k_is); (case n_enumerate => k_is)
      (case tn => k_is); (case tl => k_is); (case low => decide +kernel)
    obtain ⟨fd, hb, hF⟩ := CtW.all_ok (P := PySem.Challenge.rw_courttable_s01_answers.prog) (w := w) T F_is_out F_is_on_bench F_note_foul F_written F_other F_is_side F_is_number F_is_truth F_are_players F_points_of F_on_court F_on_bench F_many_on_court F_is_short F_sheet_of F_stands F_is_played F_refusal F_is_any_short F_refusal_in_play F_give_ball F_miss_by F_end_game F_turn_arrow F_count_anew F_begin_period F_end_period F_sub F_enter F_most_timeouts F_timeout F_sheet F_throws_for F_bring F_is_right_foul F_is_shot_strange F_foul F_go_on_behind F_throw F_tip F_time_to_stop F_let_run F_run F_basket F_miss F_shot_behind F_rebound F_lose F_held F_rows_at F_parted F_now F_in_play F_beside_play F_answers C_Player C_Team C_Clock C_Throws C_Game hmg
    exact ⟨fd, hb, fun base _ _ => hF base⟩
  case S =>
    intro K H xs a hO hwi hask hx
    cases hx with
    | cons h1 h2 =>
      cases h2
      cases h1 with
      | lst hs ha =>
        have e := L2.ints_dw a.1 _ ha
        subst e
        have q : ((Codec.inLen 0 30000 a.1 && a.1.all (Codec.inInt (-2147483648) 2147483647)) && true) = true := hwi
        rw [Bool.and_eq_true, Bool.and_eq_true] at q
        exact ⟨_, a.1, rfl, hs, (Codec.inNat_iff.mp q.1.1).2, hask, fun H' p hp => .lst (L2.SqL.of hp) (L2.dw_ints _)⟩
#print axioms PySem.Challenge.cw_courttable_s01_answers_holds
