import PyProof.Rows.All
import Wide.All
import OpenK.AllK
import Wide.FinOn
import HandS.ForMost
import HandS.Codes
import KE.KStateDown
import HandS.Head0
import HandS.Head1
import HandS.Head2
import HandS.HeadHook4
import HandS.HeadWalk
import HandS.EndTab
import HandS.TupAny
import HandS.TupMul
import HandS.Style
import HandS.Star
import HandS.Zip
import HandS.IsInst
import HandS.Defaults
import HandS.SetFor
import HandS.Exc
import HandS.WordsExc
import HandS.Dict
import HandS.WordsDict
import PyProof.Rows.SumAny
import HandS.Lambda
import HandS.Nested
import KE.KDictKeyed
import KE.KDictDisplayH
import PyProof.Rows.SortShell
import KE.KSortTup
import KE.KItemsList
import KE.KDictZip
import KE.KTurns
import HandS.Base
import HandS.Call
import HandS.List
import HandS.DictTup
import KE.SortData
import HandS.CallLocal
import KE.KDictPairs
import PyProof.DictRoadsH
import PySem.Challenge.RW_comesback_k80_whole_loads
/-! ## KH0 -/
set_option Elab.async false
set_option linter.all false
/-! The text. -/
namespace CB
open PySem PySem.Spec L2
def top (i : Nat) : Stmt := PySem.Challenge.pw_comesback_k80_whole_loads.main.body.getD i (.Pass ⟨0, 0, 0, 0⟩)
def topM (i j : Nat) : Stmt := (C8.clsBody (top i)).getD j (.Pass ⟨0, 0, 0, 0⟩)
end CB

/-! ## KH1 -/
set_option Elab.async false
set_option linter.all false
set_option maxRecDepth 100000
set_option maxHeartbeats 0
/-! The head: facts by names, the run. -/
namespace CBH
open PySem PySem.Spec PyProof.Rows L2 CB
abbrev RR : PySem.W.OpenRow := PySem.W.OpenLaw.row PySem.Challenge.rw_comesback_k80_whole_loads
abbrev qv : Program := PySem.W.view RR.prog [79]
def loose0 : List PySem.Str := ["__name__", "ServeError", "NoSetting", "NoState", "NoRow", "NoMost", "TooMany", "WAYS", "MOST_WORK", "MOST_ROOM", "MOST_PATIENCE", "MOST_TRIES", "MOST_WAIT", "MOST_TOKENS", "MOST_OF_FUSE"]
def loose1 : List PySem.Str := ["MOST_STEADY", "is_whole", "is_count", "is_fuse", "is_setting", "need_setting", "most_tokens", "most_rest", "first_of", "first_state", "is_queue", "is_later", "is_state_of", "need_state", "need_most"]
def loose2 : List PySem.Str := ["MOST_FRESH", "LONGEST_ROW", "coming", "entered", "served", "aged", "shut_then", "step", "is_row", "steps", "need_all", "totals", "LIMIT", "Graph", "are_numbers"]
def loose3 : List PySem.Str := ["table_of", "state_behind", "CAME", "ANSWERED", "divisor", "round_among", "climbed", "worth_of", "quotient", "full_round", "long_run", "is_fraction", "is_price", "are_prices", "is_long_run"]
def loose4 : List PySem.Str := ["load", "worst", "shows_load", "shows_worst", "_law_cell_at", "_law_pen", "_law_draw", "_law_pick", "_law_small", "_law_try", "_law_round_right", "_law_bounded", "_law_right"]
def loose : List PySem.Str := loose0 ++ loose1 ++ loose2 ++ loose3 ++ loose4
def dD (x : Str) (st : Stmt) : He.DefD := ⟨(x, none), x, x, defArgs st, defBody st, defScope st, [], []⟩
def fnL0 : List He.DefD := [dD "is_whole" (top 17), dD "is_count" (top 18), dD "is_fuse" (top 19), dD "is_setting" (top 20), dD "need_setting" (top 21), dD "most_tokens" (top 22), dD "most_rest" (top 23), dD "first_of" (top 24), dD "first_state" (top 25), dD "is_queue" (top 26), dD "is_later" (top 27), dD "is_state_of" (top 28)]
def fnL1 : List He.DefD := [dD "need_state" (top 29), dD "coming" (top 34), dD "entered" (top 35), dD "served" (top 36), dD "aged" (top 37), dD "shut_then" (top 38), dD "step" (top 39), dD "is_row" (top 40), dD "steps" (top 41), dD "need_all" (top 42), dD "totals" (top 43), dD "are_numbers" (top 47)]
def fnL2 : List He.DefD := [dD "table_of" (top 48), dD "state_behind" (top 50), dD "divisor" (top 54), dD "round_among" (top 55), dD "climbed" (top 56), dD "worth_of" (top 57), dD "quotient" (top 58), dD "full_round" (top 59), dD "long_run" (top 60), dD "is_fraction" (top 61), dD "is_price" (top 62), dD "are_prices" (top 63)]
def fnL3 : List He.DefD := [dD "is_long_run" (top 64), dD "load" (top 65), dD "worst" (top 66), dD "shows_load" (top 67), dD "shows_worst" (top 68), dD "_law_cell_at" (top 70), dD "_law_pen" (top 71), dD "_law_draw" (top 72), dD "_law_pick" (top 73), dD "_law_small" (top 74), dD "_law_try" (top 75), dD "_law_round_right" (top 76)]
def fnL4 : List He.DefD := [dD "_law_bounded" (top 77), dD "_law_right" (top 78), dD "law" (top 79), ⟨("need_most", none), "need_most", "need_most", defArgs (top 30), defBody (top 30), defScope (top 30), [.int 1], []⟩, ⟨("Graph", some "__init__"), "__init__", "Graph.__init__", defArgs (topM 46 0), defBody (topM 46 0), defScope (topM 46 0), [], []⟩, ⟨("Graph", some "row_to"), "row_to", "Graph.row_to", defArgs (topM 46 1), defBody (topM 46 1), defScope (topM 46 1), [], []⟩]
def fnL : List He.DefD := fnL0 ++ fnL1 ++ fnL2 ++ fnL3 ++ fnL4
def faL0 : List He.Fa := [.glo "is_whole", .glo "is_count", .glo "is_fuse", .glo "is_setting", .glo "need_setting", .glo "most_tokens", .glo "most_rest", .glo "first_of", .glo "first_state", .glo "is_queue", .glo "is_later", .glo "is_state_of"]
def faL1 : List He.Fa := [.glo "need_state", .glo "need_most", .glo "coming", .glo "entered", .glo "served", .glo "aged", .glo "shut_then", .glo "step", .glo "is_row", .glo "steps", .glo "need_all", .glo "totals"]
def faL2 : List He.Fa := [.glo "are_numbers", .glo "table_of", .glo "state_behind", .glo "divisor", .glo "round_among", .glo "climbed", .glo "worth_of", .glo "quotient", .glo "full_round", .glo "long_run", .glo "is_fraction", .glo "is_price"]
def faL3 : List He.Fa := [.glo "are_prices", .glo "is_long_run", .glo "load", .glo "worst", .glo "shows_load", .glo "shows_worst", .glo "_law_cell_at", .glo "_law_pen", .glo "_law_draw", .glo "_law_pick", .glo "_law_small", .glo "_law_try"]
def faL4 : List He.Fa := [.glo "_law_round_right", .glo "_law_bounded", .glo "_law_right", .glo "law", .glo "Graph", .glo "WAYS", .free "isinstance", .free "len", .free "min", .free "max", .free "sum", .free "all"]
def faL5 : List He.Fa := [.free "sorted", .free "int", .free "bool", .free "tuple", .free "str", .free "dict", .free "zip", .free "range", .free "enumerate", .int "MOST_WORK" 3, .int "MOST_ROOM" 5, .int "MOST_PATIENCE" 4]
def faL6 : List He.Fa := [.int "MOST_TRIES" 3, .int "MOST_WAIT" 3, .int "MOST_TOKENS" 4, .int "MOST_OF_FUSE" 3, .int "MOST_STEADY" 9, .int "MOST_FRESH" 999, .int "LONGEST_ROW" 200, .int "LIMIT" 2000, .int "CAME" 0, .int "ANSWERED" 1, .cls "Graph", .mkr "Graph"]
def faL7 : List He.Fa := [.meth "Graph" "row_to", .noat "Graph" "nodes", .noat "Graph" "edges", .noat "Graph" "before"]
def faL : List He.Fa := faL0 ++ faL1 ++ faL2 ++ faL3 ++ faL4 ++ faL5 ++ faL6 ++ faL7
def tfL : List He.Defn := [("long_run", none), ("worth_of", none), ("are_prices", none), ("_law_right", none)]
def exB (K : PySem.W.Frag) : Bool := He.tupB K "WAYS" [.str "oldest", .str "newest"] && decide ((tfL.map fun p => (He.cT K p).2).Nodup)
abbrev hk : PySem.W.Hook := He.hookX 4 faL fnL [] tfL exB
def obH (s : PySem.W.SharedT) : He.AlX := He.obsX 4 faL fnL [] tfL exB (HandSHeadRun.getT s)
theorem obH_eq (s : PySem.W.SharedT) : obH s = hk.obs s.abs := He.obsX_eq (HandSHeadRun.getT_eq s)
theorem runH (w : World) : HandSHeadRun.RunEq RR qv hk obH 4000 loose w := by
  intro os
  kernel_rfl
end CBH

/-! ## KM1 -/
/-! Settings and states of the service, as plain data (core Lean alone). -/
namespace CB
structure Setg where
  work : Int
  room : Int
  patience : Int
  tries : Int
  newest : Bool
  dead : Bool
  tokens : Option Int
  fuse : Option (Int × Int)
/-- the settings that the law draws -/
structure Setg.Ok (S : Setg) : Prop where
  w1 : 1 ≤ S.work
  w2 : S.work ≤ 2
  p1 : 1 ≤ S.patience
  p2 : S.patience ≤ 2
  r1 : S.work ≤ S.room
  r2 : S.room ≤ S.work + 2
  t1 : 1 ≤ S.tries
  t2 : S.tries ≤ 2
  k : ∀ t, S.tokens = some t → 0 ≤ t ∧ t ≤ 2
  f : ∀ a b, S.fuse = some (a, b) → 1 ≤ a ∧ a ≤ 2 ∧ 1 ≤ b ∧ b ≤ 2
def Setg.tok (S : Setg) : Int := match S.tokens with
  | none => 0
  | some t => t
def Setg.rest (S : Setg) : Int := match S.fuse with
  | none => 0
  | some (_, b) => b
structure Stt where
  dead : Int
  queue : List (Int × Int)
  later : List Int
  tokens : Int
  door : Int
  deriving DecidableEq
/-- ages never grow from front to back -/
def agesOk (q : List (Int × Int)) : Prop := ∀ p, p ∈ List.zip q (q.drop 1) → p.2.2 ≤ p.1.2
theorem agesOk_of : ∀ {q : List (Int × Int)}, q.Pairwise (fun a b => b.2 ≤ a.2) → agesOk q
  | [], _, p, hp => by cases hp
  | [a], _, p, hp => by cases hp
  | a :: b :: r, h, p, hp => by
    have hp : p ∈ (a, b) :: List.zip (b :: r) ((b :: r).drop 1) := hp
    rcases List.mem_cons.mp hp with e | hp
    · rw [e]
      exact (List.pairwise_cons.mp h).1 b List.mem_cons_self
    · exact agesOk_of (List.pairwise_cons.mp h).2 p hp
structure Stt.Ok (S : Setg) (t : Stt) : Prop where
  d0 : 0 ≤ t.dead
  d1 : t.dead ≤ if S.dead = true then S.room else 0
  q : ∀ p, p ∈ t.queue → 0 ≤ p.1 ∧ p.1 ≤ S.tries - 1 ∧ 1 ≤ p.2 ∧ p.2 ≤ S.patience - 1
  qa : t.queue.Pairwise fun a b => b.2 ≤ a.2
  dq : t.dead + t.queue.length ≤ S.room
  ll : (t.later.length : Int) = S.tries - 1
  l0 : ∀ n, n ∈ t.later → 0 ≤ n
  k0 : 0 ≤ t.tokens
  k1 : t.tokens ≤ S.tok
  o0 : 0 ≤ t.door
  o1 : t.door ≤ S.rest
def firstM (S : Setg) : Stt := ⟨0, [], List.replicate (S.tries - 1).toNat 0, S.tok, 0⟩
theorem firstM_ok {S : Setg} (h : S.Ok) : (firstM S).Ok S where
  d0 := Int.le_refl _
  d1 := by show (0 : Int) ≤ _; have := h.w1; have := h.r1; split <;> omega
  q := fun p hp => by cases hp
  qa := List.Pairwise.nil
  dq := by show (0 : Int) + ((([] : List (Int × Int)).length : Nat) : Int) ≤ S.room; have := h.w1; have := h.r1; simp; omega
  ll := by show ((List.replicate (S.tries - 1).toNat (0 : Int)).length : Int) = S.tries - 1; have := h.t1; rw [List.length_replicate]; omega
  l0 := fun n hn => by
    have := (List.mem_replicate.mp hn).2
    omega
  k0 := by
    show 0 ≤ S.tok
    unfold Setg.tok
    cases e : S.tokens with
    | none => exact Int.le_refl _
    | some t => exact (h.k t e).1
  k1 := Int.le_refl _
  o0 := Int.le_refl _
  o1 := by
    show 0 ≤ S.rest
    unfold Setg.rest
    cases e : S.fuse with
    | none => exact Int.le_refl _
    | some p =>
      obtain ⟨a, b⟩ := p
      have := h.f a b e
      show 0 ≤ b
      omega
end CB

/-! ## KM2 -/
/-! One beat, as a plain function. -/
namespace CB
def comeStep (S : Setg) : List Int × Int × Int → Int → List Int × Int × Int
  | (cs, tk, lo), m => match S.tokens with
    | none => (cs ++ [m], tk, lo + m - m)
    | some _ => (cs ++ [min m tk], tk - min m tk, lo + m - min m tk)
def comeN (S : Setg) (l : List Int) (tk0 : Int) : Nat → List Int × Int × Int
  | 0 => ([], tk0, 0)
  | i + 1 => comeStep S (comeN S l tk0 i) (l.getD i 0)
def entStep (i : Nat) : List (Int × Int) × List Int × Int → Int → List (Int × Int) × List Int × Int
  | (q, rf, fr), m => (q ++ List.replicate (min m fr).toNat ((i : Int), (0 : Int)), rf ++ [m - min m fr], fr - min m fr)
def entN (l : List Int) (q0 : List (Int × Int)) (f0 : Int) : Nat → List (Int × Int) × List Int × Int
  | 0 => (q0, [], f0)
  | i + 1 => entStep i (entN l q0 f0 i) (l.getD i 0)
def freeM (S : Setg) (t : Stt) : Int := if t.door = 0 then S.room - t.dead - t.queue.length else 0
def servedM (S : Setg) (dead : Int) (q : List (Int × Int)) : Int × Int × List (Int × Int) :=
  if S.newest = true then (min S.work q.length, min (S.work - min S.work q.length) dead, q.take ((q.length : Int) - min S.work q.length).toNat)
  else (min (S.work - min S.work dead) q.length, min S.work dead, q.drop (min (S.work - min S.work dead) q.length).toNat)
def stayM (S : Setg) (q : List (Int × Int)) : List (Int × Int) := (q.filter fun p => decide (p.2 + 1 < S.patience)).map fun p => (p.1, p.2 + 1)
def gaveM (S : Setg) (q : List (Int × Int)) : List Int := (q.filter fun p => decide (S.patience ≤ p.2 + 1)).map fun p => p.1
def shutM (S : Setg) (door failed : Int) : Int :=
  if 0 < door then door - 1 else match S.fuse with
    | none => 0
    | some (a, b) => if failed < a then 0 else b
def failedM (gave : List Int) (refused : List Int) : List Int := refused.mapIdx fun i m => m + ((gave.count (i : Int) : Nat) : Int)
structure Told where
  came : Int
  answered : Int
  wasted : Int
  refused : Int
  gave : Int
  lost : Int
  next : Stt
def stepM (S : Setg) (t : Stt) (fresh : Int) : Told :=
  let c := comeN S t.later t.tokens t.later.length
  let counts := c.1 ++ [fresh]
  let e := entN counts t.queue (freeM S t) counts.length
  let sv := servedM S t.dead e.1
  let gv := gaveM S sv.2.2
  let fl := failedM gv e.2.1
  { came := counts.sum, answered := sv.1, wasted := sv.2.1, refused := e.2.1.sum, gave := gv.length, lost := c.2.2 + fl.getD 0 0,
    next := { dead := t.dead - sv.2.1 + (if S.dead = true then (gv.length : Int) else 0), queue := stayM S sv.2.2, later := fl.drop 1, tokens := min S.tok (c.2.1 + sv.1), door := shutM S t.door fl.sum } }

/-! ### coming -/
theorem comeN_len (S : Setg) (l : List Int) (k : Int) : ∀ i, (comeN S l k i).1.length = i
  | 0 => rfl
  | i + 1 => by
    have h := comeN_len S l k i
    unfold comeN comeStep
    cases S.tokens <;> simp [h]
theorem getD_nn {l : List Int} (h : ∀ n, n ∈ l → 0 ≤ n) (i : Nat) : 0 ≤ l.getD i 0 := by
  rw [List.getD_eq_getElem?_getD]
  cases e : l[i]? with
  | none => exact Int.le_refl 0
  | some n => exact h n (List.mem_of_getElem? e)
theorem comeN_nn {S : Setg} {l : List Int} {k : Int} (hl : ∀ n, n ∈ l → 0 ≤ n) (hk : 0 ≤ k) : ∀ i, (∀ n, n ∈ (comeN S l k i).1 → 0 ≤ n) ∧ 0 ≤ (comeN S l k i).2.1 ∧ (comeN S l k i).2.1 ≤ k ∧ 0 ≤ (comeN S l k i).2.2
  | 0 => ⟨fun n hn => by simp [comeN] at hn, hk, Int.le_refl _, Int.le_refl _⟩
  | i + 1 => by
    obtain ⟨a, b, c, d⟩ := comeN_nn (S := S) hl hk i
    have g := getD_nn hl i
    unfold comeN comeStep
    cases e : S.tokens with
    | none =>
      refine ⟨fun n hn => ?_, b, c, ?_⟩
      · rcases List.mem_append.mp hn with z | z
        · exact a n z
        · rw [List.mem_singleton.mp z]; exact g
      · show 0 ≤ (comeN S l k i).2.2 + l.getD i 0 - l.getD i 0
        omega
    | some t =>
      refine ⟨fun n hn => ?_, ?_, ?_, ?_⟩
      · rcases List.mem_append.mp hn with z | z
        · exact a n z
        · rw [List.mem_singleton.mp z]
          show 0 ≤ min (l.getD i 0) (comeN S l k i).2.1
          omega
      · show 0 ≤ (comeN S l k i).2.1 - min (l.getD i 0) (comeN S l k i).2.1
        omega
      · show (comeN S l k i).2.1 - min (l.getD i 0) (comeN S l k i).2.1 ≤ k
        omega
      · show 0 ≤ (comeN S l k i).2.2 + l.getD i 0 - min (l.getD i 0) (comeN S l k i).2.1
        omega
/-! ### entering -/
theorem entN_inv {l : List Int} {q0 : List (Int × Int)} {f0 : Int} (hl : ∀ n, n ∈ l → 0 ≤ n) (hf : 0 ≤ f0) : ∀ i, 0 ≤ (entN l q0 f0 i).2.2 ∧ (entN l q0 f0 i).2.2 ≤ f0 ∧ ((entN l q0 f0 i).1.length : Int) = q0.length + (f0 - (entN l q0 f0 i).2.2) ∧ (entN l q0 f0 i).2.1.length = i ∧ ∀ n, n ∈ (entN l q0 f0 i).2.1 → 0 ≤ n
  | 0 => ⟨hf, Int.le_refl _, by simp [entN], rfl, fun n hn => by simp [entN] at hn⟩
  | i + 1 => by
    obtain ⟨a, b, c, d, e⟩ := entN_inv (q0 := q0) hl hf i
    have g := getD_nn hl i
    unfold entN entStep
    refine ⟨?_, ?_, ?_, ?_, fun n hn => ?_⟩
    · show 0 ≤ (entN l q0 f0 i).2.2 - min (l.getD i 0) (entN l q0 f0 i).2.2
      omega
    · show (entN l q0 f0 i).2.2 - min (l.getD i 0) (entN l q0 f0 i).2.2 ≤ f0
      omega
    · show (((entN l q0 f0 i).1 ++ List.replicate (min (l.getD i 0) (entN l q0 f0 i).2.2).toNat ((i : Int), (0 : Int))).length : Int) = q0.length + (f0 - ((entN l q0 f0 i).2.2 - min (l.getD i 0) (entN l q0 f0 i).2.2))
      rw [List.length_append, List.length_replicate]
      omega
    · show ((entN l q0 f0 i).2.1 ++ [l.getD i 0 - min (l.getD i 0) (entN l q0 f0 i).2.2]).length = i + 1
      rw [List.length_append, d]
      rfl
    · rcases List.mem_append.mp hn with z | z
      · exact e n z
      · rw [List.mem_singleton.mp z]
        show 0 ≤ l.getD i 0 - min (l.getD i 0) (entN l q0 f0 i).2.2
        omega
theorem freeM_nn {S : Setg} {t : Stt} (k : t.Ok S) : 0 ≤ freeM S t ∧ (t.queue.length : Int) + freeM S t ≤ S.room := by
  have h1 := k.dq
  have h2 := k.d0
  unfold freeM
  split <;> omega
end CB

/-! ## KM3 -/
/-! What one beat keeps: the next state is a state; what comes, what is answered. -/
namespace CB
/-- how many in the queue have one try behind -/
def ones (q : List (Int × Int)) : Int := ((q.filter fun p => decide (p.1 = 1)).length : Nat)
theorem ones_app (a b : List (Int × Int)) : ones (a ++ b) = ones a + ones b := by
  unfold ones
  rw [List.filter_append, List.length_append]
  omega
theorem ones_rep (n : Nat) (i : Int) : ones (List.replicate n (i, 0)) = if i = 1 then (n : Int) else 0 := by
  unfold ones
  split
  · rename_i h
    rw [List.filter_eq_self.mpr, List.length_replicate]
    intro p hp
    rw [(List.mem_replicate.mp hp).2]
    exact decide_eq_true h
  · rename_i h
    rw [List.filter_eq_nil_iff.mpr]
    · rfl
    · intro p hp
      rw [(List.mem_replicate.mp hp).2]
      simp [h]
theorem ones_nn (q : List (Int × Int)) : 0 ≤ ones q := Int.natCast_nonneg _
theorem ones_le (q : List (Int × Int)) : ones q ≤ q.length := by
  unfold ones
  have := List.length_filter_le (fun p : Int × Int => decide (p.1 = 1)) q
  omega
theorem servedM_ok {S : Setg} {dead : Int} {q : List (Int × Int)} (hw : 1 ≤ S.work) (hd : 0 ≤ dead) :
    0 ≤ (servedM S dead q).1 ∧ (servedM S dead q).1 ≤ S.work ∧ 0 ≤ (servedM S dead q).2.1 ∧ (servedM S dead q).2.1 ≤ dead ∧ ((servedM S dead q).2.2.length : Int) = q.length - (servedM S dead q).1 ∧
    ∃ x, (q = (servedM S dead q).2.2 ++ x ∨ q = x ++ (servedM S dead q).2.2) ∧ (x.length : Int) = (servedM S dead q).1 := by
  unfold servedM
  split
  · refine ⟨by show 0 ≤ min S.work (q.length : Int); omega, by show min S.work (q.length : Int) ≤ S.work; omega, by show 0 ≤ min (S.work - min S.work (q.length : Int)) dead; omega, by show min (S.work - min S.work (q.length : Int)) dead ≤ dead; omega, ?_, q.drop ((q.length : Int) - min S.work (q.length : Int)).toNat, Or.inl (List.take_append_drop _ _).symm, ?_⟩
    · show ((q.take ((q.length : Int) - min S.work (q.length : Int)).toNat).length : Int) = q.length - min S.work (q.length : Int)
      rw [List.length_take]
      omega
    · show ((q.drop ((q.length : Int) - min S.work (q.length : Int)).toNat).length : Int) = min S.work (q.length : Int)
      rw [List.length_drop]
      omega
  · refine ⟨by show 0 ≤ min (S.work - min S.work dead) (q.length : Int); omega, by show min (S.work - min S.work dead) (q.length : Int) ≤ S.work; omega, by show 0 ≤ min S.work dead; omega, by show min S.work dead ≤ dead; omega, ?_, q.take (min (S.work - min S.work dead) (q.length : Int)).toNat, Or.inr (List.take_append_drop _ _).symm, ?_⟩
    · show ((q.drop (min (S.work - min S.work dead) (q.length : Int)).toNat).length : Int) = q.length - min (S.work - min S.work dead) (q.length : Int)
      rw [List.length_drop]
      omega
    · show ((q.take (min (S.work - min S.work dead) (q.length : Int)).toNat).length : Int) = min (S.work - min S.work dead) (q.length : Int)
      rw [List.length_take]
      omega
theorem stay_gave (S : Setg) : ∀ q : List (Int × Int), ((stayM S q).length : Int) + (gaveM S q).length = q.length ∧ ones (stayM S q) + ((gaveM S q).count 1 : Nat) = ones q
  | [] => ⟨rfl, rfl⟩
  | p :: q => by
    obtain ⟨h1, h2⟩ := stay_gave S q
    have o : ∀ (x : Int × Int) (l : List (Int × Int)), ones (x :: l) = (if x.1 = 1 then 1 else 0) + ones l := fun x l => by
      have := ones_app [x] l
      rw [List.singleton_append] at this
      rw [this]
      congr 1
      unfold ones
      by_cases hx : x.1 = 1
      · simp [hx]
      · simp [hx]
    by_cases h : p.2 + 1 < S.patience
    · have e1 : stayM S (p :: q) = (p.1, p.2 + 1) :: stayM S q := by
        unfold stayM
        rw [List.filter_cons_of_pos (by exact decide_eq_true h)]
        rfl
      have e2 : gaveM S (p :: q) = gaveM S q := by
        unfold gaveM
        rw [List.filter_cons_of_neg (by simp; omega)]
      rw [e1, e2, o, o, List.length_cons, List.length_cons]
      refine ⟨by omega, ?_⟩
      show (if p.1 = 1 then 1 else 0) + ones (stayM S q) + _ = (if p.1 = 1 then 1 else 0) + ones q
      omega
    · have e1 : stayM S (p :: q) = stayM S q := by
        unfold stayM
        rw [List.filter_cons_of_neg (by simp; omega)]
      have e2 : gaveM S (p :: q) = p.1 :: gaveM S q := by
        unfold gaveM
        rw [List.filter_cons_of_pos (by exact decide_eq_true (by omega))]
        rfl
      rw [e1, e2, o, List.length_cons, List.length_cons, List.count_cons]
      refine ⟨by omega, ?_⟩
      by_cases hp : p.1 = 1
      · simp [hp]; omega
      · have : (p.1 == 1) = false := by simp [hp]
        simp [hp, this]; omega
theorem ones_cut {q a x : List (Int × Int)} (h : q = a ++ x ∨ q = x ++ a) : ones a ≤ ones q ∧ ones q ≤ ones a + x.length := by
  have h1 := ones_le x
  have h2 := ones_nn x
  rcases h with h | h
  · rw [h, ones_app]
    omega
  · rw [h, ones_app]
    omega
theorem sub_of_cut {q a x : List (Int × Int)} (h : q = a ++ x ∨ q = x ++ a) : a.Sublist q := by
  rcases h with h | h
  · rw [h]; exact List.sublist_append_left _ _
  · rw [h]; exact List.sublist_append_right _ _
/-- the queue behind the coming -/
theorem ent_mem {l : List Int} {q0 : List (Int × Int)} {f0 : Int} : ∀ i p, p ∈ (entN l q0 f0 i).1 → p ∈ q0 ∨ (0 ≤ p.1 ∧ p.1 < i ∧ p.2 = 0)
  | 0, p, h => Or.inl h
  | i + 1, p, h => by
    have h : p ∈ (entN l q0 f0 i).1 ++ List.replicate (min (l.getD i 0) (entN l q0 f0 i).2.2).toNat ((i : Int), (0 : Int)) := h
    rcases List.mem_append.mp h with z | z
    · rcases ent_mem i p z with y | ⟨y1, y2, y3⟩
      · exact Or.inl y
      · exact Or.inr ⟨y1, by omega, y3⟩
    · rw [(List.mem_replicate.mp z).2]
      exact Or.inr ⟨Int.natCast_nonneg _, by show (i : Int) < ((i + 1 : Nat) : Int); omega, rfl⟩
theorem ent_ages {l : List Int} {q0 : List (Int × Int)} {f0 : Int} (h0 : q0.Pairwise fun a b => b.2 ≤ a.2) (h1 : ∀ p, p ∈ q0 → 0 ≤ p.2) : ∀ i, (entN l q0 f0 i).1.Pairwise fun a b => b.2 ≤ a.2
  | 0 => h0
  | i + 1 => by
    show ((entN l q0 f0 i).1 ++ List.replicate (min (l.getD i 0) (entN l q0 f0 i).2.2).toNat ((i : Int), (0 : Int))).Pairwise fun a b => b.2 ≤ a.2
    refine List.pairwise_append.mpr ⟨ent_ages h0 h1 i, ?_, ?_⟩
    · exact List.pairwise_replicate.mpr (Or.inr (Int.le_refl _))
    · intro a ha b hb
      rw [(List.mem_replicate.mp hb).2]
      show (0 : Int) ≤ a.2
      rcases ent_mem i a ha with y | ⟨_, _, y⟩
      · exact h1 a y
      · rw [y]; exact Int.le_refl _
theorem stay_pairwise {S : Setg} {q : List (Int × Int)} (h : q.Pairwise fun a b => b.2 ≤ a.2) : (stayM S q).Pairwise fun a b => b.2 ≤ a.2 := by
  unfold stayM
  refine List.pairwise_map.mpr ((h.sublist List.filter_sublist).imp fun {a b} hab => ?_)
  show b.2 + 1 ≤ a.2 + 1
  omega
theorem stay_mem {S : Setg} {q : List (Int × Int)} {p : Int × Int} (h : p ∈ stayM S q) : ∃ x, x ∈ q ∧ p = (x.1, x.2 + 1) ∧ x.2 + 1 < S.patience := by
  unfold stayM at h
  obtain ⟨x, hx, rfl⟩ := List.mem_map.mp h
  obtain ⟨h1, h2⟩ := List.mem_filter.mp hx
  exact ⟨x, h1, rfl, of_decide_eq_true h2⟩
theorem failed_nn {gv rf : List Int} (h : ∀ n, n ∈ rf → 0 ≤ n) : ∀ n, n ∈ failedM gv rf → 0 ≤ n := by
  intro n hn
  unfold failedM at hn
  obtain ⟨i, hi, rfl⟩ := List.mem_mapIdx.mp hn
  have := h _ (List.getElem_mem hi)
  omega
theorem shut_ok {S : Setg} (h : S.Ok) {door failed : Int} (h0 : 0 ≤ door) (h1 : door ≤ S.rest) : 0 ≤ shutM S door failed ∧ shutM S door failed ≤ S.rest := by
  unfold shutM
  split
  · omega
  · unfold Setg.rest at *
    cases e : S.fuse with
    | none => exact ⟨Int.le_refl _, Int.le_refl _⟩
    | some p =>
      obtain ⟨a, b⟩ := p
      have := h.f a b e
      show 0 ≤ (if failed < a then 0 else b) ∧ (if failed < a then 0 else b) ≤ b
      split <;> omega
theorem counts_nn {S : Setg} {t : Stt} {fr : Int} (tk : t.Ok S) (hf : 0 ≤ fr) : ∀ n, n ∈ (comeN S t.later t.tokens t.later.length).1 ++ [fr] → 0 ≤ n := by
  intro n hn
  rcases List.mem_append.mp hn with z | z
  · exact (comeN_nn (S := S) tk.l0 tk.k0 t.later.length).1 n z
  · rw [List.mem_singleton.mp z]; exact hf
theorem counts_len {S : Setg} {t : Stt} {fr : Int} (tk : t.Ok S) : (((comeN S t.later t.tokens t.later.length).1 ++ [fr]).length : Int) = S.tries := by
  rw [List.length_append, comeN_len]
  have := tk.ll
  show ((t.later.length + 1 : Nat) : Int) = S.tries
  omega
theorem freeM_all {S : Setg} {t : Stt} (k : t.Ok S) : t.dead + (t.queue.length : Int) + freeM S t ≤ S.room := by
  have h1 := k.dq
  have h2 := k.d0
  unfold freeM
  split <;> omega
theorem step_ok {S : Setg} {t : Stt} {fr : Int} (ok : S.Ok) (tk : t.Ok S) (hf : 0 ≤ fr) : (stepM S t fr).next.Ok S := by
  have hcs := counts_nn tk hf
  have hcl := counts_len (fr := fr) tk
  obtain ⟨f1, f2⟩ := freeM_nn tk
  have f3 := freeM_all tk
  obtain ⟨c1, c2, c3, c4⟩ := comeN_nn (S := S) tk.l0 tk.k0 t.later.length
  unfold stepM
  dsimp only
  generalize (comeN S t.later t.tokens t.later.length).1 ++ [fr] = cs at *
  generalize (comeN S t.later t.tokens t.later.length).2.1 = k1 at *
  have e1 := entN_inv (q0 := t.queue) hcs f1 cs.length
  have e2 := ent_mem (l := cs) (q0 := t.queue) (f0 := freeM S t) cs.length
  have e3 := ent_ages (l := cs) (f0 := freeM S t) tk.qa (fun p hp => by have := tk.q p hp; omega) cs.length
  generalize entN cs t.queue (freeM S t) cs.length = en at *
  obtain ⟨q1, rf, fr1⟩ := en
  dsimp only at *
  obtain ⟨b1, b2, b3, b4, b5⟩ := e1
  have sv := servedM_ok (q := q1) ok.w1 tk.d0
  generalize servedM S t.dead q1 = s at *
  obtain ⟨an, wa, q2⟩ := s
  dsimp only at *
  obtain ⟨s1, s2, s3, s4, s5, x, s6, s7⟩ := sv
  obtain ⟨g1, g2⟩ := stay_gave S q2
  have hsub := sub_of_cut s6
  have hdq := tk.dq
  have hd0 := tk.d0
  have hd1 := tk.d1
  have ht1 := ok.t1
  constructor
  · show 0 ≤ t.dead - wa + _
    split <;> omega
  · show t.dead - wa + (if S.dead = true then ((gaveM S q2).length : Int) else 0) ≤ if S.dead = true then S.room else 0
    split
    · rename_i h
      rw [if_pos h] at hd1
      omega
    · rename_i h
      rw [if_neg h] at hd1
      omega
  · intro p hp
    obtain ⟨y, hy, rfl, hlt⟩ := stay_mem hp
    have hy1 := hsub.mem hy
    show 0 ≤ y.1 ∧ y.1 ≤ S.tries - 1 ∧ 1 ≤ y.2 + 1 ∧ y.2 + 1 ≤ S.patience - 1
    rcases e2 y hy1 with z | ⟨z1, z2, z3⟩
    · have := tk.q y z
      omega
    · omega
  · exact stay_pairwise (e3.sublist hsub)
  · show t.dead - wa + (if S.dead = true then ((gaveM S q2).length : Int) else 0) + ((stayM S q2).length : Int) ≤ S.room
    split <;> omega
  · show (((failedM (gaveM S q2) rf).drop 1).length : Int) = S.tries - 1
    unfold failedM
    rw [List.length_drop, List.length_mapIdx, b4]
    omega
  · intro n hn
    exact failed_nn b5 n (List.mem_of_mem_drop hn)
  · show 0 ≤ min S.tok (k1 + an)
    have := tk.k0
    have := tk.k1
    omega
  · show min S.tok (k1 + an) ≤ S.tok
    omega
  · exact (shut_ok ok tk.o0 tk.o1).1
  · exact (shut_ok ok tk.o0 tk.o1).2
end CB

/-! ## KM4 -/
/-! What one beat counts. -/
namespace CB
def Stt.R (t : Stt) : Int := t.later.sum + ones t.queue
def Stt.Sz (t : Stt) : Int := t.later.sum + t.queue.length
theorem sum_nn : ∀ {l : List Int}, (∀ n, n ∈ l → 0 ≤ n) → 0 ≤ l.sum
  | [], _ => Int.le_refl _
  | a :: l, h => by
    have h1 := h a List.mem_cons_self
    have h2 := sum_nn (l := l) fun n hn => h n (List.mem_cons_of_mem _ hn)
    rw [List.sum_cons]
    omega
theorem ones_inv {q : List (Int × Int)} (h : ∀ p, p ∈ q → p.1 = 1) : ones q = q.length := by
  unfold ones
  rw [List.filter_eq_self.mpr]
  intro p hp
  exact decide_eq_true (h p hp)
theorem R_nn {S : Setg} {t : Stt} (tk : t.Ok S) : 0 ≤ t.R := by
  have := sum_nn tk.l0
  have := ones_nn t.queue
  unfold Stt.R
  omega
/-- all about one beat -/
structure Beat (S : Setg) (t : Stt) (fr : Int) : Prop where
  came : fr ≤ (stepM S t fr).came
  came1 : S.tries = 1 → (stepM S t fr).came = fr
  came0 : S.tokens = some 0 → (stepM S t fr).came = fr
  up : S.tries = 2 → (stepM S t fr).came + (stepM S t fr).next.R ≤ 2 * fr + t.R
  down : S.tries = 2 → S.tokens = none → 2 * fr + t.R ≤ (stepM S t fr).came + (stepM S t fr).next.R + (stepM S t fr).answered
  ans0 : 0 ≤ (stepM S t fr).answered
  ansW : (stepM S t fr).answered ≤ S.work
  ans : (stepM S t fr).answered + (stepM S t fr).next.Sz ≤ t.Sz + fr
theorem beat1 {S : Setg} {t : Stt} {fr : Int} (ok : S.Ok) (tk : t.Ok S) (hf : 0 ≤ fr) (h1 : S.tries = 1) : Beat S t fr := by
  have hl : t.later = [] := by
    have := tk.ll
    cases e : t.later with
    | nil => rfl
    | cons a l => rw [e] at this; simp at this; omega
  obtain ⟨f1, f2⟩ := freeM_nn tk
  have sv := servedM_ok (q := t.queue ++ List.replicate (min fr (freeM S t)).toNat (0, 0)) ok.w1 tk.d0
  have e1 : entN [fr] t.queue (freeM S t) 1 = (t.queue ++ List.replicate (min fr (freeM S t)).toNat (0, 0), [fr - min fr (freeM S t)], freeM S t - min fr (freeM S t)) := rfl
  have eu : stepM S t fr = { came := ([fr] : List Int).sum, answered := (servedM S t.dead (t.queue ++ List.replicate (min fr (freeM S t)).toNat (0, 0))).1, wasted := (servedM S t.dead (t.queue ++ List.replicate (min fr (freeM S t)).toNat (0, 0))).2.1, refused := ([fr - min fr (freeM S t)] : List Int).sum, gave := (gaveM S (servedM S t.dead (t.queue ++ List.replicate (min fr (freeM S t)).toNat (0, 0))).2.2).length, lost := (stepM S t fr).lost, next := (stepM S t fr).next } := by
    unfold stepM
    rw [hl]
    rfl
  have en : (stepM S t fr).next.queue = stayM S (servedM S t.dead (t.queue ++ List.replicate (min fr (freeM S t)).toNat (0, 0))).2.2 ∧ (stepM S t fr).next.later = [] := by
    unfold stepM
    rw [hl]
    exact ⟨rfl, rfl⟩
  have ec : (stepM S t fr).came = fr := by rw [eu]; show fr + 0 = fr; omega
  have ea : (stepM S t fr).answered = (servedM S t.dead (t.queue ++ List.replicate (min fr (freeM S t)).toNat (0, 0))).1 := by rw [eu]
  have el : ((t.queue ++ List.replicate (min fr (freeM S t)).toNat ((0 : Int), (0 : Int))).length : Int) = t.queue.length + min fr (freeM S t) := by
    rw [List.length_append, List.length_replicate]
    omega
  generalize t.queue ++ List.replicate (min fr (freeM S t)).toNat (0, 0) = q1 at *
  obtain ⟨s1, s2, s3, s4, s5, x, s6, s7⟩ := sv
  obtain ⟨g1, g2⟩ := stay_gave S (servedM S t.dead q1).2.2
  refine ⟨by omega, fun _ => ec, fun _ => ec, fun h => by omega, fun h => by omega, by omega, by omega, ?_⟩
  rw [ea]
  unfold Stt.Sz
  rw [en.1, en.2, hl]
  simp only [List.sum_nil]
  omega
theorem beat2 {S : Setg} {t : Stt} {fr : Int} (ok : S.Ok) (tk : t.Ok S) (hf : 0 ≤ fr) (h2 : S.tries = 2) : Beat S t fr := by
  obtain ⟨m, hl⟩ : ∃ m, t.later = [m] := by
    have := tk.ll
    cases e : t.later with
    | nil => rw [e] at this; simp at this; omega
    | cons a l =>
      cases l with
      | nil => exact ⟨a, rfl⟩
      | cons b l => rw [e] at this; simp at this; omega
  have hm : 0 ≤ m := tk.l0 m (by rw [hl]; exact List.mem_singleton.mpr rfl)
  obtain ⟨f1, f2⟩ := freeM_nn tk
  obtain ⟨le, tk1, lo1, ecn, el0, el1, el2, el3⟩ : ∃ le tk1 lo1, comeN S t.later t.tokens t.later.length = ([le], tk1, lo1) ∧ 0 ≤ le ∧ le ≤ m ∧ (S.tokens = none → le = m) ∧ (S.tokens = some 0 → le = 0) := by
    have hk0 := tk.k0
    have hk1 := tk.k1
    rw [hl]
    show ∃ le tk1 lo1, comeStep S ([], t.tokens, 0) m = ([le], tk1, lo1) ∧ _
    unfold comeStep
    unfold Setg.tok at hk1
    cases e : S.tokens with
    | none => exact ⟨m, _, _, rfl, hm, Int.le_refl _, fun _ => rfl, (fun h => by cases h)⟩
    | some k =>
      rw [e] at hk1
      dsimp only at hk1
      refine ⟨min m t.tokens, _, _, rfl, by omega, by omega, (fun h => by cases h), fun h => ?_⟩
      cases h
      omega
  have e1 : entN [le, fr] t.queue (freeM S t) 2 = (t.queue ++ List.replicate (min le (freeM S t)).toNat (0, 0) ++ List.replicate (min fr (freeM S t - min le (freeM S t))).toNat (1, 0), [le - min le (freeM S t), fr - min fr (freeM S t - min le (freeM S t))], freeM S t - min le (freeM S t) - min fr (freeM S t - min le (freeM S t))) := rfl
  have eo : ones (t.queue ++ List.replicate (min le (freeM S t)).toNat (0, 0) ++ List.replicate (min fr (freeM S t - min le (freeM S t))).toNat (1, 0)) = ones t.queue + min fr (freeM S t - min le (freeM S t)) := by
    rw [ones_app, ones_app, ones_rep, ones_rep]
    simp
    omega
  have eq : ((t.queue ++ List.replicate (min le (freeM S t)).toNat ((0 : Int), (0 : Int)) ++ List.replicate (min fr (freeM S t - min le (freeM S t))).toNat ((1 : Int), (0 : Int))).length : Int) = t.queue.length + min le (freeM S t) + min fr (freeM S t - min le (freeM S t)) := by
    rw [List.length_append, List.length_append, List.length_replicate, List.length_replicate]
    omega
  have ec : (stepM S t fr).came = le + fr := by
    unfold stepM
    dsimp only
    rw [ecn]
    show le + (fr + 0) = le + fr
    omega
  have e2 : entN ((comeN S t.later t.tokens t.later.length).1 ++ [fr]) t.queue (freeM S t) ((comeN S t.later t.tokens t.later.length).1 ++ [fr]).length = (t.queue ++ List.replicate (min le (freeM S t)).toNat (0, 0) ++ List.replicate (min fr (freeM S t - min le (freeM S t))).toNat (1, 0), [le - min le (freeM S t), fr - min fr (freeM S t - min le (freeM S t))], freeM S t - min le (freeM S t) - min fr (freeM S t - min le (freeM S t))) := by
    rw [ecn]
    exact e1
  generalize t.queue ++ List.replicate (min le (freeM S t)).toNat (0, 0) ++ List.replicate (min fr (freeM S t - min le (freeM S t))).toNat (1, 0) = q1 at *
  have sv := servedM_ok (q := q1) ok.w1 tk.d0
  have ea : (stepM S t fr).answered = (servedM S t.dead q1).1 := by
    unfold stepM
    dsimp only
    rw [e2]
  have en : (stepM S t fr).next.queue = stayM S (servedM S t.dead q1).2.2 := by
    unfold stepM
    dsimp only
    rw [e2]
  have enl : (stepM S t fr).next.later = [fr - min fr (freeM S t - min le (freeM S t)) + (((gaveM S (servedM S t.dead q1).2.2).count 1 : Nat) : Int)] := by
    unfold stepM
    dsimp only
    rw [e2]
    rfl
  obtain ⟨s1, s2, s3, s4, s5, x, s6, s7⟩ := sv
  obtain ⟨g1, g2⟩ := stay_gave S (servedM S t.dead q1).2.2
  obtain ⟨o1, o2⟩ := ones_cut s6
  have gc : (gaveM S (servedM S t.dead q1).2.2).count 1 ≤ (gaveM S (servedM S t.dead q1).2.2).length := List.count_le_length
  refine ⟨by omega, fun h => by omega, fun h => by have := el3 h; omega, fun _ => ?_, fun _ hn => ?_, by omega, by omega, ?_⟩
  · rw [ec]
    unfold Stt.R
    rw [en, enl, hl]
    simp only [List.sum_cons, List.sum_nil]
    omega
  · rw [ec, ea]
    unfold Stt.R
    rw [en, enl, hl]
    simp only [List.sum_cons, List.sum_nil]
    have := el2 hn
    omega
  · rw [ea]
    unfold Stt.Sz
    rw [en, enl, hl]
    simp only [List.sum_cons, List.sum_nil]
    omega
theorem beat {S : Setg} {t : Stt} {fr : Int} (ok : S.Ok) (tk : t.Ok S) (hf : 0 ≤ fr) : Beat S t fr := by
  have h1 := ok.t1
  have h2 := ok.t2
  by_cases h : S.tries = 1
  · exact beat1 ok tk hf h
  · exact beat2 ok tk hf (by omega)
end CB

/-! ## KM5 -/
/-! Rows of beats; what a long run says. -/
namespace CB
def Told.get (r : Told) : Nat → Int
  | 0 => r.came
  | 1 => r.answered
  | 2 => r.wasted
  | 3 => r.refused
  | 4 => r.gave
  | _ => r.lost
def endM (S : Setg) : Stt → List Int → Stt
  | t, [] => t
  | t, f :: fs => endM S (stepM S t f).next fs
def toldsM (S : Setg) : Stt → List Int → List Told
  | _, [] => []
  | t, f :: fs => stepM S t f :: toldsM S (stepM S t f).next fs
def sumM (S : Setg) (k : Nat) (t : Stt) (row : List Int) : Int := ((toldsM S t row).map (·.get k)).sum
theorem sumM_nil (S : Setg) (k : Nat) (t : Stt) : sumM S k t [] = 0 := rfl
theorem sumM_cons (S : Setg) (k : Nat) (t : Stt) (f : Int) (fs : List Int) : sumM S k t (f :: fs) = (stepM S t f).get k + sumM S k (stepM S t f).next fs := rfl
theorem endM_ok {S : Setg} (ok : S.Ok) : ∀ {row : List Int} {t : Stt}, t.Ok S → (∀ n, n ∈ row → 0 ≤ n) → (endM S t row).Ok S
  | [], _, tk, _ => tk
  | f :: fs, _, tk, h => endM_ok (row := fs) ok (step_ok ok tk (h f List.mem_cons_self)) fun n hn => h n (List.mem_cons_of_mem _ hn)
theorem endM_app (S : Setg) : ∀ (a b : List Int) (t : Stt), endM S t (a ++ b) = endM S (endM S t a) b
  | [], _, _ => rfl
  | x :: a, b, t => endM_app S a b _
theorem sumM_app (S : Setg) (k : Nat) : ∀ (a b : List Int) (t : Stt), sumM S k t (a ++ b) = sumM S k t a + sumM S k (endM S t a) b
  | [], b, t => by rw [sumM_nil, List.nil_append]; exact (Int.zero_add _).symm
  | x :: a, b, t => by
    rw [List.cons_append, sumM_cons, sumM_cons, sumM_app S k a b]
    show _ = _ + sumM S k (endM S (stepM S t x).next a) b
    omega
section
variable {S : Setg}
theorem run_facts (ok : S.Ok) : ∀ {row : List Int} {t : Stt}, t.Ok S → (∀ n, n ∈ row → 0 ≤ n) →
    row.sum ≤ sumM S 0 t row ∧ (S.tries = 1 → sumM S 0 t row = row.sum) ∧ (S.tokens = some 0 → sumM S 0 t row = row.sum) ∧ (S.tries = 2 → sumM S 0 t row + (endM S t row).R ≤ 2 * row.sum + t.R) ∧
    (S.tries = 2 → S.tokens = none → 2 * row.sum + t.R ≤ sumM S 0 t row + (endM S t row).R + sumM S 1 t row) ∧ 0 ≤ sumM S 1 t row ∧ sumM S 1 t row ≤ S.work * row.length ∧ sumM S 1 t row + (endM S t row).Sz ≤ t.Sz + row.sum
  | [], t, tk, _ => by
    simp only [sumM_nil, List.sum_nil, List.length_nil]
    show _ ∧ _ ∧ _ ∧ (S.tries = 2 → 0 + t.R ≤ _) ∧ (S.tries = 2 → S.tokens = none → _ ≤ 0 + t.R + 0) ∧ _ ∧ _ ∧ 0 + t.Sz ≤ _
    refine ⟨by omega, by simp, by simp, fun _ => by omega, fun _ _ => by omega, by omega, by simp, by omega⟩
  | f :: fs, t, tk, h => by
    have hf := h f List.mem_cons_self
    obtain ⟨b1, b2, b3, b4, b5, b6, b7, b8⟩ := beat ok tk hf
    obtain ⟨c1, c2, c3, c4, c5, c6, c7, c8⟩ := run_facts ok (step_ok ok tk hf) fun n hn => h n (List.mem_cons_of_mem _ hn)
    simp only [sumM_cons, List.sum_cons, List.length_cons]
    have e0 : (stepM S t f).get 0 = (stepM S t f).came := rfl
    have e1 : (stepM S t f).get 1 = (stepM S t f).answered := rfl
    show _ ∧ _ ∧ _ ∧ (S.tries = 2 → _ + (endM S (stepM S t f).next fs).R ≤ _) ∧ (S.tries = 2 → S.tokens = none → _ ≤ _ + (endM S (stepM S t f).next fs).R + _) ∧ _ ∧ _ ∧ _ + (endM S (stepM S t f).next fs).Sz ≤ _
    rw [e0, e1]
    refine ⟨by omega, fun z => by have := b2 z; have := c2 z; omega, fun z => by have := b3 z; have := c3 z; omega, fun z => by have := b4 z; have := c4 z; omega, fun z y => by have := b5 z y; have := c5 z y; omega, by omega, ?_, by omega⟩
    have : S.work * ((fs.length + 1 : Nat) : Int) = S.work * fs.length + S.work := by
      rw [show ((fs.length + 1 : Nat) : Int) = (fs.length : Int) + 1 from rfl, Int.mul_add, Int.mul_one]
    omega
end
/-- what a long run gives -/
structure LR (S : Setg) (most : Int) (place : Nat) (sign : Int) (p q : Int) (way around : List Int) (prices : List (Stt × Int)) : Prop where
  q1 : 1 ≤ q
  p0 : 0 ≤ p
  one : Int.gcd p q = 1
  wayB : ∀ n, n ∈ way → 0 ≤ n ∧ n ≤ most
  aroundB : ∀ n, n ∈ around → 0 ≤ n ∧ n ≤ most
  sum : 0 < around.sum
  back : endM S (endM S (firstM S) way) around = endM S (firstM S) way
  bal : q * sumM S place (endM S (firstM S) way) around = p * around.sum
  nodup : (prices.map Prod.fst).Nodup
  first : (firstM S, 0) ∈ prices
  closed : ∀ t x, (t, x) ∈ prices → ∀ n, 0 ≤ n → n ≤ most → ∃ y, ((stepM S t n).next, y) ∈ prices ∧ x + sign * (q * (stepM S t n).get place - p * n) ≤ y
  len : prices.length ≤ 2000
  oks : ∀ t x, (t, x) ∈ prices → t.Ok S
section
variable {S : Setg} {most : Int} {place : Nat} {sign p q : Int} {way around : List Int} {prices : List (Stt × Int)}
theorem LR.ne (h : LR S most place sign p q way around prices) : around ≠ [] := fun e => by
  have := h.sum
  rw [e] at this
  exact absurd this (by decide)
theorem LR.wok (h : LR S most place sign p q way around prices) (ok : S.Ok) : (endM S (firstM S) way).Ok S := endM_ok ok (firstM_ok ok) fun n hn => (h.wayB n hn).1
theorem LR.run (h : LR S most place sign p q way around prices) : ∀ {row : List Int} {t : Stt} {x : Int}, (t, x) ∈ prices → (∀ n, n ∈ row → 0 ≤ n ∧ n ≤ most) → ∃ y, (endM S t row, y) ∈ prices ∧ x + sign * (q * sumM S place t row - p * row.sum) ≤ y
  | [], t, x, hx, _ => ⟨x, hx, by simp [sumM_nil]⟩
  | f :: fs, t, x, hx, hr => by
    obtain ⟨h0, h1⟩ := hr f List.mem_cons_self
    obtain ⟨y, hy, e1⟩ := h.closed t x hx f h0 h1
    obtain ⟨z, hz, e2⟩ := h.run hy fun n hn => hr n (List.mem_cons_of_mem _ hn)
    refine ⟨z, hz, ?_⟩
    rw [sumM_cons, List.sum_cons]
    have : sign * (q * ((stepM S t f).get place + sumM S place (stepM S t f).next fs) - p * (f + fs.sum)) = sign * (q * (stepM S t f).get place - p * f) + sign * (q * sumM S place (stepM S t f).next fs - p * fs.sum) := by
      rw [← Int.mul_add, Int.mul_add, Int.mul_add]
      congr 1
      omega
    omega
theorem fst_inj {α β : Type} : ∀ {l : List (α × β)}, (l.map Prod.fst).Nodup → ∀ {a : α} {x y : β}, (a, x) ∈ l → (a, y) ∈ l → x = y
  | [], _, _, _, _, h, _ => by cases h
  | (b, z) :: l, nd, a, x, y, h1, h2 => by
    rw [List.map_cons, List.nodup_cons] at nd
    have out : ∀ w, (b, w) ∉ l := fun w hw => nd.1 (List.mem_map.mpr ⟨_, hw, rfl⟩)
    rcases List.mem_cons.mp h1 with e1 | h1 <;> rcases List.mem_cons.mp h2 with e2 | h2
    · cases e1; cases e2; rfl
    · cases e1; exact absurd h2 (out _)
    · cases e2; exact absurd h1 (out _)
    · exact fst_inj nd.2 h1 h2
/-- a closed row within reach costs nothing -/
theorem LR.round (h : LR S most place sign p q way around prices) {w r : List Int} (hw : ∀ n, n ∈ w → 0 ≤ n ∧ n ≤ most) (hr : ∀ n, n ∈ r → 0 ≤ n ∧ n ≤ most) (hb : endM S (endM S (firstM S) w) r = endM S (firstM S) w) : sign * (q * sumM S place (endM S (firstM S) w) r - p * r.sum) ≤ 0 := by
  obtain ⟨y, hy, _⟩ := h.run h.first hw
  obtain ⟨z, hz, e⟩ := h.run hy hr
  rw [hb] at hz
  have := fst_inj h.nodup hy hz
  omega
theorem upper : ∀ l : List (Stt × Int), ∃ B : Nat, ∀ t x, (t, x) ∈ l → x ≤ (B : Int)
  | [] => ⟨0, fun _ _ h => by cases h⟩
  | (t, x) :: l => by
    obtain ⟨B, hB⟩ := upper l
    refine ⟨B + x.toNat, fun u y h => ?_⟩
    rcases List.mem_cons.mp h with e | h
    · cases e; omega
    · have := hB u y h; omega
end
section
variable {S : Setg} {most p q r s : Int} {way around way' around' : List Int} {prices prices' : List (Stt × Int)}
theorem load_lo (ok : S.Ok) (h : LR S most 0 1 p q way around prices) : q ≤ p := by
  obtain ⟨c1, _⟩ := run_facts ok (h.wok ok) (row := around) fun n hn => (h.aroundB n hn).1
  have hb := h.bal
  have hs := h.sum
  have hq := h.q1
  have : q * around.sum ≤ p * around.sum := by rw [← hb]; exact Int.mul_le_mul_of_nonneg_left c1 (by omega)
  exact Int.le_of_mul_le_mul_right this hs
theorem load_one (ok : S.Ok) (h : LR S most 0 1 p q way around prices) (hc : S.tries = 1 ∨ S.tokens = some 0) : p = 1 ∧ q = 1 := by
  obtain ⟨_, c2, c3, _⟩ := run_facts ok (h.wok ok) (row := around) fun n hn => (h.aroundB n hn).1
  have hb := h.bal
  have hs := h.sum
  have e : sumM S 0 (endM S (firstM S) way) around = around.sum := by
    rcases hc with z | z
    · exact c2 z
    · exact c3 z
  rw [e] at hb
  have : q = p := Int.eq_of_mul_eq_mul_right (by omega) hb
  subst this
  have := h.one
  rw [Int.gcd_self] at this
  have := h.q1
  omega
theorem load_hi (ok : S.Ok) (h : LR S most 0 1 p q way around prices) : p ≤ S.tries * q := by
  have ht1 := ok.t1
  have ht2 := ok.t2
  by_cases e : S.tries = 1
  · obtain ⟨rfl, rfl⟩ := load_one ok h (Or.inl e)
    omega
  · have e : S.tries = 2 := by omega
    obtain ⟨_, _, _, c4, _⟩ := run_facts ok (h.wok ok) (row := around) fun n hn => (h.aroundB n hn).1
    have c := c4 e
    rw [h.back] at c
    have hb := h.bal
    have hs := h.sum
    have hq := h.q1
    have : p * around.sum ≤ (2 * q) * around.sum := by
      rw [← hb, Int.mul_comm 2 q, Int.mul_assoc]
      exact Int.mul_le_mul_of_nonneg_left (by omega) (by omega)
    have := Int.le_of_mul_le_mul_right this hs
    rw [e]
    exact this
theorem worst_hi (ok : S.Ok) (h : LR S most 1 (-1) r s way around prices) : r ≤ s := by
  obtain ⟨_, _, _, _, _, _, _, c8⟩ := run_facts ok (h.wok ok) (row := around) fun n hn => (h.aroundB n hn).1
  rw [h.back] at c8
  have hb := h.bal
  have hs := h.sum
  have hq := h.q1
  have : r * around.sum ≤ s * around.sum := by rw [← hb]; exact Int.mul_le_mul_of_nonneg_left (by omega) (by omega)
  exact Int.le_of_mul_le_mul_right this hs
theorem worst_work (ok : S.Ok) (h : LR S most 1 (-1) r s way around prices) (hm : 0 ≤ most) : r * most ≤ S.work * s := by
  obtain ⟨B, hB⟩ := upper prices
  refine Int.not_lt.mp fun hlt => ?_
  have hrow : ∀ n, n ∈ List.replicate (B + 1) most → 0 ≤ n ∧ n ≤ most := fun n hn => by
    rw [(List.mem_replicate.mp hn).2]
    exact ⟨hm, Int.le_refl _⟩
  obtain ⟨y, hy, e⟩ := h.run h.first hrow
  have b := hB _ _ hy
  obtain ⟨_, _, _, _, _, _, c7, _⟩ := run_facts ok (firstM_ok ok) (row := List.replicate (B + 1) most) fun n hn => (hrow n hn).1
  have es : (List.replicate (B + 1) most).sum = ((B + 1 : Nat) : Int) * most := by
    generalize B + 1 = k
    induction k with
    | zero => simp
    | succ k ih => rw [List.replicate_succ, List.sum_cons, ih, show ((k + 1 : Nat) : Int) = (k : Int) + 1 from rfl, Int.add_mul, Int.one_mul]; omega
  rw [List.length_replicate] at c7
  rw [es] at e
  generalize sumM S 1 (firstM S) (List.replicate (B + 1) most) = T at *
  have hs := h.q1
  have k1 : s * T ≤ (S.work * s) * ((B + 1 : Nat) : Int) := by
    rw [Int.mul_comm S.work s, Int.mul_assoc]
    exact Int.mul_le_mul_of_nonneg_left c7 (by omega)
  have k2 : r * (((B + 1 : Nat) : Int) * most) = (r * most) * ((B + 1 : Nat) : Int) := by
    rw [Int.mul_comm ((B + 1 : Nat) : Int) most, Int.mul_assoc]
  rw [k2] at e
  have k3 : ((B + 1 : Nat) : Int) ≤ (r * most - S.work * s) * ((B + 1 : Nat) : Int) := by
    have := Int.mul_le_mul_of_nonneg_right (show (1 : Int) ≤ r * most - S.work * s by omega) (show (0 : Int) ≤ ((B + 1 : Nat) : Int) by omega)
    omega
  rw [Int.sub_mul] at k3
  generalize (r * most) * ((B + 1 : Nat) : Int) = u at *
  generalize (S.work * s) * ((B + 1 : Nat) : Int) = v at *
  have : (-1 : Int) * (s * T - u) = u - s * T := by omega
  omega
theorem load_full (ok : S.Ok) (h : LR S most 0 1 p q way around prices) (g : LR S most 1 (-1) 0 s way' around' prices') (hn : S.tokens = none) : p = S.tries * q := by
  have ht1 := ok.t1
  have ht2 := ok.t2
  have hi := load_hi ok h
  by_cases e : S.tries = 1
  · obtain ⟨rfl, rfl⟩ := load_one ok h (Or.inl e)
    omega
  · have e : S.tries = 2 := by omega
    obtain ⟨_, _, _, _, c5, c6, _, _⟩ := run_facts ok (g.wok ok) (row := around') fun n hn => (g.aroundB n hn).1
    have c := c5 e hn
    rw [g.back] at c
    have hb := g.bal
    rw [Int.zero_mul] at hb
    have hs0 := g.q1
    have z : sumM S 1 (endM S (firstM S) way') around' = 0 := by
      rcases Int.mul_eq_zero.mp hb with z | z
      · omega
      · exact z
    have rr := h.round g.wayB g.aroundB g.back
    have hs := g.sum
    have hq := h.q1
    have k1 : q * (2 * around'.sum) ≤ q * sumM S 0 (endM S (firstM S) way') around' := Int.mul_le_mul_of_nonneg_left (by omega) (by omega)
    have k2 : q * (2 * around'.sum) = (2 * q) * around'.sum := by rw [Int.mul_comm 2 q, Int.mul_assoc]
    have : (2 * q) * around'.sum ≤ p * around'.sum := by omega
    have := Int.le_of_mul_le_mul_right this hs
    rw [e] at hi ⊢
    omega
/-- more fresh asks: no better load, no worse worst -/
theorem load_more {p' q' : Int} (h : LR S most 0 1 p q way around prices) (g : LR S (most + 1) 0 1 p' q' way' around' prices') : p * q' ≤ p' * q := by
  have rr := g.round (fun n hn => by have := h.wayB n hn; omega) (fun n hn => by have := h.aroundB n hn; omega) h.back
  have hb := h.bal
  have hs := h.sum
  have hq := h.q1
  generalize sumM S 0 (endM S (firstM S) way) around = T at *
  have k1 : q' * T ≤ p' * around.sum := by omega
  have k2 : q * (q' * T) ≤ q * (p' * around.sum) := Int.mul_le_mul_of_nonneg_left k1 (by omega)
  have k3 : q * (q' * T) = (p * q') * around.sum := by
    rw [Int.mul_left_comm, hb, ← Int.mul_assoc, Int.mul_comm q' p]
  have k4 : q * (p' * around.sum) = (p' * q) * around.sum := by rw [← Int.mul_assoc, Int.mul_comm q p']
  rw [k3, k4] at k2
  exact Int.le_of_mul_le_mul_right k2 hs
theorem worst_more {r' s' : Int} (h : LR S most 1 (-1) r s way around prices) (g : LR S (most + 1) 1 (-1) r' s' way' around' prices') : r' * s ≤ r * s' := by
  have rr := g.round (fun n hn => by have := h.wayB n hn; omega) (fun n hn => by have := h.aroundB n hn; omega) h.back
  have hb := h.bal
  have hs := h.sum
  have hq := h.q1
  generalize sumM S 1 (endM S (firstM S) way) around = T at *
  have k1 : r' * around.sum ≤ s' * T := by omega
  have k2 : s * (r' * around.sum) ≤ s * (s' * T) := Int.mul_le_mul_of_nonneg_left k1 (by omega)
  have k3 : s * (s' * T) = (r * s') * around.sum := by
    rw [Int.mul_left_comm, hb, ← Int.mul_assoc, Int.mul_comm s' r]
  have k4 : s * (r' * around.sum) = (r' * s) * around.sum := by rw [← Int.mul_assoc, Int.mul_comm s r']
  rw [k3, k4] at k2
  exact Int.le_of_mul_le_mul_right k2 hs
end
end CB

/-! ## KM6 -/
/-! Longest ways by relaxing: what stays true, when it ends (core Lean alone). -/
namespace CB.BF
/-! ### at most n numbers below n -/
theorem nodup_lt : ∀ (n : Nat) (l : List Nat), l.Nodup → (∀ x, x ∈ l → x < n) → l.length ≤ n
  | 0, l, _, h => by
    cases l with
    | nil => exact Nat.le_refl _
    | cons a l => exact absurd (h a List.mem_cons_self) (Nat.not_lt_zero _)
  | n + 1, l, nd, h => by
    have h1 := nodup_lt n (l.filter fun x => decide (x ≠ n)) (nd.filter _) fun x hx => by
      have := List.mem_filter.mp hx
      have h2 := h x this.1
      have h3 := of_decide_eq_true this.2
      omega
    have h2 : l.length ≤ (l.filter fun x => decide (x ≠ n)).length + 1 := by
      clear h1 h
      induction l with
      | nil => exact Nat.zero_le _
      | cons a l ih =>
        rw [List.nodup_cons] at nd
        by_cases e : a = n
        · have : (l.filter fun x => decide (x ≠ n)) = l := List.filter_eq_self.mpr fun x hx => by
            refine decide_eq_true fun q => ?_
            rw [q, ← e] at hx
            exact nd.1 hx
          rw [List.filter_cons_of_neg (by simp [e]), this]
          exact Nat.le_refl _
        · rw [List.filter_cons_of_pos (by simp [e]), List.length_cons, List.length_cons]
          have := ih nd.2
          omega
    omega
abbrev Pr := List (Option Int)
abbrev St := List (Option (Nat × Nat))
def prA (p : Pr) (v : Nat) : Option Int := p.getD v none
def stA (s : St) (v : Nat) : Option (Nat × Nat) := s.getD v none
theorem pr_set {p : Pr} {v u : Nat} {x : Option Int} (h : v < p.length) : prA (p.set v x) u = if u = v then x else prA p u := by
  unfold prA
  rw [List.getD_eq_getElem?_getD, List.getD_eq_getElem?_getD, List.getElem?_set]
  by_cases e : v = u
  · rw [if_pos e, if_pos (by omega), if_pos e.symm]
    rfl
  · rw [if_neg e, if_neg fun q => e q.symm]
theorem st_set {p : St} {v u : Nat} {x : Option (Nat × Nat)} (h : v < p.length) : stA (p.set v x) u = if u = v then x else stA p u := by
  unfold stA
  rw [List.getD_eq_getElem?_getD, List.getD_eq_getElem?_getD, List.getElem?_set]
  by_cases e : v = u
  · rw [if_pos e, if_pos (by omega), if_pos e.symm]
    rfl
  · rw [if_neg e, if_neg fun q => e q.symm]
theorem pr_none {p : Pr} {v : Nat} (h : p.length ≤ v) : prA p v = none := by
  unfold prA
  rw [List.getD_eq_getElem?_getD, List.getElem?_eq_none h]
  rfl
theorem pr_lt {p : Pr} {v : Nat} {x : Int} (h : prA p v = some x) : v < p.length := by
  refine Nat.lt_of_not_le fun q => ?_
  rw [pr_none q] at h
  cases h
theorem pr_get {p : Pr} {v : Nat} (h : v < p.length) : p[v]? = some (prA p v) := by
  unfold prA
  rw [List.getD_eq_getElem?_getD, List.getElem?_eq_getElem h]
  rfl
theorem st_get {p : St} {v : Nat} (h : v < p.length) : p[v]? = some (stA p v) := by
  unfold stA
  rw [List.getD_eq_getElem?_getD, List.getElem?_eq_getElem h]
  rfl
/-- a graph: n nodes, m + 1 edges out of each -/
structure Gph where
  n : Nat
  m : Nat
  nx : Nat → Nat → Nat
  wt : Nat → Nat → Int
  W : Int
structure Gph.Ok (g : Gph) : Prop where
  n1 : 1 ≤ g.n
  nx : ∀ v k, v < g.n → k ≤ g.m → g.nx v k < g.n
  w : ∀ v k, v < g.n → k ≤ g.m → -g.W ≤ g.wt v k ∧ g.wt v k ≤ g.W
  W0 : 0 ≤ g.W
/-- down the steps from v to u, by the labels ks -/
inductive Pth (s : St) : Nat → Nat → List Nat → Prop
  | one {v u k : Nat} : stA s v = some (u, k) → Pth s v u [k]
  | more {v x u k : Nat} {ks : List Nat} : stA s v = some (x, k) → Pth s x u ks → Pth s v u (k :: ks)
/-- the worth of it -/
inductive PthW (g : Gph) (s : St) : Nat → Nat → Int → Prop
  | one {v u k : Nat} : stA s v = some (u, k) → PthW g s v u (g.wt u k)
  | more {v x u k : Nat} {S : Int} : stA s v = some (x, k) → PthW g s x u S → PthW g s v u (S + g.wt x k)
/-- prices, steps, was anything changed -/
structure B where
  pr : Pr
  st : St
  ch : Bool
def cnt (p : Pr) : Nat := p.countP (·.isSome)
structure J (g : Gph) (b : B) : Prop where
  lp : b.pr.length = g.n
  ls : b.st.length = g.n
  step : ∀ v u k, stA b.st v = some (u, k) → u < g.n ∧ k ≤ g.m ∧ g.nx u k = v ∧ ∃ x y, prA b.pr v = some x ∧ prA b.pr u = some y ∧ x ≤ y + g.wt u k
  root : ∀ v x, prA b.pr v = some x → stA b.st v = none → v = 0 ∧ x = 0
  low : ∀ v x, prA b.pr v = some x → -(g.W * cnt b.pr) ≤ x
  pos : ∀ v S, PthW g b.st v v S → 0 < S
  zero : ∃ x, prA b.pr 0 = some x
theorem J.le {g : Gph} {b : B} (j : J g b) : ∀ {v u : Nat} {S : Int}, PthW g b.st v u S → ∃ x y, prA b.pr v = some x ∧ prA b.pr u = some y ∧ x ≤ y + S
  | _, _, _, .one h => by
    obtain ⟨_, _, _, r⟩ := j.step _ _ _ h
    exact r
  | _, _, _, .more h t => by
    obtain ⟨_, _, _, x, y, e1, e2, e3⟩ := j.step _ _ _ h
    obtain ⟨y', z, f1, f2, f3⟩ := j.le t
    rw [e2] at f1
    cases f1
    exact ⟨x, z, e1, f2, by omega⟩
def relax (g : Gph) (b : B) (v k : Nat) : B := match prA b.pr v with
  | none => b
  | some x => match prA b.pr (g.nx v k) with
    | none => ⟨b.pr.set (g.nx v k) (some (x + g.wt v k)), b.st.set (g.nx v k) (some (v, k)), true⟩
    | some y => if y < x + g.wt v k then ⟨b.pr.set (g.nx v k) (some (x + g.wt v k)), b.st.set (g.nx v k) (some (v, k)), true⟩ else b
theorem cnt_set : ∀ {p : Pr} {v : Nat} {x : Int}, v < p.length → cnt (p.set v (some x)) = cnt p + if prA p v = none then 1 else 0
  | [], v, _, h => absurd h (Nat.not_lt_zero _)
  | o :: p, 0, x, _ => by
    show cnt (some x :: p) = cnt (o :: p) + if o = none then 1 else 0
    unfold cnt
    cases o with
    | none => rw [List.countP_cons_of_pos rfl, List.countP_cons_of_neg (by simp)]; simp
    | some y => rw [List.countP_cons_of_pos rfl, List.countP_cons_of_pos rfl]; simp
  | o :: p, v + 1, x, h => by
    have ih := cnt_set (p := p) (v := v) (x := x) (by simpa using h)
    have e : prA (o :: p) (v + 1) = prA p v := rfl
    rw [e]
    show cnt (o :: p.set v (some x)) = cnt (o :: p) + _
    unfold cnt at *
    rw [List.countP_cons, List.countP_cons, ih]
    omega
theorem cnt_le (p : Pr) : cnt p ≤ p.length := List.countP_le_length
/-- the new steps are the old ones but at v; what passes through v is strict -/
theorem new_pth {g : Gph} {b : B} {v u k : Nat} {x y : Int} (j : J g b) (hv : v < g.n) (ey : prA b.pr u = some y) (hx : x = y + g.wt u k) (hn : ∀ z, prA b.pr v = some z → z < x) :
    ∀ {a c : Nat} {S : Int}, PthW g (b.st.set v (some (u, k))) a c S → ∃ p q, prA (b.pr.set v (some x)) a = some p ∧ prA (b.pr.set v (some x)) c = some q ∧ (p < q + S ∨ (p ≤ q + S ∧ c ≠ v ∧ (a = v ∨ PthW g b.st a c S))) := by
  have lv : v < b.pr.length := by rw [j.lp]; exact hv
  have ls : v < b.st.length := by rw [j.ls]; exact hv
  -- one edge
  have edge : ∀ {a c l : Nat}, stA (b.st.set v (some (u, k))) a = some (c, l) → ∃ p q, prA (b.pr.set v (some x)) a = some p ∧ prA (b.pr.set v (some x)) c = some q ∧ (p < q + g.wt c l ∨ (p ≤ q + g.wt c l ∧ c ≠ v ∧ (a = v ∨ stA b.st a = some (c, l)))) := by
    intro a c l h
    rw [st_set ls] at h
    by_cases ea : a = v
    · rw [if_pos ea] at h
      cases h
      refine ⟨x, ?_⟩
      rw [pr_set lv, if_pos ea, pr_set lv]
      by_cases ec : u = v
      · rw [if_pos ec]
        refine ⟨x, rfl, rfl, Or.inl ?_⟩
        have := hn y (by rw [← ec]; exact ey)
        omega
      · rw [if_neg ec]
        exact ⟨y, rfl, ey, Or.inr ⟨by omega, ec, Or.inl ea⟩⟩
    · rw [if_neg ea] at h
      obtain ⟨_, _, _, p, q, e1, e2, e3⟩ := j.step _ _ _ h
      refine ⟨p, ?_⟩
      rw [pr_set lv, if_neg ea, pr_set lv]
      by_cases ec : c = v
      · rw [if_pos ec]
        rw [ec] at e2
        have := hn q e2
        exact ⟨x, e1, rfl, Or.inl (by omega)⟩
      · rw [if_neg ec]
        exact ⟨q, e1, e2, Or.inr ⟨e3, ec, Or.inr h⟩⟩
  intro a c S h
  induction h with
  | one h =>
    obtain ⟨p, q, e1, e2, r⟩ := edge h
    refine ⟨p, q, e1, e2, r.imp id fun ⟨r1, r2, r3⟩ => ⟨r1, r2, r3.imp id fun z => .one z⟩⟩
  | more h t ih =>
    obtain ⟨p, q, e1, e2, r⟩ := edge h
    obtain ⟨q', z, f1, f2, r'⟩ := ih
    rw [e2] at f1
    cases f1
    refine ⟨p, z, e1, f2, ?_⟩
    rcases r with r | ⟨r1, r2, r3⟩
    · rcases r' with r' | ⟨r', _⟩
      · exact Or.inl (by omega)
      · exact Or.inl (by omega)
    · rcases r' with r' | ⟨s1, s2, s3⟩
      · exact Or.inl (by omega)
      · refine Or.inr ⟨by omega, s2, ?_⟩
        rcases s3 with s3 | s3
        · exact absurd s3 r2
        · exact r3.imp id fun z => .more z s3
theorem J_set {g : Gph} {b : B} {u k : Nat} {y : Int} (ok : g.Ok) (j : J g b) (hu : u < g.n) (hk : k ≤ g.m) (ey : prA b.pr u = some y) (hn : ∀ z, prA b.pr (g.nx u k) = some z → z < y + g.wt u k) :
    J g ⟨b.pr.set (g.nx u k) (some (y + g.wt u k)), b.st.set (g.nx u k) (some (u, k)), true⟩ := by
  have hv := ok.nx u k hu hk
  have np := @new_pth g b (g.nx u k) u k _ y j hv ey rfl hn
  have hw := ok.w u k hu hk
  generalize ev : g.nx u k = v at *
  have lv : v < b.pr.length := by rw [j.lp]; exact hv
  have ls : v < b.st.length := by rw [j.ls]; exact hv
  refine ⟨by rw [List.length_set]; exact j.lp, by rw [List.length_set]; exact j.ls, fun a c l h => ?_, fun a p e1 e2 => ?_, fun a p e1 => ?_, fun a S h => ?_, ?_⟩
  · obtain ⟨p, q, e1, e2, r⟩ := np (.one h)
    have le : p ≤ q + g.wt c l := by
      rcases r with r | ⟨r, _⟩ <;> omega
    have h2 := h
    rw [st_set ls] at h2
    by_cases ea : a = v
    · rw [if_pos ea] at h2
      cases h2
      exact ⟨hu, hk, by rw [ea]; exact ev, p, q, e1, e2, le⟩
    · rw [if_neg ea] at h2
      obtain ⟨q1, q2, q3, _⟩ := j.step _ _ _ h2
      exact ⟨q1, q2, q3, p, q, e1, e2, le⟩
  · have e1 : prA (b.pr.set v (some (y + g.wt u k))) a = some p := e1
    have e2 : stA (b.st.set v (some (u, k))) a = none := e2
    rw [st_set ls] at e2
    rw [pr_set lv] at e1
    by_cases ea : a = v
    · rw [if_pos ea] at e2
      cases e2
    · rw [if_neg ea] at e1 e2
      exact j.root a p e1 e2
  · have e1 : prA (b.pr.set v (some (y + g.wt u k))) a = some p := e1
    show -(g.W * (cnt (b.pr.set v (some (y + g.wt u k))) : Nat)) ≤ p
    rw [pr_set lv] at e1
    have hc := cnt_set (x := y + g.wt u k) lv
    have W0 := ok.W0
    have mono : g.W * ((cnt b.pr : Nat) : Int) ≤ g.W * ((cnt (b.pr.set v (some (y + g.wt u k))) : Nat) : Int) := Int.mul_le_mul_of_nonneg_left (by omega) W0
    by_cases ea : a = v
    · rw [if_pos ea] at e1
      obtain rfl := Option.some.inj e1
      have l1 := j.low u y ey
      cases en : prA b.pr v with
      | none =>
        rw [if_pos en] at hc
        rw [hc, show (((cnt b.pr) + 1 : Nat) : Int) = ((cnt b.pr : Nat) : Int) + 1 from rfl, Int.mul_add, Int.mul_one]
        omega
      | some z =>
        have := hn z en
        have l2 := j.low v z en
        omega
    · rw [if_neg ea] at e1
      have := j.low a p e1
      omega
  · have h : PthW g (b.st.set v (some (u, k))) a a S := h
    obtain ⟨p, q, e1, e2, r⟩ := np h
    rw [e1] at e2
    cases e2
    rcases r with r | ⟨r1, r2, r3⟩
    · omega
    · rcases r3 with r3 | r3
      · exact absurd r3 r2
      · exact j.pos a S r3
  · obtain ⟨x, hx⟩ := j.zero
    show ∃ x, prA (b.pr.set v (some (y + g.wt u k))) 0 = some x
    rw [pr_set lv]
    by_cases e : 0 = v
    · rw [if_pos e]; exact ⟨_, rfl⟩
    · rw [if_neg e]; exact ⟨x, hx⟩
/-- b' is b, climbed -/
structure Up (g : Gph) (b b' : B) : Prop where
  le : ∀ v x, prA b.pr v = some x → ∃ x', prA b'.pr v = some x' ∧ x ≤ x'
  same : b'.ch = false → b' = b
  more : b.ch = false → b'.ch = true → ∃ v x', v < g.n ∧ prA b'.pr v = some x' ∧ ∀ x, prA b.pr v = some x → x < x'
  keep : b.ch = true → b'.ch = true
theorem Up.refl (g : Gph) (b : B) : Up g b b := ⟨fun _ x h => ⟨x, h, Int.le_refl _⟩, fun _ => rfl, (fun h1 h2 => by rw [h1] at h2; cases h2), id⟩
theorem Up.trans {g : Gph} {a b c : B} (x : Up g a b) (y : Up g b c) : Up g a c where
  le := fun v p h => by
    obtain ⟨q, h1, h2⟩ := x.le v p h
    obtain ⟨r, h3, h4⟩ := y.le v q h1
    exact ⟨r, h3, by omega⟩
  same := fun h => by
    have e := y.same h
    rw [e]
    exact x.same (by rw [← e]; exact h)
  more := fun h1 h2 => by
    cases e : b.ch with
    | false =>
      obtain ⟨v, p, hv, hp, hl⟩ := y.more e h2
      refine ⟨v, p, hv, hp, fun z hz => ?_⟩
      obtain ⟨z', e1, e2⟩ := x.le v z hz
      have := hl z' e1
      omega
    | true =>
      obtain ⟨v, p, hv, hp, hl⟩ := x.more h1 e
      obtain ⟨p', e1, e2⟩ := y.le v p hp
      refine ⟨v, p', hv, e1, fun z hz => ?_⟩
      have := hl z hz
      omega
  keep := fun h => y.keep (x.keep h)
theorem relax_ok {g : Gph} {b : B} {v k : Nat} (ok : g.Ok) (j : J g b) (hv : v < g.n) (hk : k ≤ g.m) : J g (relax g b v k) ∧ Up g b (relax g b v k) ∧ ((relax g b v k).ch = false → ∀ x, prA b.pr v = some x → ∃ y, prA b.pr (g.nx v k) = some y ∧ x + g.wt v k ≤ y) := by
  unfold relax
  have hn := ok.nx v k hv hk
  have lv : g.nx v k < b.pr.length := by rw [j.lp]; exact hn
  cases e : prA b.pr v with
  | none => exact ⟨j, .refl g b, fun _ x h => by cases h⟩
  | some x =>
    have up : (∀ z, prA b.pr (g.nx v k) = some z → z < x + g.wt v k) → Up g b ⟨b.pr.set (g.nx v k) (some (x + g.wt v k)), b.st.set (g.nx v k) (some (v, k)), true⟩ := fun hz => by
      refine ⟨fun u p hp => ?_, (fun h => by cases h), fun _ _ => ⟨g.nx v k, x + g.wt v k, hn, ?_, hz⟩, fun _ => rfl⟩
      · show ∃ x', prA (b.pr.set (g.nx v k) (some (x + g.wt v k))) u = some x' ∧ p ≤ x'
        rw [pr_set lv]
        by_cases eu : u = g.nx v k
        · rw [if_pos eu]
          have := hz p (by rw [← eu]; exact hp)
          exact ⟨_, rfl, by omega⟩
        · rw [if_neg eu]
          exact ⟨p, hp, Int.le_refl _⟩
      · show prA (b.pr.set (g.nx v k) (some (x + g.wt v k))) (g.nx v k) = _
        rw [pr_set lv, if_pos rfl]
    dsimp only
    cases e2 : prA b.pr (g.nx v k) with
    | none =>
      have hz : ∀ z, prA b.pr (g.nx v k) = some z → z < x + g.wt v k := fun z h => by rw [e2] at h; cases h
      exact ⟨J_set ok j hv hk e hz, up hz, (fun h => by cases h)⟩
    | some y =>
      dsimp only
      by_cases c : y < x + g.wt v k
      · rw [if_pos c]
        have hz : ∀ z, prA b.pr (g.nx v k) = some z → z < x + g.wt v k := fun z h => by rw [e2] at h; cases h; exact c
        exact ⟨J_set ok j hv hk e hz, up hz, (fun h => by cases h)⟩
      · rw [if_neg c]
        refine ⟨j, .refl g b, fun _ z h => ?_⟩
        cases h
        exact ⟨y, rfl, by omega⟩
/-- the row of v, its first i edges -/
def rowM (g : Gph) (b : B) (v : Nat) : Nat → B
  | 0 => b
  | i + 1 => relax g (rowM g b v i) v i
/-- the first j rows -/
def passM (g : Gph) (b : B) : Nat → B
  | 0 => b
  | j + 1 => match prA (passM g b j).pr j with
    | none => passM g b j
    | some _ => rowM g (passM g b j) j (g.m + 1)
theorem row_ok {g : Gph} {b : B} {v : Nat} (ok : g.Ok) (j : J g b) (hv : v < g.n) : ∀ i, i ≤ g.m + 1 → J g (rowM g b v i) ∧ Up g b (rowM g b v i) ∧ ((rowM g b v i).ch = false → ∀ k, k < i → ∀ x, prA b.pr v = some x → ∃ y, prA b.pr (g.nx v k) = some y ∧ x + g.wt v k ≤ y)
  | 0, _ => ⟨j, .refl g b, fun _ k hk => absurd hk (Nat.not_lt_zero _)⟩
  | i + 1, hi => by
    obtain ⟨j1, u1, c1⟩ := row_ok ok j hv i (by omega)
    obtain ⟨j2, u2, c2⟩ := relax_ok (k := i) ok j1 hv (by omega)
    refine ⟨j2, u1.trans u2, fun h k hk x hx => ?_⟩
    have e2 := u2.same h
    have h1 : (rowM g b v i).ch = false := by rw [← e2]; exact h
    have e1 := u1.same h1
    by_cases ek : k = i
    · have := c2 h x (by rw [e1]; exact hx)
      rw [e1] at this
      rw [ek]
      exact this
    · exact c1 h1 k (by omega) x hx
theorem pass_ok {g : Gph} {b : B} (ok : g.Ok) (j : J g b) : ∀ i, i ≤ g.n → J g (passM g b i) ∧ Up g b (passM g b i) ∧ ((passM g b i).ch = false → ∀ v, v < i → ∀ k, k ≤ g.m → ∀ x, prA b.pr v = some x → ∃ y, prA b.pr (g.nx v k) = some y ∧ x + g.wt v k ≤ y)
  | 0, _ => ⟨j, .refl g b, fun _ k hk => absurd hk (Nat.not_lt_zero _)⟩
  | i + 1, hi => by
    obtain ⟨j1, u1, c1⟩ := pass_ok ok j i (by omega)
    unfold passM
    cases e : prA (passM g b i).pr i with
    | none =>
      refine ⟨j1, u1, fun h v hv k hk x hx => ?_⟩
      by_cases ev : v = i
      · have e1 := u1.same h
        rw [e1, ← ev, hx] at e
        cases e
      · exact c1 h v (by omega) k hk x hx
    | some z =>
      obtain ⟨j2, u2, c2⟩ := row_ok ok j1 (show i < g.n by omega) (g.m + 1) (Nat.le_refl _)
      refine ⟨j2, u1.trans u2, fun h v hv k hk x hx => ?_⟩
      have e2 := u2.same h
      have h1 : (passM g b i).ch = false := by rw [← e2]; exact h
      have e1 := u1.same h1
      by_cases ev : v = i
      · have := c2 h k (by omega) x (by rw [e1, ← ev]; exact hx)
        rw [e1] at this
        rw [ev]
        exact this
      · exact c1 h1 v (by omega) k hk x hx
/-! ### no round in the steps: the prices are bounded -/
inductive FinN (s : St) : Nat → Nat → Prop
  | root {v : Nat} : stA s v = none → FinN s 0 v
  | more {v u k l : Nat} : stA s v = some (u, k) → FinN s l u → FinN s (l + 1) v
theorem finN_one {s : St} {l v : Nat} (h : FinN s l v) : ∀ {l' : Nat}, FinN s l' v → l' = l := by
  induction h with
  | root h =>
    intro l' g
    cases g with
    | root _ => rfl
    | more e _ => rw [h] at e; cases e
  | more h t ih =>
    intro l' g
    cases g with
    | root e => rw [h] at e; cases e
    | more e t' =>
      rw [h] at e
      cases e
      rw [ih t']
/-- the nodes below: l of them and v, all different -/
theorem finN_list {s : St} {n l v : Nat} (hs : ∀ v u k, stA s v = some (u, k) → u < n) (h : FinN s l v) : v < n → ∃ c : List Nat, c.length = l + 1 ∧ c.Nodup ∧ (∀ x, x ∈ c → x < n) ∧ ∀ x, x ∈ c → ∃ i, i ≤ l ∧ FinN s i x := by
  induction h with
  | @root v h => exact fun hv => ⟨[v], rfl, by simp, fun x hx => by rw [List.mem_singleton.mp hx]; exact hv, fun x hx => ⟨0, Nat.le_refl _, by rw [List.mem_singleton.mp hx]; exact .root h⟩⟩
  | @more v u k l h t ih =>
    intro hv
    obtain ⟨c, c1, c2, c3, c4⟩ := ih (hs _ _ _ h)
    refine ⟨v :: c, by rw [List.length_cons, c1], List.nodup_cons.mpr ⟨fun hm => ?_, c2⟩, fun x hx => ?_, fun x hx => ?_⟩
    · obtain ⟨i, hi, hf⟩ := c4 v hm
      have := finN_one (.more h t) hf
      omega
    · rcases List.mem_cons.mp hx with e | hx
      · rw [e]; exact hv
      · exact c3 x hx
    · rcases List.mem_cons.mp hx with e | hx
      · rw [e]; exact ⟨_, Nat.le_refl _, .more h t⟩
      · obtain ⟨i, hi, hf⟩ := c4 x hx
        exact ⟨i, by omega, hf⟩
theorem J.high {g : Gph} {b : B} (ok : g.Ok) (j : J g b) {l v : Nat} (h : FinN b.st l v) : ∀ x, prA b.pr v = some x → x ≤ g.W * l := by
  induction h with
  | root h =>
    intro x hx
    have := (j.root _ x hx h).2
    rw [this]
    simp
  | @more v u k l h t ih =>
    intro x hx
    obtain ⟨hu, hk, _, x', y, e1, e2, e3⟩ := j.step _ _ _ h
    rw [hx] at e1
    cases e1
    have h1 := ih y e2
    have h2 := (ok.w u k hu hk).2
    rw [show ((l + 1 : Nat) : Int) = (l : Int) + 1 from rfl, Int.mul_add, Int.mul_one]
    omega
def Acyc (g : Gph) (s : St) : Prop := ∀ v, v < g.n → ∃ l, FinN s l v
theorem J.bound {g : Gph} {b : B} (ok : g.Ok) (j : J g b) (a : Acyc g b.st) : ∀ v x, prA b.pr v = some x → -(g.W * g.n) ≤ x ∧ x ≤ g.W * g.n := by
  intro v x hx
  have hv : v < g.n := by have := pr_lt hx; rw [j.lp] at this; exact this
  obtain ⟨l, hl⟩ := a v hv
  obtain ⟨c, c1, c2, c3, _⟩ := finN_list (fun v u k h => (j.step v u k h).1) hl hv
  have h1 := nodup_lt g.n c c2 c3
  have h2 := j.high ok hl x hx
  have h3 := j.low v x hx
  have h4 := cnt_le b.pr
  rw [j.lp] at h4
  have h5 : g.W * ((l : Nat) : Int) ≤ g.W * (g.n : Int) := Int.mul_le_mul_of_nonneg_left (by omega) ok.W0
  have h6 : g.W * ((cnt b.pr : Nat) : Int) ≤ g.W * (g.n : Int) := Int.mul_le_mul_of_nonneg_left (by omega) ok.W0
  omega
/-- no round: the first node's price is 0 -/
theorem J.zero0 {g : Gph} {b : B} (j : J g b) {l : Nat} (h : FinN b.st l 0) (ok : g.Ok) : prA b.pr 0 = some 0 := by
  obtain ⟨x, hx⟩ := j.zero
  cases e : stA b.st 0 with
  | none => rw [hx, (j.root 0 x hx e).2]
  | some p =>
    -- the chain from 0 ends at a root; the root is 0: a round
    exfalso
    have key : ∀ {l v : Nat}, FinN b.st l v → (∃ x, prA b.pr v = some x) → ∃ i, i ≤ l ∧ FinN b.st i 0 ∧ i = 0 := by
      intro l v h
      induction h with
      | @root v h =>
        intro ⟨x, hx⟩
        obtain ⟨rfl, _⟩ := j.root v x hx h
        exact ⟨0, Nat.le_refl _, .root h, rfl⟩
      | @more v u k l h t ih =>
        intro _
        obtain ⟨_, _, _, _, y, _, e2, _⟩ := j.step _ _ _ h
        obtain ⟨i, hi, hf, e0⟩ := ih ⟨y, e2⟩
        exact ⟨i, by omega, hf, e0⟩
    obtain ⟨i, _, hf, rfl⟩ := key h ⟨x, hx⟩
    cases hf with
    | root h => rw [e] at h; cases h
/-! ### the measure -/
def muO (U : Int) : Option Int → Nat
  | none => (2 * U + 1).toNat
  | some x => (U - x).toNat
def muP (U : Int) (p : Pr) : Nat := (p.map (muO U)).sum
theorem sum_lt : ∀ {a b : List Nat}, a.length = b.length → (∀ (i x y : Nat), a[i]? = some x → b[i]? = some y → y ≤ x) → (∃ i x y : Nat, a[i]? = some x ∧ b[i]? = some y ∧ y < x) → b.sum < a.sum
  | [], _, _, _, ⟨i, x, y, h, _⟩ => by simp at h
  | x :: a, [], h, _, _ => by simp at h
  | x :: a, y :: b, h, hle, ⟨i, p, q, h1, h2, h3⟩ => by
    have h0 := hle 0 x y rfl rfl
    have hl : a.length = b.length := by simpa using h
    have hle' : ∀ (i x y : Nat), a[i]? = some x → b[i]? = some y → y ≤ x := fun i x y e1 e2 => hle (i + 1) x y (by simpa using e1) (by simpa using e2)
    rw [List.sum_cons, List.sum_cons]
    cases i with
    | zero =>
      have h1 : some x = some p := h1
      have h2 : some y = some q := h2
      cases h1
      cases h2
      have : b.sum ≤ a.sum := by
        clear h h1 h2 hle h0 h3
        induction a generalizing b with
        | nil => cases b <;> simp at hl ⊢
        | cons u a ih =>
          cases b with
          | nil => simp at hl
          | cons w b =>
            have := hle' 0 u w rfl rfl
            have := ih (b := b) (by simpa using hl) fun i x y e1 e2 => hle' (i + 1) x y (by simpa using e1) (by simpa using e2)
            rw [List.sum_cons, List.sum_cons]
            omega
      omega
    | succ i =>
      have := sum_lt hl hle' ⟨i, p, q, by simpa using h1, by simpa using h2, h3⟩
      omega
theorem mu_lt {g : Gph} {b b' : B} (ok : g.Ok) (j : J g b) (a : Acyc g b.st) (j' : J g b') (a' : Acyc g b'.st) (u : Up g b b') (h : b.ch = false) (h' : b'.ch = true) : muP (g.W * g.n) b'.pr < muP (g.W * g.n) b.pr := by
  have hb := j.bound ok a
  have hb' := j'.bound ok a'
  refine sum_lt (by rw [List.length_map, List.length_map, j.lp, j'.lp]) (fun i x y e1 e2 => ?_) ?_
  · rw [List.getElem?_map] at e1 e2
    cases f1 : b.pr[i]? with
    | none => rw [f1] at e1; cases e1
    | some o =>
      cases f2 : b'.pr[i]? with
      | none => rw [f2] at e2; cases e2
      | some o' =>
        rw [f1] at e1
        rw [f2] at e2
        obtain rfl := Option.some.inj e1
        obtain rfl := Option.some.inj e2
        have g1 : prA b.pr i = o := by unfold prA; rw [List.getD_eq_getElem?_getD, f1]; rfl
        have g2 : prA b'.pr i = o' := by unfold prA; rw [List.getD_eq_getElem?_getD, f2]; rfl
        cases o with
        | none =>
          cases o' with
          | none => exact Nat.le_refl _
          | some x =>
            have := hb' i x g2
            show (_ : Int).toNat ≤ (_ : Int).toNat
            omega
        | some x =>
          obtain ⟨x', e3, e4⟩ := u.le i x g1
          rw [g2] at e3
          cases e3
          show (_ : Int).toNat ≤ (_ : Int).toNat
          omega
  · obtain ⟨v, x', hv, hx', hl⟩ := u.more h h'
    have g1 := pr_get (p := b.pr) (v := v) (by rw [j.lp]; exact hv)
    have g2 := pr_get (p := b'.pr) (v := v) (by rw [j'.lp]; exact hv)
    rw [hx'] at g2
    have := hb' v x' hx'
    refine ⟨v, muO (g.W * g.n) (prA b.pr v), muO (g.W * g.n) (some x'), by rw [List.getElem?_map, g1]; rfl, by rw [List.getElem?_map, g2]; rfl, ?_⟩
    cases e : prA b.pr v with
    | none =>
      show (_ : Int).toNat < (_ : Int).toNat
      omega
    | some x =>
      have := hl x e
      show (_ : Int).toNat < (_ : Int).toNat
      omega
/-! ### the beginning -/
def b0 (n : Nat) : B := ⟨some 0 :: List.replicate (n - 1) none, List.replicate n none, true⟩
theorem rep_at (n v : Nat) : stA (List.replicate n none) v = none := by
  unfold stA
  rw [List.getD_eq_getElem?_getD, List.getElem?_replicate]
  split <;> rfl
theorem b0_at {n v : Nat} {x : Int} (h : prA (b0 n).pr v = some x) : v = 0 ∧ x = 0 := by
  unfold b0 prA at h
  cases v with
  | zero => cases h; exact ⟨rfl, rfl⟩
  | succ v =>
    rw [List.getD_eq_getElem?_getD, List.getElem?_cons_succ, List.getElem?_replicate] at h
    split at h <;> cases h
theorem b0_ok {g : Gph} (ok : g.Ok) : J g (b0 g.n) where
  lp := by have := ok.n1; show (some (0 : Int) :: List.replicate (g.n - 1) none).length = g.n; rw [List.length_cons, List.length_replicate]; omega
  ls := List.length_replicate
  step := fun v u k h => by
    have h : stA (List.replicate g.n none) v = some (u, k) := h
    rw [rep_at] at h
    cases h
  root := fun v x h _ => b0_at h
  low := fun v x h => by
    rw [(b0_at h).2]
    have := ok.W0
    have : 0 ≤ g.W * ((cnt (b0 g.n).pr : Nat) : Int) := Int.mul_nonneg this (by omega)
    omega
  pos := fun v S h => by
    exfalso
    cases h with
    | one h => have h : stA (List.replicate g.n none) v = some _ := h; rw [rep_at] at h; cases h
    | more h _ => have h : stA (List.replicate g.n none) v = some _ := h; rw [rep_at] at h; cases h
  zero := ⟨0, rfl⟩
theorem b0_acyc (g : Gph) : Acyc g (b0 g.n).st := fun v _ => ⟨0, .root (rep_at _ _)⟩
theorem J.ch {g : Gph} {b : B} (j : J g b) (c : Bool) : J g { b with ch := c } := ⟨j.lp, j.ls, j.step, j.root, j.low, j.pos, j.zero⟩
end CB.BF

/-! ## KM7 -/
/-! Rounds among steps, walks of a graph of states, fractions; what a long run told rests on. -/
namespace CB.BF
/-- from b by the steps, over the nodes c, to v -/
inductive Chn (s : St) : Nat → List Nat → Nat → Prop
  | nil {v : Nat} : Chn s v [] v
  | cons {v x k u : Nat} {c : List Nat} : stA s v = some (x, k) → Chn s x c u → Chn s v (v :: c) u
theorem Chn.snoc {s : St} {b v x k : Nat} {c : List Nat} (h : Chn s b c v) (e : stA s v = some (x, k)) : Chn s b (c ++ [v]) x := by
  induction h with
  | nil => exact .cons e .nil
  | cons e1 _ ih => exact .cons e1 (ih e)
theorem Chn.fin {s : St} {b v : Nat} {c : List Nat} (h : Chn s b c v) (f : ∃ l, FinN s l v) : (∀ x, x ∈ c → ∃ l, FinN s l x) ∧ ∃ l, FinN s l b := by
  induction h with
  | nil => exact ⟨(fun x hx => by cases hx), f⟩
  | cons e _ ih =>
    obtain ⟨h1, l, h2⟩ := ih f
    refine ⟨fun x hx => ?_, l + 1, .more e h2⟩
    rcases List.mem_cons.mp hx with q | q
    · rw [q]; exact ⟨l + 1, .more e h2⟩
    · exact h1 x q
theorem Chn.cut {s : St} {b v : Nat} {c : List Nat} (h : Chn s b c v) : ∀ {x : Nat}, x ∈ c → ∃ c1 c2, c = c1 ++ x :: c2 ∧ Chn s x (x :: c2) v := by
  induction h with
  | nil => intro x hx; cases hx
  | @cons v x k u c e t ih =>
    intro y hy
    by_cases q : y = v
    · subst q
      exact ⟨[], c, rfl, .cons e t⟩
    · obtain ⟨c1, c2, h1, h2⟩ := ih (by simpa [q] using hy)
      exact ⟨v :: c1, c2, by rw [h1]; rfl, h2⟩
theorem Chn.head {s : St} {b v : Nat} {c : List Nat} (h : Chn s b c v) : b = v ∧ c = [] ∨ ∃ c', c = b :: c' := by
  cases h with
  | nil => exact Or.inl ⟨rfl, rfl⟩
  | cons _ _ => exact Or.inr ⟨_, rfl⟩
theorem Pth.snoc {s : St} {v u x k : Nat} {ks : List Nat} (h : Pth s v u ks) (e : stA s u = some (x, k)) : Pth s v x (ks ++ [k]) := by
  induction h with
  | one e1 => exact .more e1 (.one e)
  | more e1 _ ih => exact .more e1 (ih e)
/-- along the edges -/
def wlk (nx : Nat → Nat → Nat) : Nat → List Nat → Nat
  | v, [] => v
  | v, k :: ks => wlk nx (nx v k) ks
def wsum (nx : Nat → Nat → Nat) (f : Nat → Nat → Int) : Nat → List Nat → Int
  | _, [] => 0
  | v, k :: ks => f v k + wsum nx f (nx v k) ks
theorem wlk_app (nx : Nat → Nat → Nat) : ∀ (a b : List Nat) (v : Nat), wlk nx v (a ++ b) = wlk nx (wlk nx v a) b
  | [], _, _ => rfl
  | _ :: a, b, _ => wlk_app nx a b _
theorem wsum_app (nx : Nat → Nat → Nat) (f : Nat → Nat → Int) : ∀ (a b : List Nat) (v : Nat), wsum nx f v (a ++ b) = wsum nx f v a + wsum nx f (wlk nx v a) b
  | [], b, v => (Int.zero_add _).symm
  | k :: a, b, v => by
    show f v k + wsum nx f (nx v k) (a ++ b) = f v k + wsum nx f (nx v k) a + _
    rw [wsum_app nx f a b]
    show _ = _ + wsum nx f (wlk nx (nx v k) a) b
    omega
/-- a way down the steps is a walk, backwards -/
theorem pth_walk {g : Gph} {s : St} (hs : ∀ v u k, stA s v = some (u, k) → u < g.n ∧ k ≤ g.m ∧ g.nx u k = v) {v u : Nat} {ks : List Nat} (h : Pth s v u ks) : u < g.n ∧ wlk g.nx u ks.reverse = v ∧ (∀ k, k ∈ ks.reverse → k ≤ g.m) ∧ PthW g s v u (wsum g.nx g.wt u ks.reverse) := by
  induction h with
  | @one v u k e =>
    obtain ⟨h1, h2, h3⟩ := hs _ _ _ e
    refine ⟨h1, h3, ?_, ?_⟩
    · intro k' hk
      obtain rfl : k' = k := by simpa using hk
      exact h2
    · have : wsum g.nx g.wt u [k].reverse = g.wt u k := by show g.wt u k + 0 = _; omega
      rw [this]
      exact .one e
  | @more v x u k ks e t ih =>
    obtain ⟨h1, h2, h3⟩ := hs _ _ _ e
    obtain ⟨i0, i1, i2, i3⟩ := ih
    refine ⟨i0, ?_, fun k' hk => ?_, ?_⟩
    · rw [List.reverse_cons, wlk_app, i1]
      exact h3
    · rw [List.reverse_cons] at hk
      rcases List.mem_append.mp hk with q | q
      · exact i2 k' q
      · rw [List.mem_singleton.mp q]; exact h2
    · rw [List.reverse_cons, wsum_app, i1]
      have : wsum g.nx g.wt x [k] = g.wt x k := by show g.wt x k + 0 = _; omega
      rw [this]
      exact .more e i3
/-! ### fractions -/
def muF (B p q : Int) : Int := p * (B * B) / q
theorem muF_lt {B p q p' q' : Int} (h1 : 1 ≤ q) (h2 : q ≤ B) (h3 : 1 ≤ q') (h4 : q' ≤ B) (h : p * q' < p' * q) : muF B p q < muF B p' q' := by
  unfold muF
  have hB : 0 ≤ B * B := Int.mul_nonneg (by omega) (by omega)
  have e1 : p * (B * B) / q * q ≤ p * (B * B) := Int.ediv_mul_le _ (by omega)
  generalize p * (B * B) / q = a at *
  have e2 : (a + 1) * q' ≤ p' * (B * B) := by
    have f1 : a * q * q' ≤ p * (B * B) * q' := Int.mul_le_mul_of_nonneg_right e1 (by omega)
    have f2 : q * q' ≤ B * B := Int.mul_le_mul h2 h4 (by omega) (by omega)
    have f3 : (p * q' + 1) * (B * B) ≤ p' * q * (B * B) := Int.mul_le_mul_of_nonneg_right (by omega) hB
    have f4 : (a + 1) * q' * q ≤ p' * (B * B) * q := by
      have g1 : (a + 1) * q' * q = a * q * q' + q * q' := by
        rw [Int.mul_right_comm, Int.add_mul, Int.add_mul, Int.one_mul]
      have g2 : p * (B * B) * q' = p * q' * (B * B) := Int.mul_right_comm _ _ _
      have g3 : p' * (B * B) * q = p' * q * (B * B) := Int.mul_right_comm _ _ _
      rw [g1, g3]
      rw [g2] at f1
      rw [Int.add_mul, Int.one_mul] at f3
      omega
    exact Int.le_of_mul_le_mul_right f4 (by omega)
  have : a + 1 ≤ p' * (B * B) / q' := (Int.le_ediv_iff_mul_le (by omega)).mpr e2
  omega
theorem muF_nn {B p q : Int} (h1 : 1 ≤ q) (hp : 0 ≤ p) : 0 ≤ muF B p q := by
  unfold muF
  refine Int.ediv_nonneg (Int.mul_nonneg hp ?_) (by omega)
  rcases Int.le_total 0 B with h | h
  · exact Int.mul_nonneg h h
  · exact Int.mul_nonneg_of_nonpos_of_nonpos h h
theorem muF_le {B p q c : Int} (h1 : 1 ≤ q) (hp : p ≤ c * q) : muF B p q ≤ c * (B * B) := by
  unfold muF
  have hB : 0 ≤ B * B := by
    rcases Int.le_total 0 B with h | h
    · exact Int.mul_nonneg h h
    · exact Int.mul_nonneg_of_nonpos_of_nonpos h h
  have h : p * (B * B) ≤ c * (B * B) * q := by
    rw [Int.mul_right_comm c]
    exact Int.mul_le_mul_of_nonneg_right hp hB
  have : p * (B * B) / q ≤ c * (B * B) * q / q := Int.ediv_le_ediv (by omega) h
  rw [Int.mul_ediv_cancel _ (by omega)] at this
  exact this
/-- in lowest terms -/
theorem lowest {T N : Int} (hT : 0 ≤ T) (hN : 0 < N) : 1 ≤ N / (Int.gcd T N : Int) ∧ 0 ≤ T / (Int.gcd T N : Int) ∧ Int.gcd (T / (Int.gcd T N : Int)) (N / (Int.gcd T N : Int)) = 1 ∧ N / (Int.gcd T N : Int) * T = T / (Int.gcd T N : Int) * N ∧ N / (Int.gcd T N : Int) ≤ N ∧ (0 : Int) < (Int.gcd T N : Int) ∧ (Int.gcd T N : Int) ≤ N := by
  have hg : 0 < Int.gcd T N := Int.gcd_pos_of_ne_zero_right _ (by omega)
  obtain ⟨a, ha⟩ := Int.gcd_dvd_left T N
  obtain ⟨b, hb⟩ := Int.gcd_dvd_right T N
  have hgp : (0 : Int) < (Int.gcd T N : Int) := by omega
  have e1 : T / (Int.gcd T N : Int) = a := by
    conv => lhs; lhs; rw [ha]
    exact Int.mul_ediv_cancel_left _ (by omega)
  have e2 : N / (Int.gcd T N : Int) = b := by
    conv => lhs; lhs; rw [hb]
    exact Int.mul_ediv_cancel_left _ (by omega)
  have hb0 : 0 < b := by
    refine Int.not_le.mp fun q => ?_
    have : (Int.gcd T N : Int) * b ≤ 0 := Int.mul_nonpos_of_nonneg_of_nonpos (by omega) q
    omega
  have hbN : b ≤ N := by
    have h := Int.mul_le_mul_of_nonneg_right (show (1 : Int) ≤ (Int.gcd T N : Int) by omega) (show 0 ≤ b by omega)
    rw [← hb, Int.one_mul] at h
    exact h
  have hgN : (Int.gcd T N : Int) ≤ N := by
    have h := Int.mul_le_mul_of_nonneg_left (show (1 : Int) ≤ b by omega) (show 0 ≤ (Int.gcd T N : Int) by omega)
    rw [← hb, Int.mul_one] at h
    exact h
  refine ⟨by rw [e2]; omega, ?_, Int.gcd_ediv_gcd_ediv_gcd hg, ?_, by rw [e2]; exact hbN, hgp, hgN⟩
  · exact Int.ediv_nonneg hT (by omega)
  · rw [e1, e2]
    generalize (Int.gcd T N : Int) = d at *
    rw [ha, hb, Int.mul_left_comm b d a, Int.mul_left_comm a d b, Int.mul_comm b a]
end CB.BF
namespace CB
open BF
/-- the states within reach, numbered -/
structure Gr where
  nodes : List Stt
  nx : Nat → Nat → Nat
  bef : List (Option (Nat × Nat))
structure Gr.Ok (S : Setg) (m : Nat) (G : Gr) : Prop where
  len : G.nodes.length ≤ 2000
  zero : G.nodes[0]? = some (firstM S)
  nd : G.nodes.Nodup
  oks : ∀ t, t ∈ G.nodes → t.Ok S
  nx : ∀ v k t, G.nodes[v]? = some t → k ≤ m → G.nodes[G.nx v k]? = some (stepM S t (k : Nat)).next
  lb : G.bef.length = G.nodes.length
  b0 : G.bef[0]? = some none
  bef : ∀ v, 0 < v → v < G.nodes.length → ∃ u k, G.bef[v]? = some (some (u, k)) ∧ u < v ∧ k ≤ m ∧ G.nx u k = v
def Gr.node (S : Setg) (G : Gr) (v : Nat) : Stt := G.nodes.getD v (firstM S)
def Gr.told (S : Setg) (place : Nat) (G : Gr) (v k : Nat) : Int := (stepM S (G.node S v) (k : Nat)).get place
def Gr.wt (S : Setg) (place : Nat) (sign p q : Int) (G : Gr) (v k : Nat) : Int := sign * (q * G.told S place v k - p * (k : Nat))
def Gr.W (S : Setg) (m place : Nat) (sign p q : Int) (G : Gr) : Int := ((List.range G.nodes.length).map fun v => ((List.range (m + 1)).map fun k => ((G.wt S place sign p q v k).natAbs : Int)).sum).sum
def Gr.g (S : Setg) (m place : Nat) (sign p q : Int) (G : Gr) : Gph := ⟨G.nodes.length, m, G.nx, G.wt S place sign p q, G.W S m place sign p q⟩
theorem mem_sum {l : List Int} (h : ∀ x, x ∈ l → 0 ≤ x) : ∀ {a : Int}, a ∈ l → a ≤ l.sum := by
  induction l with
  | nil => intro a ha; cases ha
  | cons b l ih =>
    intro a ha
    have h0 := h b List.mem_cons_self
    have h1 : 0 ≤ l.sum := sum_nn fun x hx => h x (List.mem_cons_of_mem _ hx)
    rw [List.sum_cons]
    rcases List.mem_cons.mp ha with e | ha
    · rw [e]; omega
    · have := ih (fun x hx => h x (List.mem_cons_of_mem _ hx)) ha
      omega
section
variable {S : Setg} {m place : Nat} {sign p q : Int} {G : Gr}
theorem Gr.Ok.pos (h : G.Ok S m) : 0 < G.nodes.length := by
  cases e : G.nodes with
  | nil => have := h.zero; rw [e] at this; cases this
  | cons a l => exact Nat.succ_pos _
theorem Gr.Ok.node_get (h : G.Ok S m) {v : Nat} (hv : v < G.nodes.length) : G.nodes[v]? = some (G.node S v) := by
  unfold Gr.node
  rw [List.getD_eq_getElem?_getD, List.getElem?_eq_getElem hv]
  rfl
theorem Gr.Ok.node_of (h : G.Ok S m) {v : Nat} {t : Stt} (e : G.nodes[v]? = some t) : G.node S v = t ∧ v < G.nodes.length := by
  unfold Gr.node
  rw [List.getD_eq_getElem?_getD, e]
  exact ⟨rfl, (List.getElem?_eq_some_iff.mp e).1⟩
theorem Gr.Ok.node_ok (h : G.Ok S m) {v : Nat} (hv : v < G.nodes.length) : (G.node S v).Ok S := h.oks _ (List.mem_of_getElem? (h.node_get hv))
theorem Gr.Ok.node0 (h : G.Ok S m) : G.node S 0 = firstM S := (h.node_of h.zero).1
theorem Gr.Ok.nx_ok (h : G.Ok S m) {v k : Nat} (hv : v < G.nodes.length) (hk : k ≤ m) : G.nx v k < G.nodes.length ∧ G.node S (G.nx v k) = (stepM S (G.node S v) (k : Nat)).next := by
  have := h.node_of (h.nx v k _ (h.node_get hv) hk)
  exact ⟨this.2, this.1⟩
theorem Gr.Ok.inj (h : G.Ok S m) {v u : Nat} (hv : v < G.nodes.length) (hu : u < G.nodes.length) (e : G.node S v = G.node S u) : v = u := by
  have h1 := h.node_get hv
  have h2 := h.node_get hu
  rw [e, ← h2] at h1
  exact (List.getElem?_inj hv h.nd).mp h1
theorem Gr.Ok.g (h : G.Ok S m) : (G.g S m place sign p q).Ok where
  n1 := h.pos
  nx := fun v k hv hk => (h.nx_ok hv hk).1
  w := fun v k hv hk => by
    have nn : ∀ v, ∀ x, x ∈ (List.range (m + 1)).map (fun k => ((G.wt S place sign p q v k).natAbs : Int)) → 0 ≤ x := fun v x hx => by
      obtain ⟨_, _, rfl⟩ := List.mem_map.mp hx
      exact Int.natCast_nonneg _
    have h1 : ((G.wt S place sign p q v k).natAbs : Int) ≤ ((List.range (m + 1)).map fun k => ((G.wt S place sign p q v k).natAbs : Int)).sum := mem_sum (nn v) (List.mem_map.mpr ⟨k, List.mem_range.mpr (Nat.lt_succ_of_le hk), rfl⟩)
    have h2 : ((List.range (m + 1)).map fun k => ((G.wt S place sign p q v k).natAbs : Int)).sum ≤ G.W S m place sign p q := mem_sum (fun x hx => by
      obtain ⟨v, _, rfl⟩ := List.mem_map.mp hx
      exact sum_nn (nn v)) (List.mem_map.mpr ⟨v, List.mem_range.mpr hv, rfl⟩)
    show -(G.W S m place sign p q) ≤ G.wt S place sign p q v k ∧ G.wt S place sign p q v k ≤ G.W S m place sign p q
    omega
  W0 := sum_nn fun x hx => by
    obtain ⟨v, _, rfl⟩ := List.mem_map.mp hx
    exact sum_nn fun x hx => by
      obtain ⟨_, _, rfl⟩ := List.mem_map.mp hx
      exact Int.natCast_nonneg _
def toI (ks : List Nat) : List Int := ks.map fun (k : Nat) => (k : Int)
/-- a walk is a row of beats -/
theorem Gr.Ok.walk (h : G.Ok S m) : ∀ {ks : List Nat} {v : Nat}, v < G.nodes.length → (∀ k, k ∈ ks → k ≤ m) → wlk G.nx v ks < G.nodes.length ∧ G.node S (wlk G.nx v ks) = endM S (G.node S v) (toI ks) ∧ wsum G.nx (G.told S place) v ks = sumM S place (G.node S v) (toI ks) ∧ wsum G.nx (G.wt S place sign p q) v ks = sign * (q * sumM S place (G.node S v) (toI ks) - p * (toI ks).sum)
  | [], v, hv, _ => ⟨hv, rfl, rfl, by show (0 : Int) = sign * (q * 0 - p * 0); simp⟩
  | k :: ks, v, hv, hk => by
    obtain ⟨h1, h2⟩ := h.nx_ok hv (hk k List.mem_cons_self)
    obtain ⟨i1, i2, i3, i4⟩ := h.walk (ks := ks) h1 fun k' h' => hk k' (List.mem_cons_of_mem _ h')
    refine ⟨i1, ?_, ?_, ?_⟩
    · show G.node S (wlk G.nx (G.nx v k) ks) = endM S (stepM S (G.node S v) (k : Nat)).next (toI ks)
      rw [i2, h2]
    · show G.told S place v k + wsum G.nx (G.told S place) (G.nx v k) ks = (stepM S (G.node S v) (k : Nat)).get place + sumM S place (stepM S (G.node S v) (k : Nat)).next (toI ks)
      rw [i3, h2]
      rfl
    · show G.wt S place sign p q v k + wsum G.nx (G.wt S place sign p q) (G.nx v k) ks = sign * (q * ((stepM S (G.node S v) (k : Nat)).get place + sumM S place (stepM S (G.node S v) (k : Nat)).next (toI ks)) - p * ((k : Nat) + (toI ks).sum))
      rw [i4, h2]
      unfold Gr.wt Gr.told
      rw [Int.mul_add q, Int.mul_add p, ← Int.mul_add sign]
      congr 1
      omega
theorem toI_nn (ks : List Nat) : ∀ n, n ∈ toI ks → 0 ≤ n := fun n hn => by
  obtain ⟨k, _, rfl⟩ := List.mem_map.mp hn
  exact Int.natCast_nonneg _
theorem toI_le {ks : List Nat} (h : ∀ k, k ∈ ks → k ≤ m) : ∀ n, n ∈ toI ks → 0 ≤ n ∧ n ≤ (m : Int) := fun n hn => by
  obtain ⟨k, hk, rfl⟩ := List.mem_map.mp hn
  have := h k hk
  omega
theorem toI_sum {ks : List Nat} (h : ∀ k, k ∈ ks → k ≤ m) : (toI ks).sum ≤ (ks.length : Int) * m := by
  induction ks with
  | nil => simp [toI]
  | cons k ks ih =>
    have h1 := ih fun k' h' => h k' (List.mem_cons_of_mem _ h')
    have h2 := h k List.mem_cons_self
    have e : (toI (k :: ks)).sum = (k : Int) + (toI ks).sum := rfl
    rw [e, List.length_cons, show ((ks.length + 1 : Nat) : Int) = (ks.length : Int) + 1 from rfl, Int.add_mul, Int.one_mul]
    omega
/-- the told sums that a round's worth rests on -/
structure Rnd (S : Setg) (m place : Nat) (G : Gr) (at_ : Nat) (ks : List Nat) : Prop where
  lt : at_ < G.nodes.length
  le : ∀ k, k ∈ ks → k ≤ m
  back : wlk G.nx at_ ks = at_
  len : ks.length ≤ G.nodes.length
  pos : 0 < (toI ks).sum
theorem Rnd.told (ok : S.Ok) (h : G.Ok S m) {a : Nat} {ks : List Nat} (lt : a < G.nodes.length) (le : ∀ k, k ∈ ks → k ≤ m) (back : wlk G.nx a ks = a) (hp : place = 0 ∨ place = 1) : 0 ≤ wsum G.nx (G.told S place) a ks ∧ wsum G.nx (G.told S place) a ks ≤ 2 * (toI ks).sum := by
  obtain ⟨_, i2, i3, _⟩ := h.walk (place := place) (sign := 1) (p := 1) (q := 1) lt le
  have tk := h.node_ok lt
  obtain ⟨c1, c2, _, c4, _, c6, _, c8⟩ := run_facts ok tk (toI_nn ks)
  have t1 := ok.t1
  have t2 := ok.t2
  rw [back] at i2
  rw [← i2] at c4 c8
  have s0 := sum_nn (toI_nn ks)
  rw [i3]
  rcases hp with rfl | rfl
  · refine ⟨by omega, ?_⟩
    by_cases e : S.tries = 1
    · have := c2 e; omega
    · have := c4 (by omega); omega
  · exact ⟨c6, by omega⟩
end
end CB

/-! ## KM8 -/
/-! What a long run tells, from the graph. -/
namespace CB
open BF
section
variable {S : Setg} {m place : Nat} {sign p q : Int} {G : Gr}
/-- the fraction of a round, in lowest terms -/
structure Frac (S : Setg) (place : Nat) (G : Gr) (a : Nat) (ks : List Nat) (p q : Int) : Prop where
  p : p = wsum G.nx (G.told S place) a ks / (Int.gcd (wsum G.nx (G.told S place) a ks) (toI ks).sum : Int)
  q : q = (toI ks).sum / (Int.gcd (wsum G.nx (G.told S place) a ks) (toI ks).sum : Int)
theorem Frac.facts {a : Nat} {ks : List Nat} (f : Frac S place G a ks p q) (ok : S.Ok) (h : G.Ok S m) (hp : place = 0 ∨ place = 1) (r : Rnd S m place G a ks) : 1 ≤ q ∧ 0 ≤ p ∧ Int.gcd p q = 1 ∧ q * wsum G.nx (G.told S place) a ks = p * (toI ks).sum ∧ q ≤ (G.nodes.length : Int) * m ∧ p ≤ 2 * q := by
  obtain ⟨t0, t2⟩ := Rnd.told ok h r.lt r.le r.back hp
  obtain ⟨e1, e2, e3, e4, e5, _⟩ := lowest t0 r.pos
  rw [← f.p, ← f.q] at e3 e4
  rw [← f.q] at e1 e5
  rw [← f.p] at e2
  have hs := toI_sum r.le
  have hl : (ks.length : Int) * m ≤ (G.nodes.length : Int) * m := Int.mul_le_mul_of_nonneg_right (by have := r.len; omega) (by omega)
  refine ⟨e1, e2, e3, e4, by omega, ?_⟩
  have hpos := r.pos
  have k : p * (toI ks).sum ≤ (2 * q) * (toI ks).sum := by
    rw [← e4]
    have : q * wsum G.nx (G.told S place) a ks ≤ q * (2 * (toI ks).sum) := Int.mul_le_mul_of_nonneg_left t2 (by omega)
    rw [Int.mul_comm 2 q, Int.mul_assoc]
    exact this
  exact Int.le_of_mul_le_mul_right k hpos
/-- a round among the steps is better -/
theorem next_round {b : B} {a : Nat} {ks : List Nat} (ok : S.Ok) (h : G.Ok S m) (hp : place = 0 ∧ sign = 1 ∨ place = 1 ∧ sign = -1) (p0 : 0 ≤ p) (q0 : 1 ≤ q) (j : J (G.g S m place sign p q) b) (hk : Pth b.st a a ks) (hl : ks.length ≤ G.nodes.length) :
    Rnd S m place G a ks.reverse ∧ 0 < sign * (q * wsum G.nx (G.told S place) a ks.reverse - p * (toI ks.reverse).sum) := by
  obtain ⟨lt, back, le, pw⟩ := pth_walk (g := G.g S m place sign p q) (fun v u k e => ⟨(j.step v u k e).1, (j.step v u k e).2.1, (j.step v u k e).2.2.1⟩) hk
  have lt : a < G.nodes.length := lt
  have back : wlk G.nx a ks.reverse = a := back
  have le : ∀ k, k ∈ ks.reverse → k ≤ m := le
  have pos := j.pos a _ pw
  have pos : 0 < wsum G.nx (G.wt S place sign p q) a ks.reverse := pos
  obtain ⟨_, _, i3, i4⟩ := h.walk (place := place) (sign := sign) (p := p) (q := q) lt le
  rw [i4, ← i3] at pos
  have pl : place = 0 ∨ place = 1 := hp.imp And.left And.left
  obtain ⟨t0, t2⟩ := Rnd.told ok h lt le back pl
  refine ⟨⟨lt, le, back, by rw [List.length_reverse]; exact hl, ?_⟩, pos⟩
  have s0 := sum_nn (toI_nn ks.reverse)
  generalize (toI ks.reverse).sum = N at *
  generalize wsum G.nx (G.told S place) a ks.reverse = T at *
  refine Int.not_le.mp fun hN => ?_
  have hN : N = 0 := by omega
  subst hN
  have : T = 0 := by omega
  subst this
  simp at pos
def muOut (sign : Int) (B p q : Int) : Nat := if sign = 1 then (2 * (B * B) - muF B p q).toNat else (muF B p q).toNat
theorem muOut_lt {a a' : Nat} {ks ks' : List Nat} {p' q' : Int} (ok : S.Ok) (h : G.Ok S m) (hp : place = 0 ∧ sign = 1 ∨ place = 1 ∧ sign = -1) (f : Frac S place G a ks p q) (r : Rnd S m place G a ks) (f' : Frac S place G a' ks' p' q') (r' : Rnd S m place G a' ks')
    (hw : 0 < sign * (q * wsum G.nx (G.told S place) a' ks' - p * (toI ks').sum)) : muOut sign ((G.nodes.length : Int) * m) p' q' < muOut sign ((G.nodes.length : Int) * m) p q := by
  have pl : place = 0 ∨ place = 1 := hp.imp And.left And.left
  obtain ⟨a1, a2, a3, a4, a5, a6⟩ := f.facts ok h pl r
  obtain ⟨b1, b2, b3, b4, b5, b6⟩ := f'.facts ok h pl r'
  have hpos := r'.pos
  generalize (toI ks').sum = N at *
  generalize wsum G.nx (G.told S place) a' ks' = T at *
  generalize (G.nodes.length : Int) * m = Bd at *
  unfold muOut
  have x1 : q * T * q' = q * p' * N := by rw [Int.mul_assoc, Int.mul_comm T q', b4, ← Int.mul_assoc]
  rcases hp with ⟨_, rfl⟩ | ⟨_, rfl⟩
  · rw [if_pos rfl, if_pos rfl]
    have c : p * q' < p' * q := by
      have d : p * N < q * T := by omega
      have d2 : p * N * q' < q * T * q' := Int.mul_lt_mul_of_pos_right d (by omega)
      rw [x1, Int.mul_right_comm p N q'] at d2
      have := Int.lt_of_mul_lt_mul_right d2 (by omega)
      rw [Int.mul_comm p' q]
      exact this
    have l1 := muF_lt a1 a5 b1 b5 c
    have l2 := muF_le (B := Bd) b1 b6
    omega
  · rw [if_neg (by decide), if_neg (by decide)]
    have c : p' * q < p * q' := by
      have d : q * T < p * N := by omega
      have d2 : q * T * q' < p * N * q' := Int.mul_lt_mul_of_pos_right d (by omega)
      rw [x1, Int.mul_right_comm p N q'] at d2
      have := Int.lt_of_mul_lt_mul_right d2 (by omega)
      rw [Int.mul_comm p' q]
      exact this
    have l1 := muF_lt b1 b5 a1 a5 c
    have l2 := muF_nn (B := Bd) b1 b2
    omega
/-- all closed: every node has its price -/
def Closed (G : Gr) (m : Nat) (wt : Nat → Nat → Int) (pr : Pr) : Prop := ∀ v, v < G.nodes.length → ∀ k, k ≤ m → ∀ x, prA pr v = some x → ∃ y, prA pr (G.nx v k) = some y ∧ x + wt v k ≤ y
theorem all_some {wt : Nat → Nat → Int} {pr : Pr} (h : G.Ok S m) (c : Closed G m wt pr) (z : prA pr 0 = some 0) : ∀ v, v < G.nodes.length → ∃ x, prA pr v = some x := by
  intro v
  induction v using Nat.strongRecOn with
  | _ v ih =>
    intro hv
    by_cases e : v = 0
    · subst e; exact ⟨0, z⟩
    · obtain ⟨u, k, _, hu, hk, rfl⟩ := h.bef v (by omega) hv
      obtain ⟨x, hx⟩ := ih u hu (by omega)
      obtain ⟨y, hy, _⟩ := c u (by omega) k hk x hx
      exact ⟨y, hy⟩
def pricesM (S : Setg) (G : Gr) (pr : Pr) : List (Stt × Int) := (List.range G.nodes.length).map fun v => (G.node S v, (prA pr v).getD 0)
theorem mem_prices {pr : Pr} {t : Stt} {x : Int} (hs : ∀ v, v < G.nodes.length → ∃ x, prA pr v = some x) : (t, x) ∈ pricesM S G pr ↔ ∃ v, v < G.nodes.length ∧ G.node S v = t ∧ prA pr v = some x := by
  unfold pricesM
  constructor
  · intro h
    obtain ⟨v, hv, e⟩ := List.mem_map.mp h
    have hv := List.mem_range.mp hv
    obtain ⟨y, hy⟩ := hs v hv
    rw [hy] at e
    cases e
    exact ⟨v, hv, rfl, hy⟩
  · rintro ⟨v, hv, rfl, hx⟩
    exact List.mem_map.mpr ⟨v, List.mem_range.mpr hv, by rw [hx]; rfl⟩
theorem lr_of {b : B} {a : Nat} {ks wy : List Nat} {prices : List (Stt × Int)} (ok : S.Ok) (h : G.Ok S m) (hp : place = 0 ∨ place = 1) (f : Frac S place G a ks p q) (r : Rnd S m place G a ks) (hw : wlk G.nx 0 wy = a) (hwm : ∀ k, k ∈ wy → k ≤ m)
    (j : J (G.g S m place sign p q) b) (ac : Acyc (G.g S m place sign p q) b.st) (cl : Closed G m (G.wt S place sign p q) b.pr) (hpr : prices.Perm (pricesM S G b.pr)) : LR S m place sign p q (toI wy) (toI ks) prices := by
  obtain ⟨a1, a2, a3, a4, a5, a6⟩ := f.facts ok h hp r
  obtain ⟨l, hl⟩ := ac 0 h.pos
  have z := j.zero0 hl h.g
  have hs := all_some h cl z
  have mem : ∀ {t x}, (t, x) ∈ prices ↔ ∃ v, v < G.nodes.length ∧ G.node S v = t ∧ prA b.pr v = some x := fun {t x} => by
    rw [hpr.mem_iff]
    exact mem_prices hs
  obtain ⟨_, w2, _, _⟩ := h.walk (place := place) (sign := sign) (p := p) (q := q) h.pos hwm
  rw [hw, h.node0] at w2
  obtain ⟨_, r2, r3, _⟩ := h.walk (place := place) (sign := sign) (p := p) (q := q) r.lt r.le
  rw [r.back] at r2
  refine ⟨a1, a2, a3, toI_le hwm, toI_le r.le, r.pos, ?_, ?_, ?_, ?_, ?_, ?_, ?_⟩
  · rw [← w2, ← r2]
  · rw [← w2, ← r3]; exact a4
  · have e : (pricesM S G b.pr).map Prod.fst = G.nodes := by
      unfold pricesM
      rw [List.map_map]
      refine List.ext_getElem? fun i => ?_
      rw [List.getElem?_map]
      by_cases hi : i < G.nodes.length
      · rw [List.getElem?_range hi, h.node_get hi]
        rfl
      · rw [List.getElem?_eq_none (by rw [List.length_range]; omega), List.getElem?_eq_none (by omega)]
        rfl
    have := hpr.map Prod.fst
    rw [e] at this
    exact this.nodup_iff.mpr h.nd
  · exact mem.mpr ⟨0, h.pos, h.node0, z⟩
  · intro t x hx n n0 nm
    obtain ⟨v, hv, rfl, hxv⟩ := mem.mp hx
    obtain ⟨y, hy, le⟩ := cl v hv n.toNat (by omega) x hxv
    obtain ⟨e1, e2⟩ := h.nx_ok hv (show n.toNat ≤ m by omega)
    have en : ((n.toNat : Nat) : Int) = n := by omega
    rw [en] at e2
    refine ⟨y, mem.mpr ⟨_, e1, e2, hy⟩, ?_⟩
    unfold Gr.wt Gr.told at le
    rw [en] at le
    exact le
  · rw [hpr.length_eq]
    unfold pricesM
    rw [List.length_map, List.length_range]
    exact h.len
  · intro t x hx
    obtain ⟨v, hv, rfl, _⟩ := mem.mp hx
    exact h.node_ok hv
end
end CB

/-! ## KM9 -/
/-! Few states: never 2000 of them. -/
namespace CB
structure Shp (S : Setg) (M : Int) (t : Stt) : Prop where
  ok : t.Ok S
  lat : t.later.sum ≤ M + S.room
  srt : t.queue.Pairwise fun p q => p.1 ≤ q.1
  shut : t.door = 0 ∨ t.door = S.rest ∨ t.queue = []
theorem firstM_shp {S : Setg} {M : Int} (ok : S.Ok) (hM : 0 ≤ M) : Shp S M (firstM S) where
  ok := firstM_ok ok
  lat := by
    have e : (firstM S).later.sum = 0 := by
      show (List.replicate (S.tries - 1).toNat (0 : Int)).sum = 0
      generalize (S.tries - 1).toNat = k
      induction k with
      | zero => rfl
      | succ k ih => rw [List.replicate_succ, List.sum_cons, ih]; rfl
    have := ok.w1
    have := ok.r1
    omega
  srt := List.Pairwise.nil
  shut := Or.inl rfl
theorem ent_shape {l : List Int} {q0 : List (Int × Int)} {f0 : Int} : ∀ i, ∃ r, (entN l q0 f0 i).1 = q0 ++ r ∧ (r.Pairwise fun p q => p.1 ≤ q.1) ∧ ∀ p, p ∈ r → p.2 = 0 ∧ p.1 < (i : Int)
  | 0 => ⟨[], by rw [List.append_nil]; rfl, List.Pairwise.nil, fun p hp => by cases hp⟩
  | i + 1 => by
    obtain ⟨r, h1, h2, h3⟩ := ent_shape (l := l) (q0 := q0) (f0 := f0) i
    refine ⟨r ++ List.replicate (min (l.getD i 0) (entN l q0 f0 i).2.2).toNat ((i : Int), (0 : Int)), ?_, ?_, ?_⟩
    · show (entN l q0 f0 i).1 ++ _ = _
      rw [h1, List.append_assoc]
    · refine List.pairwise_append.mpr ⟨h2, List.pairwise_replicate.mpr (Or.inr (Int.le_refl _)), fun a ha b hb => ?_⟩
      rw [(List.mem_replicate.mp hb).2]
      have := (h3 a ha).2
      show a.1 ≤ (i : Int)
      omega
    · intro p hp
      rcases List.mem_append.mp hp with z | z
      · have := h3 p z
        exact ⟨this.1, by omega⟩
      · rw [(List.mem_replicate.mp z).2]
        exact ⟨rfl, by show (i : Int) < ((i + 1 : Nat) : Int); omega⟩
/-- when no one is free to enter, the queue stays as it is -/
theorem ent_none {l : List Int} {q0 : List (Int × Int)} (hl : ∀ n, n ∈ l → 0 ≤ n) : ∀ i, (entN l q0 0 i).1 = q0 ∧ (entN l q0 0 i).2.2 = 0
  | 0 => ⟨rfl, rfl⟩
  | i + 1 => by
    obtain ⟨h1, h2⟩ := ent_none (q0 := q0) hl i
    have g := getD_nn hl i
    unfold entN entStep
    refine ⟨?_, ?_⟩
    · show (entN l q0 0 i).1 ++ List.replicate (min (l.getD i 0) (entN l q0 0 i).2.2).toNat ((i : Int), (0 : Int)) = q0
      rw [h1, h2, show (min (l.getD i 0) 0).toNat = 0 by omega]
      exact List.append_nil _
    · show (entN l q0 0 i).2.2 - min (l.getD i 0) (entN l q0 0 i).2.2 = 0
      rw [h2]
      omega
theorem step_shp {S : Setg} {M : Int} {t : Stt} {fr : Int} (ok : S.Ok) (h : Shp S M t) (hf : 0 ≤ fr) (hfm : fr ≤ M) : Shp S M (stepM S t fr).next := by
  have tk := h.ok
  have hcs := counts_nn tk hf
  have hn := step_ok ok tk hf
  have sv := fun q1 => servedM_ok (S := S) (dead := t.dead) (q := q1) ok.w1 tk.d0
  have old : ∀ p, p ∈ t.queue → ¬ p.2 + 1 < S.patience := fun p hp => by
    have := tk.q p hp
    have := ok.p2
    omega
  refine ⟨hn, ?_, ?_, ?_⟩
  · -- later
    by_cases e : S.tries = 1
    · have e2 : (stepM S t fr).next.later = [] := by
        have := hn.ll
        exact List.eq_nil_of_length_eq_zero (by omega)
      rw [e2]
      have := ok.w1
      have := ok.r1
      have := tk.dq
      have := tk.d0
      show (0 : Int) ≤ _
      omega
    · have e : S.tries = 2 := by have := ok.t1; have := ok.t2; omega
      have b := (beat ok tk hf).up e
      have c := (beat ok tk hf).came
      have hR : (stepM S t fr).next.R = (stepM S t fr).next.later.sum + ones (stepM S t fr).next.queue := rfl
      -- came = what comes again + fr; what comes again is at most later
      have hup2 : (stepM S t fr).next.R ≤ fr + ones t.queue := by
        obtain ⟨m, hl⟩ : ∃ m, t.later = [m] := by
          have := tk.ll
          cases e : t.later with
          | nil => rw [e] at this; simp at this; omega
          | cons a l =>
            cases l with
            | nil => exact ⟨a, rfl⟩
            | cons b l => rw [e] at this; simp at this; omega
        obtain ⟨f1, f2⟩ := freeM_nn tk
        have ecl : (comeN S t.later t.tokens t.later.length).1.length = 1 := by rw [comeN_len, hl]; rfl
        obtain ⟨le, ecn⟩ : ∃ le, (comeN S t.later t.tokens t.later.length).1 = [le] := by
          generalize (comeN S t.later t.tokens t.later.length).1 = z at ecl
          cases z with
          | nil => cases ecl
          | cons a z =>
            cases z with
            | nil => exact ⟨a, rfl⟩
            | cons _ _ => cases ecl
        have hle : 0 ≤ le := hcs le (by rw [ecn]; simp)
        have e2 : entN ((comeN S t.later t.tokens t.later.length).1 ++ [fr]) t.queue (freeM S t) ((comeN S t.later t.tokens t.later.length).1 ++ [fr]).length = (t.queue ++ List.replicate (min le (freeM S t)).toNat (0, 0) ++ List.replicate (min fr (freeM S t - min le (freeM S t))).toNat (1, 0), [le - min le (freeM S t), fr - min fr (freeM S t - min le (freeM S t))], freeM S t - min le (freeM S t) - min fr (freeM S t - min le (freeM S t))) := by
          rw [ecn]
          rfl
        have eo : ones (t.queue ++ List.replicate (min le (freeM S t)).toNat (0, 0) ++ List.replicate (min fr (freeM S t - min le (freeM S t))).toNat (1, 0)) = ones t.queue + min fr (freeM S t - min le (freeM S t)) := by
          rw [ones_app, ones_app, ones_rep, ones_rep]
          simp
          omega
        generalize t.queue ++ List.replicate (min le (freeM S t)).toNat (0, 0) ++ List.replicate (min fr (freeM S t - min le (freeM S t))).toNat (1, 0) = q1 at *
        have en : (stepM S t fr).next.queue = stayM S (servedM S t.dead q1).2.2 := by
          unfold stepM
          dsimp only
          rw [e2]
        have enl : (stepM S t fr).next.later = [fr - min fr (freeM S t - min le (freeM S t)) + (((gaveM S (servedM S t.dead q1).2.2).count 1 : Nat) : Int)] := by
          unfold stepM
          dsimp only
          rw [e2]
          rfl
        obtain ⟨s1, s2, s3, s4, s5, x, s6, s7⟩ := sv q1
        obtain ⟨g1, g2⟩ := stay_gave S (servedM S t.dead q1).2.2
        obtain ⟨o1, o2⟩ := ones_cut s6
        rw [hR, en, enl]
        simp only [List.sum_cons, List.sum_nil]
        omega
      have o0 := ones_nn (stepM S t fr).next.queue
      have o1 := ones_le t.queue
      have := tk.dq
      have := tk.d0
      omega
  · -- the order
    obtain ⟨r, r1, r2, r3⟩ := ent_shape (l := (comeN S t.later t.tokens t.later.length).1 ++ [fr]) (q0 := t.queue) (f0 := freeM S t) ((comeN S t.later t.tokens t.later.length).1 ++ [fr]).length
    obtain ⟨_, _, _, _, _, x, s6, _⟩ := sv (entN ((comeN S t.later t.tokens t.later.length).1 ++ [fr]) t.queue (freeM S t) ((comeN S t.later t.tokens t.later.length).1 ++ [fr]).length).1
    have en : (stepM S t fr).next.queue = stayM S (servedM S t.dead (entN ((comeN S t.later t.tokens t.later.length).1 ++ [fr]) t.queue (freeM S t) ((comeN S t.later t.tokens t.later.length).1 ++ [fr]).length).1).2.2 := rfl
    rw [en]
    have sub := sub_of_cut s6
    generalize (servedM S t.dead (entN ((comeN S t.later t.tokens t.later.length).1 ++ [fr]) t.queue (freeM S t) ((comeN S t.later t.tokens t.later.length).1 ++ [fr]).length).1).2.2 = q2 at *
    rw [r1] at sub
    unfold stayM
    refine List.pairwise_map.mpr ?_
    have hs : (q2.filter fun p => decide (p.2 + 1 < S.patience)).Sublist ((t.queue ++ r).filter fun p => decide (p.2 + 1 < S.patience)) := sub.filter _
    have he : (t.queue.filter fun p => decide (p.2 + 1 < S.patience)) = [] := List.filter_eq_nil_iff.mpr fun p hp => by simpa using old p hp
    rw [List.filter_append, he, List.nil_append] at hs
    exact (r2.sublist (hs.trans List.filter_sublist)).imp fun {a b} hab => hab
  · -- the door
    by_cases hd : t.door = 0
    · have ed : (stepM S t fr).next.door = shutM S t.door (failedM (gaveM S (servedM S t.dead (entN ((comeN S t.later t.tokens t.later.length).1 ++ [fr]) t.queue (freeM S t) ((comeN S t.later t.tokens t.later.length).1 ++ [fr]).length).1).2.2) (entN ((comeN S t.later t.tokens t.later.length).1 ++ [fr]) t.queue (freeM S t) ((comeN S t.later t.tokens t.later.length).1 ++ [fr]).length).2.1).sum := rfl
      rw [ed]
      generalize (failedM _ _).sum = fl
      unfold shutM Setg.rest
      rw [hd, if_neg (by decide)]
      cases e : S.fuse with
      | none => exact Or.inl rfl
      | some p =>
        obtain ⟨a, b⟩ := p
        dsimp only
        split
        · exact Or.inl rfl
        · exact Or.inr (Or.inl rfl)
    · refine Or.inr (Or.inr ?_)
      have ef : freeM S t = 0 := if_neg hd
      have e2 := (ent_none (q0 := t.queue) hcs ((comeN S t.later t.tokens t.later.length).1 ++ [fr]).length).1
      have en : (stepM S t fr).next.queue = stayM S (servedM S t.dead (entN ((comeN S t.later t.tokens t.later.length).1 ++ [fr]) t.queue (freeM S t) ((comeN S t.later t.tokens t.later.length).1 ++ [fr]).length).1).2.2 := rfl
      rw [en, ef, e2]
      obtain ⟨_, _, _, _, _, x, s6, _⟩ := sv t.queue
      have sub := sub_of_cut s6
      unfold stayM
      rw [List.filter_eq_nil_iff.mpr fun p hp => by simpa using old p (sub.mem hp)]
      rfl
/-! ### counting -/
theorem pigeon {α : Type} [DecidableEq α] : ∀ {l m : List α}, l.Nodup → (∀ x, x ∈ l → x ∈ m) → l.length ≤ m.length
  | [], m, _, _ => Nat.zero_le _
  | a :: l, m, nd, h => by
    rw [List.nodup_cons] at nd
    have ha := h a List.mem_cons_self
    have h1 := pigeon (l := l) (m := m.erase a) nd.2 fun x hx => by
      have ne : x ≠ a := fun e => nd.1 (e ▸ hx)
      exact (List.mem_erase_of_ne ne).mpr (h x (List.mem_cons_of_mem _ hx))
    rw [List.length_erase_of_mem ha] at h1
    have : 0 < m.length := List.length_pos_of_mem ha
    rw [List.length_cons]
    omega
abbrev Cd := Nat × Nat × Nat × Nat × Nat × Nat
/-- dead, length, ones, later, tokens, door -/
def code (t : Stt) : Cd := (t.dead.toNat, t.queue.length, (ones t.queue).toNat, t.later.sum.toNat, t.tokens.toNat, t.door.toNat)
def cods (two : Bool) : List Cd := (List.range 5).flatMap fun d => (List.range (5 - d)).flatMap fun l => (List.range (l + 1)).flatMap fun o => (List.range 8).flatMap fun v => (List.range 3).flatMap fun k =>
  ((if two = true then (if l = 0 then [0, 1, 2] else [0, 2]) else [0, 1]).map fun D => (d, l, o, v, k, D))
theorem cods_len : ∀ two, (cods two).length ≤ 1999 := by decide +kernel
theorem ones_det : ∀ {a b : List (Int × Int)}, (a.Pairwise fun p q => p.1 ≤ q.1) → (b.Pairwise fun p q => p.1 ≤ q.1) → (∀ p, p ∈ a → (p.1 = 0 ∨ p.1 = 1) ∧ p.2 = 1) → (∀ p, p ∈ b → (p.1 = 0 ∨ p.1 = 1) ∧ p.2 = 1) → a.length = b.length → ones a = ones b → a = b
  | [], [], _, _, _, _, _, _ => rfl
  | [], _ :: _, _, _, _, _, h, _ => by cases h
  | _ :: _, [], _, _, _, _, h, _ => by cases h
  | p :: a, q :: b, h1, h2, h3, h4, h5, h6 => by
    rw [List.pairwise_cons] at h1 h2
    have cons : ∀ (x : Int × Int) (l : List (Int × Int)), ones (x :: l) = (if x.1 = 1 then 1 else 0) + ones l := fun x l => by
      have := ones_app [x] l
      rw [List.singleton_append] at this
      rw [this]
      congr 1
      unfold ones
      by_cases hx : x.1 = 1
      · simp [hx]
      · simp [hx]
    have full : ∀ {l : List (Int × Int)}, (∀ p, p ∈ l → p.1 = 1) → ones l = l.length := fun h => ones_inv h
    have hp := h3 p List.mem_cons_self
    have hq := h4 q List.mem_cons_self
    have hl : a.length = b.length := by simpa using h5
    rw [cons, cons] at h6
    have ea : p.1 = q.1 := by
      rcases hp.1 with e1 | e1 <;> rcases hq.1 with e2 | e2
      · rw [e1, e2]
      · exfalso
        have hb : ones b = b.length := full fun x hx => by
          have := h2.1 x hx
          have := (h4 x (List.mem_cons_of_mem _ hx)).1
          omega
        have := ones_le a
        rw [e1, e2, if_neg (by decide), if_pos rfl, hb] at h6
        omega
      · exfalso
        have hb : ones a = a.length := full fun x hx => by
          have := h1.1 x hx
          have := (h3 x (List.mem_cons_of_mem _ hx)).1
          omega
        have := ones_le b
        rw [e1, e2, if_pos rfl, if_neg (by decide), hb] at h6
        omega
      · rw [e1, e2]
    rw [ea] at h6
    have e2 := ones_det h1.2 h2.2 (fun x hx => h3 x (List.mem_cons_of_mem _ hx)) (fun x hx => h4 x (List.mem_cons_of_mem _ hx)) hl (by omega)
    rw [e2, show p = q from Prod.ext ea (by rw [hp.2, hq.2])]
theorem code_mem {S : Setg} {M : Int} {t : Stt} (ok : S.Ok) (h : Shp S M t) (hM : M ≤ 3) : code t ∈ cods (decide (S.rest = 2)) := by
  have tk := h.ok
  have a1 := tk.d0
  have a2 := tk.dq
  have a3 := ok.w2
  have a4 := ok.r2
  have a5 := ones_nn t.queue
  have a6 := ones_le t.queue
  have a7 := sum_nn tk.l0
  have a8 := h.lat
  have a9 := tk.k0
  have b1 := tk.k1
  have b2 : S.tok ≤ 2 := by
    unfold Setg.tok
    cases e : S.tokens with
    | none => decide
    | some k => exact (ok.k k e).2
  have b3 := tk.o0
  have b4 := tk.o1
  have b5 : 0 ≤ S.rest ∧ S.rest ≤ 2 := by
    unfold Setg.rest
    cases e : S.fuse with
    | none => exact ⟨by decide, by decide⟩
    | some p =>
      obtain ⟨a, b⟩ := p
      have := ok.f a b e
      show 0 ≤ b ∧ b ≤ 2
      omega
  unfold code cods
  refine List.mem_flatMap.mpr ⟨_, List.mem_range.mpr (show t.dead.toNat < 5 by omega), List.mem_flatMap.mpr ⟨_, List.mem_range.mpr (show t.queue.length < 5 - t.dead.toNat by omega), List.mem_flatMap.mpr ⟨_, List.mem_range.mpr (show (ones t.queue).toNat < t.queue.length + 1 by omega), List.mem_flatMap.mpr ⟨_, List.mem_range.mpr (show t.later.sum.toNat < 8 by omega), List.mem_flatMap.mpr ⟨_, List.mem_range.mpr (show t.tokens.toNat < 3 by omega), List.mem_map.mpr ⟨t.door.toNat, ?_, rfl⟩⟩⟩⟩⟩⟩
  by_cases e : S.rest = 2
  · rw [if_pos (decide_eq_true e)]
    by_cases l0 : t.queue.length = 0
    · rw [if_pos l0]
      have : t.door.toNat = 0 ∨ t.door.toNat = 1 ∨ t.door.toNat = 2 := by omega
      rcases this with z | z | z <;> rw [z] <;> simp
    · rw [if_neg l0]
      have : t.door = 0 ∨ t.door = 2 := by
        rcases h.shut with z | z | z
        · exact Or.inl z
        · exact Or.inr (z.trans e)
        · rw [z] at l0; exact absurd rfl l0
      rcases this with z | z <;> rw [z] <;> simp
  · rw [if_neg (by simpa using e)]
    have : t.door.toNat = 0 ∨ t.door.toNat = 1 := by omega
    rcases this with z | z <;> rw [z] <;> simp
theorem code_inj {S : Setg} {M : Int} {t u : Stt} (ok : S.Ok) (h : Shp S M t) (g : Shp S M u) (e : code t = code u) : t = u := by
  unfold code at e
  simp only [Prod.mk.injEq] at e
  obtain ⟨e1, e2, e3, e4, e5, e6⟩ := e
  have hk := h.ok
  have gk := g.ok
  have h1 := hk.d0
  have h2 := gk.d0
  have h3 := ones_nn t.queue
  have h4 := ones_nn u.queue
  have h5 := sum_nn hk.l0
  have h6 := sum_nn gk.l0
  have h7 := hk.k0
  have h8 := gk.k0
  have h9 := hk.o0
  have i1 := gk.o0
  have ent : ∀ {x : Stt}, x.Ok S → ∀ p, p ∈ x.queue → (p.1 = 0 ∨ p.1 = 1) ∧ p.2 = 1 := fun {x} xk p hp => by
    have := xk.q p hp
    have := ok.t2
    have := ok.p2
    omega
  have eq := ones_det h.srt g.srt (ent hk) (ent gk) e2 (by omega)
  have el : t.later = u.later := by
    have l1 := hk.ll
    have l2 := gk.ll
    have := ok.t2
    cases e7 : t.later with
    | nil =>
      rw [e7] at l1
      have : u.later.length = 0 := by simp at l1; omega
      exact (List.eq_nil_of_length_eq_zero this).symm
    | cons a l =>
      rw [e7] at l1
      have hl0 : l = [] := List.eq_nil_of_length_eq_zero (by rw [List.length_cons] at l1; omega)
      subst hl0
      cases e8 : u.later with
      | nil => rw [e8] at l2; simp at l1 l2; omega
      | cons b m =>
        rw [e8] at l2
        have hm0 : m = [] := List.eq_nil_of_length_eq_zero (by rw [List.length_cons] at l2; omega)
        subst hm0
        rw [e7] at e4 h5
        rw [e8] at e4 h6
        simp only [List.sum_cons, List.sum_nil] at e4 h5 h6
        rw [show a = b by omega]
  obtain ⟨t1, t2, t3, t4, t5⟩ := t
  obtain ⟨u1, u2, u3, u4, u5⟩ := u
  dsimp only at *
  rw [eq, el, show t1 = u1 by omega, show t4 = u4 by omega, show t5 = u5 by omega]
theorem few {S : Setg} {M : Int} {l : List Stt} (ok : S.Ok) (hM : M ≤ 3) (nd : l.Nodup) (h : ∀ t, t ∈ l → Shp S M t) : l.length ≤ 1999 := by
  have nd2 : (l.map code).Nodup := by
    refine List.pairwise_map.mpr ((List.Pairwise.and_mem.mp nd).imp fun {a b} hab => ?_)
    exact fun e => hab.2.2 (code_inj ok (h a hab.1) (h b hab.2.1) e)
  have := pigeon nd2 fun x hx => by
    obtain ⟨t, ht, rfl⟩ := List.mem_map.mp hx
    exact code_mem ok (h t ht) hM
  rw [List.length_map] at this
  exact Nat.le_trans this (cods_len _)
end CB

/-! ## KM10 -/
/-! The states within reach, found in breadth. -/
namespace CB
structure Bfs (S : Setg) (m : Nat) (nd : List Stt) (bf : List (Option (Nat × Nat))) : Prop where
  zero : nd[0]? = some (firstM S)
  nodup : nd.Nodup
  shp : ∀ t, t ∈ nd → Shp S m t
  lb : bf.length = nd.length
  b0 : bf[0]? = some none
  bef : ∀ v, 0 < v → v < nd.length → ∃ u k, bf[v]? = some (some (u, k)) ∧ u < v ∧ k ≤ m ∧ nd[v]? = some (stepM S (nd.getD u (firstM S)) (k : Nat)).next
def nxt (S : Setg) (nd : List Stt) (v k : Nat) : Stt := (stepM S (nd.getD v (firstM S)) (k : Nat)).next
def nxM (S : Setg) (nd : List Stt) (v k : Nat) : Nat := nd.idxOf (nxt S nd v k)
theorem getD_app {nd : List Stt} {v : Nat} {d : Stt} (h : v < nd.length) (more : List Stt) : (nd ++ more).getD v d = nd.getD v d := by
  rw [List.getD_eq_getElem?_getD, List.getD_eq_getElem?_getD, List.getElem?_append_left h]
theorem nxt_app {S : Setg} {nd : List Stt} {v k : Nat} (h : v < nd.length) (more : List Stt) : nxt S (nd ++ more) v k = nxt S nd v k := by
  unfold nxt
  rw [getD_app h]
theorem nxM_app {S : Setg} {nd : List Stt} {v k : Nat} (h : v < nd.length) (hm : nxt S nd v k ∈ nd) (more : List Stt) : nxM S (nd ++ more) v k = nxM S nd v k := by
  unfold nxM
  rw [nxt_app h, List.idxOf_append, if_pos hm]
theorem Bfs.start {S : Setg} {m : Nat} (ok : S.Ok) : Bfs S m [firstM S] [none] where
  zero := rfl
  nodup := by simp
  shp := fun t ht => by
    rw [List.mem_singleton.mp ht]
    exact firstM_shp ok (by omega)
  lb := rfl
  b0 := rfl
  bef := fun v h1 h2 => by
    have : v < 1 := h2
    omega
theorem Bfs.pos {S : Setg} {m : Nat} {nd : List Stt} {bf : List (Option (Nat × Nat))} (h : Bfs S m nd bf) : 0 < nd.length := by
  cases e : nd with
  | nil => have := h.zero; rw [e] at this; cases this
  | cons a l => exact Nat.succ_pos _
theorem Bfs.get {S : Setg} {m : Nat} {nd : List Stt} {bf : List (Option (Nat × Nat))} (h : Bfs S m nd bf) {v : Nat} (hv : v < nd.length) : nd[v]? = some (nd.getD v (firstM S)) := by
  rw [List.getD_eq_getElem?_getD, List.getElem?_eq_getElem hv]
  rfl
theorem Bfs.next {S : Setg} {m : Nat} {nd : List Stt} {bf : List (Option (Nat × Nat))} (h : Bfs S m nd bf) (ok : S.Ok) {v k : Nat} (hv : v < nd.length) (hk : k ≤ m) : Shp S m (nxt S nd v k) :=
  step_shp ok (h.shp _ (List.mem_of_getElem? (h.get hv))) (by omega) (by omega)
theorem Bfs.push {S : Setg} {m : Nat} {nd : List Stt} {bf : List (Option (Nat × Nat))} (h : Bfs S m nd bf) (ok : S.Ok) {u k : Nat} (hu : u < nd.length) (hk : k ≤ m) (hn : nxt S nd u k ∉ nd) : Bfs S m (nd ++ [nxt S nd u k]) (bf ++ [some (u, k)]) where
  zero := by rw [List.getElem?_append_left h.pos]; exact h.zero
  nodup := List.nodup_append.mpr ⟨h.nodup, by simp, fun a ha b hb e => by
    rw [List.mem_singleton.mp hb] at e
    exact hn (e ▸ ha)⟩
  shp := fun t ht => by
    rcases List.mem_append.mp ht with z | z
    · exact h.shp t z
    · rw [List.mem_singleton.mp z]
      exact h.next ok hu hk
  lb := by
    rw [List.length_append, List.length_append, h.lb]
    rfl
  b0 := by
    have := h.pos
    rw [List.getElem?_append_left (by rw [h.lb]; exact this)]
    exact h.b0
  bef := fun v h1 h2 => by
    rw [List.length_append] at h2
    have e1 : [nxt S nd u k].length = 1 := rfl
    by_cases hv : v < nd.length
    · obtain ⟨u', k', a1, a2, a3, a4⟩ := h.bef v h1 hv
      refine ⟨u', k', by rw [List.getElem?_append_left (by rw [h.lb]; exact hv)]; exact a1, a2, a3, ?_⟩
      rw [List.getElem?_append_left hv, getD_app (by omega)]
      exact a4
    · have ev : v = nd.length := by omega
      subst ev
      refine ⟨u, k, by rw [← h.lb, List.getElem?_append_right (Nat.le_refl _), Nat.sub_self]; rfl, hu, hk, ?_⟩
      rw [List.getElem?_append_right (Nat.le_refl _), Nat.sub_self, getD_app hu]
      rfl
theorem Bfs.few {S : Setg} {m : Nat} {nd : List Stt} {bf : List (Option (Nat × Nat))} (h : Bfs S m nd bf) (ok : S.Ok) (hm : m ≤ 3) : nd.length ≤ 1999 := CB.few (M := m) ok (by omega) h.nodup h.shp
theorem idx_get {α : Type} [DecidableEq α] {l : List α} {a : α} (h : a ∈ l) : l[l.idxOf a]? = some a := by
  have hl := List.idxOf_lt_length_of_mem h
  rw [List.getElem?_eq_getElem hl, List.getElem_idxOf]
theorem idx_of {α : Type} [DecidableEq α] {l : List α} {a : α} {i : Nat} (nd : l.Nodup) (h : l[i]? = some a) : l.idxOf a = i := by
  have hm := List.mem_of_getElem? h
  have h1 := idx_get hm
  have hi := (List.getElem?_eq_some_iff.mp h).1
  rw [← h] at h1
  exact ((List.getElem?_inj hi nd).mp h1.symm).symm
/-- all rows made: the graph -/
def graphM (S : Setg) (nd : List Stt) (bf : List (Option (Nat × Nat))) : Gr := ⟨nd, nxM S nd, bf⟩
theorem Bfs.done {S : Setg} {m : Nat} {nd : List Stt} {bf : List (Option (Nat × Nat))} (h : Bfs S m nd bf) (ok : S.Ok) (hm : m ≤ 3) (cl : ∀ v k, v < nd.length → k ≤ m → nxt S nd v k ∈ nd) : (graphM S nd bf).Ok S m where
  len := by have := h.few ok hm; show nd.length ≤ 2000; omega
  zero := h.zero
  nd := h.nodup
  oks := fun t ht => (h.shp t ht).ok
  nx := fun v k t e hk => by
    have hv := (List.getElem?_eq_some_iff.mp e).1
    have et : nd.getD v (firstM S) = t := by
      rw [List.getD_eq_getElem?_getD, show nd[v]? = some t from e]
      rfl
    have := idx_get (cl v k hv hk)
    unfold nxt at this
    rw [et] at this
    show nd[nxM S nd v k]? = _
    unfold nxM nxt
    rw [et]
    exact this
  lb := h.lb
  b0 := h.b0
  bef := fun v h1 h2 => by
    obtain ⟨u, k, a1, a2, a3, a4⟩ := h.bef v h1 h2
    exact ⟨u, k, a1, a2, a3, idx_of h.nodup a4⟩
end CB

/-! ## KL1 -/
set_option Elab.async false
set_option linter.all false
set_option maxRecDepth 100000
set_option maxHeartbeats 2000000
/-! Data that never change (ints, bools, texts, None, tuples of these), environments of slots, and what a reading makes of them. -/
namespace CB
open PySem L2

abbrev Fg := PySem.W.Frag

/-! ### unchanging data -/
def pairK (z : PyData × PyData) : PyData := .tuple [z.1, z.2]
-- .dict zs stands for a tuple of pairs whose object is known to have no dict of its own
mutual
inductive Im (K : Fg) (H : Hp) : V → PyData → Prop
  | non : Im K H .non .none
  | bl (b : Bool) : Im K H (.bl b) (.bool b)
  | int (i : Int) : Im K H (.int i) (.int i)
  | str (x : Str) : Im K H (.str x) (.str x)
  | tup {a : Addr} {xs : List V} {ds : List PyData} : SqT K H a xs → ImAll K H xs ds → Im K H (.ref a) (.tuple ds)
  | ptp {a : Addr} {xs : List V} {ob : Obj} {zs : List (PyData × PyData)} : H a = some (.frz ob (.tup xs)) → ob.dict = none → ImAll K H xs (zs.map pairK) → Im K H (.ref a) (.dict zs)
inductive ImAll (K : Fg) (H : Hp) : List V → List PyData → Prop
  | nil : ImAll K H [] []
  | cons {v : V} {vs : List V} {d : PyData} {ds : List PyData} : Im K H v d → ImAll K H vs ds → ImAll K H (v :: vs) (d :: ds)
end

/-- tuples stay -/
def Tk (H H' : Hp) : Prop := ∀ a xs, Rd H a (.tup xs) → H' a = H a
theorem Tk.refl (H : Hp) : Tk H H := fun _ _ _ => rfl
theorem Tk.rd {A B : Hp} (x : Tk A B) {a : Addr} {xs : List V} (h : Rd A a (.tup xs)) : Rd B a (.tup xs) := by
  have e := x a xs h
  rcases h with h | ⟨o, h⟩
  · exact Or.inl (e.trans h)
  · exact Or.inr ⟨o, e.trans h⟩
theorem Tk.trans {A B C : Hp} (x : Tk A B) (y : Tk B C) : Tk A C := fun a xs h => (y a xs (x.rd h)).trans (x a xs h)
theorem tk_of {A B : Hp} (e : Same A B) : Tk A B := fun a xs h => by
  rcases h with h | ⟨o, h⟩
  · exact (e a _ h).trans h.symm
  · exact (e a _ h).trans h.symm
/-- a write to something that is no tuple -/
theorem tk_upd {A : Hp} {l : Addr} {o u : HO} (h : A l = some o) (h1 : ∀ xs, o ≠ .tup xs) (h2 : ∀ ob xs, o ≠ .frz ob (.tup xs)) : Tk A (upd A l u) := fun a xs r => by
  have ne : a ≠ l := fun e => by
    subst e
    rcases r with r | ⟨ob, r⟩
    · rw [h] at r; exact h1 xs (Option.some.inj r)
    · rw [h] at r; exact h2 ob xs (Option.some.inj r)
  exact upd_ne ne
theorem tk_lst {A : Hp} {l : Addr} {xs : List V} {u : HO} (h : A l = some (.lst xs)) : Tk A (upd A l u) := tk_upd h (fun _ e => by cases e) (fun _ _ e => by cases e)
theorem sqT_tk {K : Fg} {A B : Hp} {a : Addr} {xs : List V} (t : Tk A B) (h : SqT K A a xs) : SqT K B a xs := by
  rcases h with h | h
  · exact Or.inl (t.rd h)
  · exact Or.inr h
theorem sqL_same {K : Fg} {A B : Hp} {a : Addr} {xs : List V} (t : Same A B) (h : SqL K A a xs) : SqL K B a xs := t.seq h
mutual
theorem Im.mono {K : Fg} {A B : Hp} (t : Tk A B) : ∀ {v : V} {d : PyData}, Im K A v d → Im K B v d
  | _, _, .non => .non
  | _, _, .bl b => .bl b
  | _, _, .int i => .int i
  | _, _, .str x => .str x
  | _, _, .tup h hs => .tup (sqT_tk t h) (ImAll.mono t hs)
  | _, _, .ptp h hd hs => .ptp ((t _ _ (Or.inr ⟨_, h⟩)).trans h) hd (ImAll.mono t hs)
theorem ImAll.mono {K : Fg} {A B : Hp} (t : Tk A B) : ∀ {vs : List V} {ds : List PyData}, ImAll K A vs ds → ImAll K B vs ds
  | _, _, .nil => .nil
  | _, _, .cons h hs => .cons (Im.mono t h) (ImAll.mono t hs)
end
mutual
theorem Im.dp {K : Fg} {A : Hp} : ∀ {v : V} {d : PyData}, d.canLay0 = true → Im K A v d → Dp K A v d
  | _, _, _, .non => .non
  | _, _, _, .bl b => .bl b
  | _, _, _, .int i => .int i
  | _, _, _, .str x => .str x
  | _, _, c, .tup h hs => .tup h (ImAll.dp (by simpa only [PyData.canLay0] using c) hs)
  | _, _, c, .ptp _ _ _ => absurd c (by simp [PyData.canLay0])
theorem ImAll.dp {K : Fg} {A : Hp} : ∀ {vs : List V} {ds : List PyData}, PyData.canLayAll0 ds = true → ImAll K A vs ds → DpAll K A vs ds
  | _, _, _, .nil => .nil
  | _, _, c, .cons h hs => by
    simp only [PyData.canLayAll0, Bool.and_eq_true] at c
    exact .cons (Im.dp c.1 h) (ImAll.dp c.2 hs)
end
theorem shaped_lay {d : PyData} (h : SeqAt.shaped d = true) : d.canLay0 = true := by
  unfold SeqAt.shaped at h
  simp only [Bool.and_eq_true] at h
  exact h.1
theorem shaped_lays {ds : List PyData} (h : SeqAt.shaped (.list ds) = true) : PyData.canLayAll0 ds = true := by
  have := shaped_lay h
  simpa only [PyData.canLay0] using this
section
variable {K : Fg} {H : Hp} {v : V} {vs : List V} {d : PyData} {ds : List PyData}
theorem im_int {i : Int} (h : Im K H v (.int i)) : v = .int i := by cases h; rfl
theorem im_bl {b : Bool} (h : Im K H v (.bool b)) : v = .bl b := by cases h; rfl
theorem im_str {x : Str} (h : Im K H v (.str x)) : v = .str x := by cases h; rfl
theorem im_non (h : Im K H v .none) : v = .non := by cases h; rfl
theorem im_tup (h : Im K H v (.tuple ds)) : ∃ a xs, v = .ref a ∧ SqT K H a xs ∧ ImAll K H xs ds := by
  cases h with
  | tup h hs => exact ⟨_, _, rfl, h, hs⟩
theorem imAll_len : ∀ {vs : List V} {ds : List PyData}, ImAll K H vs ds → vs.length = ds.length
  | _, _, .nil => rfl
  | _, _, .cons _ t => congrArg Nat.succ (imAll_len t)
theorem imAll_get : ∀ {vs : List V} {ds : List PyData} {i : Nat} {d : PyData}, ImAll K H vs ds → ds[i]? = some d → ∃ v, vs[i]? = some v ∧ Im K H v d
  | _, _, _, _, .nil, e => by simp at e
  | _, _, 0, _, .cons r _, e => by simp at e; subst e; exact ⟨_, rfl, r⟩
  | _, _, i + 1, _, .cons _ t, e => by
    obtain ⟨u, h1, h2⟩ := imAll_get (i := i) t (by simpa using e)
    exact ⟨u, by simpa using h1, h2⟩
theorem imAll_get' : ∀ {vs : List V} {ds : List PyData} {i : Nat} {v : V}, ImAll K H vs ds → vs[i]? = some v → ∃ d, ds[i]? = some d ∧ Im K H v d
  | _, _, _, _, .nil, e => by simp at e
  | _, _, 0, _, .cons r _, e => by simp at e; subst e; exact ⟨_, rfl, r⟩
  | _, _, i + 1, _, .cons _ t, e => by
    obtain ⟨u, h1, h2⟩ := imAll_get' (i := i) t (by simpa using e)
    exact ⟨u, by simpa using h1, h2⟩
theorem imAll_app : ∀ {vs ws : List V} {ds es : List PyData}, ImAll K H vs ds → ImAll K H ws es → ImAll K H (vs ++ ws) (ds ++ es)
  | _, _, _, _, .nil, t => t
  | _, _, _, _, .cons r s, t => .cons r (imAll_app s t)
theorem imAll_take : ∀ {vs : List V} {ds : List PyData} (n : Nat), ImAll K H vs ds → ImAll K H (vs.take n) (ds.take n)
  | _, _, 0, _ => .nil
  | _, _, _ + 1, .nil => .nil
  | _, _, n + 1, .cons r t => .cons r (imAll_take n t)
theorem imAll_drop : ∀ {vs : List V} {ds : List PyData} (n : Nat), ImAll K H vs ds → ImAll K H (vs.drop n) (ds.drop n)
  | _, _, 0, r => r
  | _, _, _ + 1, .nil => .nil
  | _, _, n + 1, .cons _ t => imAll_drop n t
theorem imAll_ints : ∀ {ns : List Int} {vs : List V}, ImAll K H vs (ns.map .int) → vs = ns.map V.int
  | [], _, h => by cases h; rfl
  | n :: ns, _, h => by
    have h : ImAll K H _ (PyData.int n :: ns.map .int) := h
    cases h with
    | cons a t =>
      rw [im_int a, imAll_ints t]
      rfl
theorem ints_imAll : ∀ ns : List Int, ImAll K H (ns.map V.int) (ns.map .int)
  | [] => .nil
  | n :: ns => .cons (.int n) (ints_imAll ns)
theorem imAll_bls : ∀ {bs : List Bool} {vs : List V}, ImAll K H vs (bs.map .bool) → vs = bs.map V.bl
  | [], _, h => by cases h; rfl
  | n :: ns, _, h => by
    have h : ImAll K H _ (PyData.bool n :: ns.map .bool) := h
    cases h with
    | cons a t =>
      rw [im_bl a, imAll_bls t]
      rfl
theorem imAll_rep (h : ImAll K H vs ds) : ∀ n : Nat, ImAll K H (List.replicate n vs).flatten (List.replicate n ds).flatten
  | 0 => .nil
  | n + 1 => by
    rw [List.replicate_succ, List.replicate_succ, List.flatten_cons, List.flatten_cons]
    exact imAll_app h (imAll_rep h n)
end

/-! ### slots -/
inductive En where
  | im (d : PyData)
  | rf (a : Addr)
def EnOk (K : Fg) (H : Hp) : En → V → Prop
  | .im d, v => Im K H v d
  | .rf a, v => v = .ref a
theorem EnOk.mono {K : Fg} {A B : Hp} (t : Tk A B) : ∀ {e : En} {v : V}, EnOk K A e v → EnOk K B e v
  | .im _, _, h => Im.mono t h
  | .rf _, _, h => h
inductive EnAll (K : Fg) (H : Hp) : List En → List V → Prop
  | nil : EnAll K H [] []
  | cons {e : En} {es : List En} {v : V} {vs : List V} : EnOk K H e v → EnAll K H es vs → EnAll K H (e :: es) (v :: vs)
theorem EnAll.mono {K : Fg} {A B : Hp} (t : Tk A B) : ∀ {es : List En} {vs : List V}, EnAll K A es vs → EnAll K B es vs
  | _, _, .nil => .nil
  | _, _, .cons h hs => .cons (h.mono t) (EnAll.mono t hs)
theorem enAll_im {K : Fg} {H : Hp} : ∀ {ds : List PyData} {vs : List V}, EnAll K H (ds.map .im) vs → ImAll K H vs ds
  | [], _, h => by cases h; exact .nil
  | d :: ds, _, h => by
    have h : EnAll K H (En.im d :: ds.map .im) _ := h
    cases h with
    | cons a t => exact .cons a (enAll_im t)
abbrev Dn := List (Option En)
inductive EnvD (K : Fg) (H : Hp) : L2.St → Dn → Prop
  | nil : EnvD K H [] []
  | skip {o : Option V} {s : L2.St} {c : Dn} : EnvD K H s c → EnvD K H (o :: s) (none :: c)
  | cons {v : V} {e : En} {s : L2.St} {c : Dn} : EnOk K H e v → EnvD K H s c → EnvD K H (some v :: s) (some e :: c)
section
variable {K : Fg} {H A B : Hp}
theorem EnvD.mono (t : Tk A B) : ∀ {s : L2.St} {c : Dn}, EnvD K A s c → EnvD K B s c
  | _, _, .nil => .nil
  | _, _, .skip r => .skip (EnvD.mono t r)
  | _, _, .cons h r => .cons (h.mono t) (EnvD.mono t r)
theorem EnvD.get : ∀ {s : L2.St} {c : Dn} {i : Nat} {e : En}, EnvD K H s c → c[i]? = some (some e) → ∃ v, s[i]? = some (some v) ∧ EnOk K H e v
  | _, _, _, _, .nil, h => by simp at h
  | _, _, 0, _, .skip _, h => by simp at h
  | _, _, 0, _, .cons r _, h => by simp at h; subst h; exact ⟨_, rfl, r⟩
  | _, _, i + 1, _, .skip t, h => by
    obtain ⟨v, a, b⟩ := EnvD.get (i := i) t (by simpa using h)
    exact ⟨v, by simpa using a, b⟩
  | _, _, i + 1, _, .cons _ t, h => by
    obtain ⟨v, a, b⟩ := EnvD.get (i := i) t (by simpa using h)
    exact ⟨v, by simpa using a, b⟩
theorem EnvD.set {e : En} {v : V} (r : EnOk K H e v) : ∀ {s : L2.St} {c : Dn} (i : Nat), EnvD K H s c → EnvD K H (s.set i (some v)) (c.set i (some e))
  | _, _, _, .nil => .nil
  | _, _, 0, .skip t => .cons r t
  | _, _, 0, .cons _ t => .cons r t
  | _, _, i + 1, .skip t => .skip (EnvD.set r i t)
  | _, _, i + 1, .cons a t => .cons a (EnvD.set r i t)
theorem EnvD.drop : ∀ {s : L2.St} {c : Dn} (i : Nat), EnvD K H s c → EnvD K H s (c.set i none)
  | _, _, _, .nil => .nil
  | _, _, 0, .skip t => .skip t
  | _, _, 0, .cons _ t => .skip t
  | _, _, i + 1, .skip t => .skip (EnvD.drop i t)
  | _, _, i + 1, .cons a t => .cons a (EnvD.drop i t)
theorem EnvD.wipe1 : ∀ {s : L2.St} {c : Dn} (i : Nat), EnvD K H s c → EnvD K H (s.set i none) (c.set i none)
  | _, _, _, .nil => .nil
  | _, _, 0, .skip t => .skip t
  | _, _, 0, .cons _ t => .skip t
  | _, _, i + 1, .skip t => .skip (EnvD.wipe1 i t)
  | _, _, i + 1, .cons a t => .cons a (EnvD.wipe1 i t)
def wipeD (c : Dn) : List Nat → Dn
  | [] => c
  | v :: vs => (wipeD c vs).set v none
theorem EnvD.wipe {s : L2.St} {c : Dn} (h : EnvD K H s c) : ∀ vs : List Nat, EnvD K H (L2.wipe s vs) (wipeD c vs)
  | [] => h
  | v :: vs => (EnvD.wipe h vs).wipe1 v
theorem env_none : ∀ n : Nat, EnvD K H (List.replicate n none) (List.replicate n none)
  | 0 => .nil
  | n + 1 => .skip (env_none n)
theorem env_args : ∀ {es : List En} {vs : List V} {s : L2.St} {c : Dn}, EnAll K H es vs → EnvD K H s c → EnvD K H (vs.map some ++ s) (es.map some ++ c)
  | _, _, _, _, .nil, t => t
  | _, _, _, _, .cons r s, t => .cons r (env_args s t)
theorem enAll_len : ∀ {es : List En} {vs : List V}, EnAll K H es vs → es.length = vs.length
  | _, _, .nil => rfl
  | _, _, .cons _ t => congrArg Nat.succ (enAll_len t)
theorem env_start {N : List Str} {es : List En} {vs : List V} (h : EnAll K H es vs) : EnvD K H (L2.start N vs) (es.map some ++ List.replicate (N.length - es.length) none) := by
  unfold L2.start
  rw [enAll_len h]
  exact env_args h (env_none _)
/-- less is known -/
theorem EnvD.weak {s : L2.St} : ∀ {c c' : Dn}, EnvD K H s c → c'.length = c.length → (∀ (i : Nat) (e : En), c'[i]? = some (some e) → c[i]? = some (some e)) → EnvD K H s c' := by
  intro c c' h
  induction h generalizing c' with
  | nil =>
    intro hl _
    cases c' with
    | nil => exact .nil
    | cons _ _ => cases hl
  | skip t ih =>
    intro hl hw
    cases c' with
    | nil => cases hl
    | cons o r =>
      have hr := ih (c' := r) (Nat.succ.inj hl) fun i e q => by simpa using hw (i + 1) e (by simpa using q)
      cases o with
      | none => exact .skip hr
      | some e => exact absurd (hw 0 e rfl) (by simp)
  | cons a t ih =>
    intro hl hw
    cases c' with
    | nil => cases hl
    | cons o r =>
      have hr := ih (c' := r) (Nat.succ.inj hl) fun i e q => by simpa using hw (i + 1) e (by simpa using q)
      cases o with
      | none => exact .skip hr
      | some e =>
        have q := hw 0 e rfl
        simp at q
        subst q
        exact .cons a hr
end

/-! ### what a reading makes -/
def EvE (K : Fg) (s : L2.St) (H : Hp) (te : TE) (e : En) : Prop := ∀ H1, Same H H1 → ∀ Q : VK, (∀ v H2, Same H1 H2 → EnOk K H2 e v → Q v H2) → te s H1 Q
def EvT (K : Fg) (s : L2.St) (H : Hp) (tt : TT) (b : Bool) : Prop := ∀ H1, Same H H1 → ∀ Q : Bool → Hp → Prop, (∀ H2, Same H1 H2 → Q b H2) → tt s H1 Q
def EvA (K : Fg) (s : L2.St) (H : Hp) (ta : TA) (es : List En) : Prop := ∀ H1, Same H H1 → ∀ Q : List V → Hp → Prop, (∀ vs H2, Same H1 H2 → EnAll K H2 es vs → Q vs H2) → ta s H1 Q
/-- a new list of data -/
def EvL (K : Fg) (s : L2.St) (H : Hp) (te : TE) (ds : List PyData) : Prop := ∀ H1, Same H H1 → ∀ Q : VK, (∀ p xs H2, Same H1 H2 → H1 p = none → H2 p = some (.lst xs) → ImAll K H2 xs ds → Q (.ref p) H2) → te s H1 Q
def EvO (K : Fg) (s : L2.St) (H : Hp) (to : TO) (o : Option Int) : Prop := ∀ H1, Same H H1 → ∀ Q : Option Int → Hp → Prop, (∀ H2, Same H1 H2 → Q o H2) → to s H1 Q
theorem same_new {H : Hp} {p : Addr} {o : HO} (h : H p = none) : Same H (upd H p o) := fun a u e => by
  rw [upd_ne (ne_of_none e h)]
  exact e

section
variable {K : Fg} {s : L2.St} {H H' : Hp} {c : Dn} {ta tb te : TE} {t u : TT} {d e : PyData} {ds es : List PyData} {r : R2} {i j : Int} {b b' : Bool} {en : En}
theorem EvE.lift (a : Same H H') (h : EvE K s H te en) : EvE K s H' te en := fun H1 x Q q => h H1 (a.trans x) Q q
theorem EvT.lift (a : Same H H') (h : EvT K s H t b) : EvT K s H' t b := fun H1 x Q q => h H1 (a.trans x) Q q
theorem EvA.lift {tt : TA} {ees : List En} (a : Same H H') (h : EvA K s H tt ees) : EvA K s H' tt ees := fun H1 x Q q => h H1 (a.trans x) Q q
theorem EvL.lift (a : Same H H') (h : EvL K s H te ds) : EvL K s H' te ds := fun H1 x Q q => h H1 (a.trans x) Q q
theorem EvE.is {e1 e2 : En} (h : EvE K s H te e1) (q : e1 = e2) : EvE K s H te e2 := q ▸ h
theorem EvT.is (h : EvT K s H t b) (q : b = b') : EvT K s H t b' := q ▸ h
theorem EvL.is (h : EvL K s H te ds) (q : ds = es) : EvL K s H te es := q ▸ h

/-- names, constants -/
theorem ev_v (env : EnvD K H s c) {i : Nat} (h : c[i]? = some (some en)) : EvE K s H (tVar i) en := fun H1 x Q q => by
  obtain ⟨v, a, r⟩ := env.get h
  exact ⟨v, a, q v H1 (Same.refl _) (r.mono (tk_of x))⟩
theorem ev_i : EvE K s H (tC (.int i)) (.im (.int i)) := fun H1 _ Q q => q _ H1 (Same.refl _) (.int i)
theorem ev_b : EvE K s H (tC (.bl b)) (.im (.bool b)) := fun H1 _ Q q => q _ H1 (Same.refl _) (.bl b)
theorem ev_n : EvE K s H (tC .non) (.im .none) := fun H1 _ Q q => q _ H1 (Same.refl _) .non
theorem ev_s {x : Str} : EvE K s H (tC (.str x)) (.im (.str x)) := fun H1 _ Q q => q _ H1 (Same.refl _) (.str x)
/-- a tuple of the written part -/
theorem ev_kt {a : Addr} {xs : List V} (h : ∀ H, SqT K H a xs) (hs : ∀ H, ImAll K H xs ds) : EvE K s H (tC (.ref a)) (.im (.tuple ds)) := fun H1 _ Q q => q _ H1 (Same.refl _) (.tup (h _) (hs _))

/-- two operands that are data, by a rule of the values -/
theorem ev_op2 {e1 e2 e3 : En} (ha : EvE K s H ta e1) (hb : EvE K s H tb e2) (hr : ∀ x y H1 (Q : VK), Same H H1 → EnOk K H1 e1 x → EnOk K H1 e2 y → (∀ v H2, Same H1 H2 → EnOk K H2 e3 v → Q v H2) → r x y H1 Q) : EvE K s H (tOp r ta tb) e3 := fun H1 x1 Q q =>
  ha H1 x1 _ fun x H2 x2 rx => hb H2 (x1.trans x2) _ fun y H3 x3 ry => hr x y H3 Q ((x1.trans x2).trans x3) (rx.mono (tk_of x3)) ry fun v H4 x4 rv => q v H4 ((x2.trans x3).trans x4) rv
theorem ev_I0 {g : Int → Int → V} {z : PyData} (ha : EvE K s H ta (.im (.int i))) (hb : EvE K s H tb (.im (.int j))) (hz : ∀ H, Im K H (g i j) z) : EvE K s H (tOp (rI0 g) ta tb) (.im z) :=
  ev_op2 ha hb fun x y H1 Q _ rx ry q => ⟨i, j, im_int rx, im_int ry, q _ H1 (Same.refl _) (hz _)⟩
theorem ev_II {C : Int → Int → Prop} {g : Int → Int → V} {z : PyData} (ha : EvE K s H ta (.im (.int i))) (hb : EvE K s H tb (.im (.int j))) (hc : C i j) (hz : ∀ H, Im K H (g i j) z) : EvE K s H (tOp (rI C g) ta tb) (.im z) :=
  ev_op2 ha hb fun x y H1 Q _ rx ry q => ⟨i, j, im_int rx, im_int ry, hc, q _ H1 (Same.refl _) (hz _)⟩
theorem ev_add (ha : EvE K s H ta (.im (.int i))) (hb : EvE K s H tb (.im (.int j))) : EvE K s H (tOp (rI0 fun i j => .int (i + j)) ta tb) (.im (.int (i + j))) := ev_I0 ha hb fun _ => .int _
theorem ev_sub (ha : EvE K s H ta (.im (.int i))) (hb : EvE K s H tb (.im (.int j))) : EvE K s H (tOp (rI0 fun i j => .int (i - j)) ta tb) (.im (.int (i - j))) := ev_I0 ha hb fun _ => .int _
theorem ev_lt (ha : EvE K s H ta (.im (.int i))) (hb : EvE K s H tb (.im (.int j))) : EvE K s H (tOp (rI0 fun i j => .bl (decide (i < j))) ta tb) (.im (.bool (decide (i < j)))) := ev_I0 ha hb fun _ => .bl _
theorem ev_le (ha : EvE K s H ta (.im (.int i))) (hb : EvE K s H tb (.im (.int j))) : EvE K s H (tOp (rI0 fun i j => .bl (decide (i ≤ j))) ta tb) (.im (.bool (decide (i ≤ j)))) := ev_I0 ha hb fun _ => .bl _
theorem ev_gt (ha : EvE K s H ta (.im (.int i))) (hb : EvE K s H tb (.im (.int j))) : EvE K s H (tOp (rI0 fun i j => .bl (decide (j < i))) ta tb) (.im (.bool (decide (j < i)))) := ev_I0 ha hb fun _ => .bl _
theorem ev_ge (ha : EvE K s H ta (.im (.int i))) (hb : EvE K s H tb (.im (.int j))) : EvE K s H (tOp (rI0 fun i j => .bl (decide (j ≤ i))) ta tb) (.im (.bool (decide (j ≤ i)))) := ev_I0 ha hb fun _ => .bl _
/-- == and != of two ints (texts) -/
theorem scal_ii (i j : Int) : scal (.int i) (.int j) = true := rfl
theorem ev_eqI (ha : EvE K s H ta (.im (.int i))) (hb : EvE K s H tb (.im (.int j))) : EvE K s H (tOp rEq ta tb) (.im (.bool (decide (i = j)))) :=
  ev_op2 ha hb fun x y H1 Q _ rx ry q => by
    rw [im_int rx, im_int ry]
    refine ⟨rfl, ?_⟩
    have z : decide (V.int i = V.int j) = decide (i = j) := decide_eq_decide.mpr ⟨fun e => V.int.inj e, fun e => congrArg V.int e⟩
    rw [z]
    exact q _ H1 (Same.refl _) (.bl _)
theorem ev_neI (ha : EvE K s H ta (.im (.int i))) (hb : EvE K s H tb (.im (.int j))) : EvE K s H (tOp rNe ta tb) (.im (.bool (!decide (i = j)))) :=
  ev_op2 ha hb fun x y H1 Q _ rx ry q => by
    rw [im_int rx, im_int ry]
    refine ⟨rfl, ?_⟩
    have z : decide (V.int i = V.int j) = decide (i = j) := decide_eq_decide.mpr ⟨fun e => V.int.inj e, fun e => congrArg V.int e⟩
    rw [z]
    exact q _ H1 (Same.refl _) (.bl _)
theorem ev_eqS {x y : Str} (ha : EvE K s H ta (.im (.str x))) (hb : EvE K s H tb (.im (.str y))) : EvE K s H (tOp rEq ta tb) (.im (.bool (decide (x = y)))) :=
  ev_op2 ha hb fun x' y' H1 Q _ rx ry q => by
    rw [im_str rx, im_str ry]
    refine ⟨rfl, ?_⟩
    have z : decide (V.str x = V.str y) = decide (x = y) := decide_eq_decide.mpr ⟨fun e => V.str.inj e, fun e => congrArg V.str e⟩
    rw [z]
    exact q _ H1 (Same.refl _) (.bl _)
/-- == and != of data -/
theorem ev_eqD (ha : EvE K s H ta (.im d)) (hb : EvE K s H tb (.im e)) (h1 : SeqAt.shaped d = true) (h2 : SeqAt.shaped e = true) : EvE K s H (tOp (rEqD K) ta tb) (.im (.bool (PyData.eqv d e))) :=
  ev_op2 ha hb fun x y H1 Q _ rx ry q => ⟨d, e, Im.dp (shaped_lay h1) rx, Im.dp (shaped_lay h2) ry, h1, h2, q _ H1 (Same.refl _) (.bl _)⟩
theorem ev_neD (ha : EvE K s H ta (.im d)) (hb : EvE K s H tb (.im e)) (h1 : SeqAt.shaped d = true) (h2 : SeqAt.shaped e = true) : EvE K s H (tOp (rNeD K) ta tb) (.im (.bool (!PyData.eqv d e))) :=
  ev_op2 ha hb fun x y H1 Q _ rx ry q => ⟨d, e, Im.dp (shaped_lay h1) rx, Im.dp (shaped_lay h2) ry, h1, h2, q _ H1 (Same.refl _) (.bl _)⟩
/-- t[i] -/
theorem at_nat {xs : List V} {i : Int} {n : Nat} {v : V} (hi : i = (n : Int)) (h : xs[n]? = some v) : atI xs i = some v := by
  rw [hi]
  exact atI_nat h
theorem ev_ixT {n : Nat} (ha : EvE K s H ta (.im (.tuple ds))) (hb : EvE K s H tb (.im (.int (n : Int)))) (h : ds[n]? = some d) : EvE K s H (tOp (rIxT K) ta tb) (.im d) :=
  ev_op2 ha hb fun x y H1 Q _ rx ry q => by
    obtain ⟨a, xs, e1, e2, e3⟩ := im_tup rx
    obtain ⟨v, g1, g2⟩ := imAll_get e3 h
    exact ⟨a, xs, n, v, e1, im_int ry, e2, atI_nat g1, q v H1 (Same.refl _) g2⟩
/-- t[-1] -/
theorem at_neg1 {xs : List V} {v : V} (h : xs[xs.length - 1]? = some v) : atI xs (-1) = some v := by
  have hp : 0 < xs.length := by
    cases xs with
    | nil => simp at h
    | cons _ _ => simp
  unfold atI ixN
  rw [if_neg (by omega), if_pos (by omega)]
  have e : ((-1 : Int) + (xs.length : Int)).toNat = xs.length - 1 := by omega
  simp only [Option.bind_some, e]
  exact h
theorem ev_ixTl (ha : EvE K s H ta (.im (.tuple ds))) (hb : EvE K s H tb (.im (.int (-1)))) (h : ds[ds.length - 1]? = some d) : EvE K s H (tOp (rIxT K) ta tb) (.im d) :=
  ev_op2 ha hb fun x y H1 Q _ rx ry q => by
    obtain ⟨a, xs, e1, e2, e3⟩ := im_tup rx
    obtain ⟨v, g1, g2⟩ := imAll_get e3 h
    rw [← imAll_len e3] at g1
    exact ⟨a, xs, -1, v, e1, im_int ry, e2, at_neg1 g1, q v H1 (Same.refl _) g2⟩
/-- xs[i], xs a known list of data -/
theorem ev_ixL {a : Addr} {xs : List V} {n : Nat} (hl : SqL K H a xs) (hs : ImAll K H xs ds) (ha : EvE K s H ta (.rf a)) (hb : EvE K s H tb (.im (.int (n : Int)))) (h : ds[n]? = some d) : EvE K s H (tOp (rIxL K) ta tb) (.im d) :=
  ev_op2 ha hb fun x y H1 Q e0 rx ry q => by
    obtain ⟨v, g1, g2⟩ := imAll_get hs h
    exact ⟨a, xs, n, v, rx, im_int ry, e0.seq hl, atI_nat g1, q v H1 (Same.refl _) (g2.mono (tk_of e0))⟩
theorem ev_ixLl {a : Addr} {xs : List V} (hl : SqL K H a xs) (hs : ImAll K H xs ds) (ha : EvE K s H ta (.rf a)) (hb : EvE K s H tb (.im (.int (-1)))) (h : ds[ds.length - 1]? = some d) : EvE K s H (tOp (rIxL K) ta tb) (.im d) :=
  ev_op2 ha hb fun x y H1 Q e0 rx ry q => by
    obtain ⟨v, g1, g2⟩ := imAll_get hs h
    rw [← imAll_len hs] at g1
    exact ⟨a, xs, -1, v, rx, im_int ry, e0.seq hl, at_neg1 g1, q v H1 (Same.refl _) (g2.mono (tk_of e0))⟩
/-- xs[i], any item -/
theorem ev_ixLr {a p : Addr} {xs : List V} {n : Nat} (hl : SqL K H a xs) (ha : EvE K s H ta (.rf a)) (hb : EvE K s H tb (.im (.int (n : Int)))) (h : xs[n]? = some (.ref p)) : EvE K s H (tOp (rIxL K) ta tb) (.rf p) :=
  ev_op2 ha hb fun x y H1 Q e0 rx ry q => ⟨a, xs, n, _, rx, im_int ry, e0.seq hl, atI_nat h, q _ H1 (Same.refl _) rfl⟩
/-- a tuple is made -/
theorem ea_n : EvA K s H tNil [] := fun H1 _ Q q => q [] H1 (Same.refl _) .nil
theorem ea_c {tr : TA} {e1 : En} {e2 : List En} (ha : EvE K s H ta e1) (hr : EvA K s H tr e2) : EvA K s H (tCons ta tr) (e1 :: e2) := fun H1 x1 Q q =>
  ha H1 x1 _ fun v H2 x2 rv => hr H2 (x1.trans x2) _ fun vs H3 x3 rs => q (v :: vs) H3 (x2.trans x3) (.cons (rv.mono (tk_of x3)) rs)
theorem ev_tup {tr : TA} (h : EvA K s H tr (ds.map .im)) (hz : ds.length ≤ sizeLine) : EvE K s H (tTup tr) (.im (.tuple ds)) := fun H1 x1 Q q =>
  h H1 x1 _ fun vs H2 x2 rs => by
    have r := enAll_im rs
    refine ⟨by rw [imAll_len r]; exact hz, fun p hp => ?_⟩
    exact q _ _ (x2.trans (same_new hp)) (.tup (SqT.of upd_same) (r.mono (tk_of (same_new hp))))
theorem ev_tup1 {e1 : PyData} (h1 : EvE K s H ta (.im e1)) : EvE K s H (tTup (tCons ta tNil)) (.im (.tuple [e1])) :=
  ev_tup (ds := [e1]) (ea_c h1 ea_n) (by show 1 ≤ sizeLine; decide)
theorem ev_tup2 {e1 e2 : PyData} (h1 : EvE K s H ta (.im e1)) (h2 : EvE K s H tb (.im e2)) : EvE K s H (tTup (tCons ta (tCons tb tNil))) (.im (.tuple [e1, e2])) :=
  ev_tup (ds := [e1, e2]) (ea_c h1 (ea_c h2 ea_n)) (by show 2 ≤ sizeLine; decide)
/-- a list is made -/
theorem el_lst {tr : TA} (h : EvA K s H tr (ds.map .im)) (hz : ds.length ≤ sizeLine) : EvL K s H (tLst tr) ds := fun H1 x1 Q q =>
  h H1 x1 _ fun vs H2 x2 rs => by
    have r := enAll_im rs
    refine ⟨by rw [imAll_len r]; exact hz, fun p hp => ?_⟩
    exact q p vs _ (x2.trans (same_new hp)) (x2.free hp) upd_same (r.mono (tk_of (same_new hp)))
/-- and, or, not, if as values -/
theorem ev_andV (h1 : EvE K s H ta (.im (.bool b))) (h2 : b = true → EvE K s H tb (.im (.bool b'))) : EvE K s H (tAndV ta tb) (.im (.bool (b && b'))) := fun H1 x1 Q q =>
  h1 H1 x1 _ fun v H2 x2 rv => ⟨b, im_bl rv, by
    cases b with
    | true => exact iteT (h2 rfl H2 (x1.trans x2) Q fun v H3 x3 r => q v H3 (x2.trans x3) r)
    | false => exact iteF (q _ H2 x2 (.bl _))⟩
theorem ev_orV (h1 : EvE K s H ta (.im (.bool b))) (h2 : b = false → EvE K s H tb (.im (.bool b'))) : EvE K s H (tOrV ta tb) (.im (.bool (b || b'))) := fun H1 x1 Q q =>
  h1 H1 x1 _ fun v H2 x2 rv => ⟨b, im_bl rv, by
    cases b with
    | true => exact iteT (q _ H2 x2 (.bl _))
    | false => exact iteF (h2 rfl H2 (x1.trans x2) Q fun v H3 x3 r => q v H3 (x2.trans x3) r)⟩
theorem ev_notV (h1 : EvE K s H ta (.im (.bool b))) : EvE K s H (tNotV ta) (.im (.bool (!b))) := fun H1 x1 Q q =>
  h1 H1 x1 _ fun v H2 x2 rv => ⟨b, im_bl rv, q _ H2 x2 (.bl _)⟩
theorem ev_if (h : EvT K s H t b) (h1 : b = true → EvE K s H ta en) (h2 : b = false → EvE K s H tb en) : EvE K s H (tIf t ta tb) en := fun H1 x1 Q q =>
  h H1 x1 _ fun H2 x2 => by
    cases b with
    | true => exact iteT (h1 rfl H2 (x1.trans x2) Q fun v H3 x3 r => q v H3 (x2.trans x3) r)
    | false => exact iteF (h2 rfl H2 (x1.trans x2) Q fun v H3 x3 r => q v H3 (x2.trans x3) r)
/-- is None -/
def rIsN1 : R2 := fun x y H Q => y = .non ∧ Q (.bl (decide (x = .non))) H
def rNotN1 : R2 := fun x y H Q => y = .non ∧ Q (.bl (!decide (x = .non))) H
theorem o_isN {X : Cx} : OpR X (compareOp .Is) rIsN1 := op_isN
theorem o_notN {X : Cx} : OpR X (compareOp .IsNot) rNotN1 := op_notN
def isNone : En → Bool
  | .im .none => true
  | _ => false
theorem isNone_eq {e : En} {v : V} (h : EnOk K H e v) : decide (v = .non) = isNone e := by
  cases e with
  | rf a => rw [show v = .ref a from h]; rfl
  | im d =>
    cases d with
    | none => rw [im_non h]; rfl
    | bool _ => rw [im_bl h]; rfl
    | int _ => rw [im_int h]; rfl
    | str _ => rw [im_str h]; rfl
    | tuple _ => obtain ⟨_, _, z, _⟩ := im_tup h; rw [z]; rfl
    | list _ => cases h
    | dict _ => cases h <;> rfl
theorem ev_isN (ha : EvE K s H ta en) : EvE K s H (tOp rIsN1 ta (tC .non)) (.im (.bool (isNone en))) :=
  ev_op2 ha ev_n fun x y H1 Q _ rx ry q => ⟨im_non ry, by rw [isNone_eq rx]; exact q _ H1 (Same.refl _) (.bl _)⟩
theorem ev_notN (ha : EvE K s H ta en) : EvE K s H (tOp rNotN1 ta (tC .non)) (.im (.bool (!isNone en))) :=
  ev_op2 ha ev_n fun x y H1 Q _ rx ry q => ⟨im_non ry, by rw [isNone_eq rx]; exact q _ H1 (Same.refl _) (.bl _)⟩
/-- tests -/
theorem et_test (h : EvE K s H te (.im (.bool b))) : EvT K s H (tTest te) b := fun H1 x1 Q q => h H1 x1 _ fun v H2 x2 rv => ⟨b, im_bl rv, q H2 x2⟩
theorem et_B (h : EvE K s H te (.im (.bool b))) : EvT K s H (tB te) b := fun H1 x1 Q q => h H1 x1 _ fun v H2 x2 rv => ⟨b, im_bl rv, q H2 x2⟩
theorem et_not (h : EvT K s H t b) : EvT K s H (tNot t) (!b) := fun H1 x1 Q q => h H1 x1 _ fun H2 x2 => q H2 x2
theorem et_and (h1 : EvT K s H t b) (h2 : b = true → EvT K s H u b') : EvT K s H (tAnd t u) (b && b') := fun H1 x1 Q q => h1 H1 x1 _ fun H2 x2 => by
  cases b with
  | true => exact iteT (h2 rfl H2 (x1.trans x2) Q fun H3 x3 => q H3 (x2.trans x3))
  | false => exact iteF (q H2 x2)
theorem et_or (h1 : EvT K s H t b) (h2 : b = false → EvT K s H u b') : EvT K s H (tOr t u) (b || b') := fun H1 x1 Q q => h1 H1 x1 _ fun H2 x2 => by
  cases b with
  | true => exact iteT (q H2 x2)
  | false => exact iteF (h2 rfl H2 (x1.trans x2) Q fun H3 x3 => q H3 (x2.trans x3))
/-- calls of built-ins by values -/
theorem ev_cb {rc : List V → Hp → VK → Prop} {tr : TA} {es' : List En} (h : EvA K s H tr es') (hr : ∀ vs H1 (Q : VK), Same H H1 → EnAll K H1 es' vs → (∀ v H2, Same H1 H2 → EnOk K H2 en v → Q v H2) → rc vs H1 Q) : EvE K s H (tCB rc tr) en := fun H1 x1 Q q =>
  h H1 x1 _ fun vs H2 x2 rs => hr vs H2 Q (x1.trans x2) rs fun v H3 x3 rv => q v H3 (x2.trans x3) rv
/-- len of a tuple, of a list -/
def rLen1 (K : Fg) : List V → Hp → VK → Prop := fun xs H Q => ∃ p ys, xs = [.ref p] ∧ (SqL K H p ys ∨ SqT K H p ys) ∧ Q (.int ys.length) H
theorem c_len {X : Cx} : CallR X (.builtin "len") (rLen1 X.K) := call_len_seq
theorem enAll1 {e1 : En} {vs : List V} (h : EnAll K H [e1] vs) : ∃ v, vs = [v] ∧ EnOk K H e1 v := by
  cases h with
  | cons a t => cases t; exact ⟨_, rfl, a⟩
theorem enAll2 {e1 e2 : En} {vs : List V} (h : EnAll K H [e1, e2] vs) : ∃ v w, vs = [v, w] ∧ EnOk K H e1 v ∧ EnOk K H e2 w := by
  cases h with
  | cons a t =>
    cases t with
    | cons a' t' => cases t'; exact ⟨_, _, rfl, a, a'⟩
theorem enAll3 {e1 e2 e3 : En} {vs : List V} (h : EnAll K H [e1, e2, e3] vs) : ∃ v w z, vs = [v, w, z] ∧ EnOk K H e1 v ∧ EnOk K H e2 w ∧ EnOk K H e3 z := by
  cases h with
  | cons a t =>
    obtain ⟨w, z, e, h1, h2⟩ := enAll2 t
    exact ⟨_, w, z, by rw [e], a, h1, h2⟩
theorem ev_lenT (ha : EvE K s H ta (.im (.tuple ds))) : EvE K s H (tCB (rLen1 K) (tCons ta tNil)) (.im (.int (ds.length : Int))) :=
  ev_cb (ea_c ha ea_n) fun vs H1 Q _ r q => by
    obtain ⟨v, e1, r1⟩ := enAll1 r
    obtain ⟨a, xs, e2, e3, e4⟩ := im_tup r1
    refine ⟨a, xs, by rw [e1, e2], Or.inr e3, ?_⟩
    rw [imAll_len e4]
    exact q _ H1 (Same.refl _) (.int _)
theorem ev_lenL {a : Addr} {xs : List V} (hl : SqL K H a xs) (ha : EvE K s H ta (.rf a)) : EvE K s H (tCB (rLen1 K) (tCons ta tNil)) (.im (.int (xs.length : Int))) :=
  ev_cb (ea_c ha ea_n) fun vs H1 Q e0 r q => by
    obtain ⟨v, e1, r1⟩ := enAll1 r
    exact ⟨a, xs, by rw [e1, show v = .ref a from r1], Or.inl (e0.seq hl), q _ H1 (Same.refl _) (.int _)⟩
/-- min, max of two ints -/
def rMin2 : List V → Hp → VK → Prop := fun xs H Q => ∃ i j, xs = [.int i, .int j] ∧ Q (.int (if j < i then j else i)) H
def rMax2 : List V → Hp → VK → Prop := fun xs H Q => ∃ i j, xs = [.int i, .int j] ∧ Q (.int (if j > i then j else i)) H
theorem c_min {X : Cx} (hc : X.calm = true) : CallR X (.builtin "min") rMin2 := call_min2 hc
theorem c_max {X : Cx} (hc : X.calm = true) : CallR X (.builtin "max") rMax2 := call_max2 hc
theorem ev_min (ha : EvE K s H ta (.im (.int i))) (hb : EvE K s H tb (.im (.int j))) : EvE K s H (tCB rMin2 (tCons ta (tCons tb tNil))) (.im (.int (min i j))) :=
  ev_cb (ea_c ha (ea_c hb ea_n)) fun vs H1 Q _ r q => by
    obtain ⟨v, w, e1, r1, r2⟩ := enAll2 r
    refine ⟨i, j, by rw [e1, im_int r1, im_int r2], ?_⟩
    have e : (if j < i then j else i) = min i j := by split <;> omega
    rw [e]
    exact q _ H1 (Same.refl _) (.int _)
theorem ev_max (ha : EvE K s H ta (.im (.int i))) (hb : EvE K s H tb (.im (.int j))) : EvE K s H (tCB rMax2 (tCons ta (tCons tb tNil))) (.im (.int (max i j))) :=
  ev_cb (ea_c ha (ea_c hb ea_n)) fun vs H1 Q _ r q => by
    obtain ⟨v, w, e1, r1, r2⟩ := enAll2 r
    refine ⟨i, j, by rw [e1, im_int r1, im_int r2], ?_⟩
    have e : (if j > i then j else i) = max i j := by split <;> omega
    rw [e]
    exact q _ H1 (Same.refl _) (.int _)
/-- slices of tuples -/
theorem eo_none : EvO K s H tNoPart none := fun H1 _ Q q => q H1 (Same.refl _)
theorem eo_some (h : EvE K s H te (.im (.int i))) : EvO K s H (tPart te) (some i) := fun H1 x1 Q q => h H1 x1 _ fun v H2 x2 rv => ⟨i, im_int rv, q H2 x2⟩
theorem ev_slT {tl th : TO} {lo hi : Option Int} (h : EvE K s H te (.im (.tuple ds))) (h1 : EvO K s H tl lo) (h2 : EvO K s H th hi)
    (he : es = (ds.drop (HT.sIx ds.length 0 lo)).take (HT.sIx ds.length ds.length hi - HT.sIx ds.length 0 lo)) : EvE K s H (tSl (rSlA K) te tl th) (.im (.tuple es)) := fun H1 x1 Q q =>
  h H1 x1 _ fun v H2 x2 rv => h1 H2 (x1.trans x2) _ fun H3 x3 => h2 H3 ((x1.trans x2).trans x3) _ fun H4 x4 => by
    have x24 := x3.trans x4
    obtain ⟨a, xs, e2, e3, e4⟩ := im_tup (rv.mono (tk_of x24))
    have el := imAll_len e4
    have e5 : ImAll K H4 (cutV xs lo hi) es := by
      unfold cutV
      rw [he, el]
      exact imAll_take _ (imAll_drop _ e4)
    refine ⟨a, xs, e2, e3, fun ⟨z1, z2⟩ => q _ H4 (x2.trans x24) ?_, fun _ p hp => q _ _ ((x2.trans x24).trans (same_new hp)) (.tup (SqT.of upd_same) (e5.mono (tk_of (same_new hp))))⟩
    have : es = ds := by
      rw [he, ← el, z1, z2, List.drop_zero, Nat.sub_zero, el, List.take_length]
    rw [this]
    exact .tup e3 e4
/-- t + u -/
theorem ev_cat (ha : EvE K s H ta (.im (.tuple ds))) (hb : EvE K s H tb (.im (.tuple es))) (hz : ds.length + es.length ≤ sizeLine) : EvE K s H (tOp (rCatA K) ta tb) (.im (.tuple (ds ++ es))) :=
  ev_op2 ha hb fun x y H1 Q _ rx ry q => by
    obtain ⟨a, xs, e1, e2, e3⟩ := im_tup rx
    obtain ⟨b, ys, g1, g2, g3⟩ := im_tup ry
    have l1 := imAll_len e3
    have l2 := imAll_len g3
    refine ⟨a, b, xs, ys, e1, g1, e2, g2, by omega, fun z => ?_, fun _ z => ?_, fun _ _ p hp => ?_⟩
    · subst z
      cases e3
      exact q _ H1 (Same.refl _) (.tup g2 g3)
    · subst z
      cases g3
      rw [List.append_nil] at q
      exact q _ H1 (Same.refl _) (.tup e2 e3)
    · exact q _ _ (same_new hp) (.tup (SqT.of upd_same) ((imAll_app e3 g3).mono (tk_of (same_new hp))))
end

/-! ### promises about data alone -/
/-- from such data to such data -/
def spD (K : Fg) (R : List PyData → PyData → Prop) : Sp := fun vs H Q _ => ∃ ds d, ImAll K H vs ds ∧ R ds d ∧ ∀ v H', Same H H' → Im K H' v d → Q v H'
section
variable {K : Fg} {s : L2.St} {H : Hp} {R : List PyData → PyData → Prop} {ds : List PyData} {d : PyData}
theorem ev_call {E : XK} {tr : TA} (h : EvA K s H tr (ds.map .im)) (hr : R ds d) : EvE K s H (tCall (spD K R) [] E tr) (.im d) := fun H1 x1 Q q =>
  h H1 x1 _ fun vs H2 x2 rs => ⟨ds, d, by rw [List.append_nil]; exact enAll_im rs, hr, fun v H3 x3 rv => q v H3 (x2.trans x3) rv⟩
end

/-! ### statements -/
section
variable {K : Fg} {s : L2.St} {H : Hp} {c : Dn} {te : TE} {en : En} {D : Ends} {tt : TT} {t u : TS} {b : Bool} {ds : List PyData}
theorem st_seq (h : t { D with nx := u D } s H) : tSeq t u D s H := h
theorem st_set {i : Nat} (env : EnvD K H s c) (h : EvE K s H te en) (k : ∀ v H1, Same H H1 → EnOk K H1 en v → EnvD K H1 (s.set i (some v)) (c.set i (some en)) → D.nx (s.set i (some v)) H1) : tAsg te (gName i) D s H :=
  h H (Same.refl _) _ fun v H1 x r => k v H1 x r ((env.mono (tk_of x)).set r i)
theorem st_setL {i : Nat} (env : EnvD K H s c) (h : EvL K s H te ds) (k : ∀ p xs H1, Same H H1 → H p = none → H1 p = some (.lst xs) → ImAll K H1 xs ds → EnvD K H1 (s.set i (some (.ref p))) (c.set i (some (.rf p))) → D.nx (s.set i (some (.ref p))) H1) : tAsg te (gName i) D s H :=
  h H (Same.refl _) _ fun p xs H1 x np hp r => k p xs H1 x np hp r ((env.mono (tk_of x)).set (e := .rf p) rfl i)
theorem st_ret (h : EvE K s H te en) (k : ∀ v H1, Same H H1 → EnOk K H1 en v → D.rt v H1) : tRet te D s H := h H (Same.refl _) _ k
theorem st_retD {d : PyData} (h : EvE K s H te (.im d)) (k : ∀ v H1, Same H H1 → Im K H1 v d → D.rt v H1) : tRet te D s H := h H (Same.refl _) _ k
theorem st_if (env : EnvD K H s c) (h : EvT K s H tt b) (h1 : b = true → ∀ H1, Same H H1 → EnvD K H1 s c → t D s H1) (h2 : b = false → ∀ H1, Same H H1 → EnvD K H1 s c → u D s H1) : tIfS tt t u D s H := h H (Same.refl _) _ fun H1 x => by
  cases b with
  | true => exact iteT (h1 rfl H1 x (env.mono (tk_of x)))
  | false => exact iteF (h2 rfl H1 x (env.mono (tk_of x)))
theorem st_drop (h : EvE K s H te en) (k : ∀ H1, Same H H1 → D.nx s H1) : tDrop te D s H := h H (Same.refl _) _ fun _ H1 x _ => k H1 x
/-- a, b, .. = t -/
def unpackD (c : Dn) : List Nat → List PyData → Dn
  | i :: is, d :: ds => unpackD (c.set i (some (.im d))) is ds
  | _, _ => c
def gNames : List Nat → TGs
  | [] => gNil
  | i :: is => gCons (gName i) (gNames is)
theorem gNames_ok {Q : L2.St → Hp → Prop} : ∀ (is : List Nat) (xs : List V) (ds : List PyData) (s : L2.St) (c : Dn), is.length = ds.length → ImAll K H xs ds → EnvD K H s c → (∀ s', EnvD K H s' (unpackD c is ds) → Q s' H) → gNames is xs s H Q
  | [], _, [], s, c, _, .nil, env, k => ⟨rfl, k s env⟩
  | [], _, _ :: _, _, _, h, _, _, _ => by cases h
  | _ :: _, _, [], _, _, h, _, _, _ => by cases h
  | i :: is, _, d :: ds, s, c, h, .cons r t, env, k =>
    ⟨_, _, rfl, gNames_ok is _ ds _ _ (Nat.succ.inj h) t (env.set (e := .im d) r i) k⟩
theorem st_unpack {is : List Nat} {n : Nat} (env : EnvD K H s c) (h : EvE K s H te (.im (.tuple ds))) (hn : ds.length = n) (hi : is.length = n) (k : ∀ s' H1, Same H H1 → EnvD K H1 s' (unpackD c is ds) → D.nx s' H1) : tAsg te (gTup K n (gNames is)) D s H :=
  h H (Same.refl _) _ fun v H1 x r => by
    obtain ⟨a, xs, e1, e2, e3⟩ := im_tup r
    exact ⟨a, xs, e1, e2, by rw [imAll_len e3]; exact hn, gNames_ok is xs ds s c (by omega) e3 (env.mono (tk_of x)) fun s' env' => k s' H1 x env'⟩
end
end CB

/-! ## KR1 -/
set_option Elab.async false
set_option linter.all false
set_option maxRecDepth 100000
set_option maxHeartbeats 4000000
/-! tuple * int, for every count -/
namespace CB
open PySem PySem.Spec PyProof.Rows L2
theorem mulT_self (l : Addr) (items : Array Value) (n : Nat) (dd : Option Addr) (sl : Array (Option Value)) (u : Tok) :
    Meets (Builtin.«tuple.__mul__» ⟨[.ref l, .int 1 u], []⟩) (fun _ R s => s.heap.get? l = some { cls := .type "tuple", dict := dd, data := .seq items n, slots := sl } ∧ R (.ok (.ret (Value.ref l))) s) :=
  .of_wp fun prog w A R s h => by
    obtain ⟨hp, g, d, tk, os⟩ := s
    obtain ⟨hl, h⟩ := h
    have f1 := AutoSeq1.idx_int
    have f2 : (items.isEmpty || (1 : Int) == 1) = true := by simp
    wp_walk using wpAny_loadPart' hl
    exact ⟨_, rfl, h⟩
theorem mulT_none (l : Addr) (items : Array Value) (n : Nat) (dd : Option Addr) (sl : Array (Option Value)) (x : Int) (u : Tok) (c0 : (decide (x < -(2 ^ 63)) || decide (x ≥ 2 ^ 63)) = false) (c1 : (items.isEmpty || x == 1) = false) (c2 : (decide (x ≤ 0) || items.isEmpty) = true) :
    Meets (Builtin.«tuple.__mul__» ⟨[.ref l, .int x u], []⟩) (fun _ R s => s.heap.get? l = some { cls := .type "tuple", dict := dd, data := .seq items n, slots := sl } ∧
      R (.ok (.ret (Value.ref s.heap.objs.size))) { s with heap := s.heap.push { cls := Value.type "tuple", data := Data.seq #[] }, toks := s.toks }) :=
  .of_wp fun prog w A R s h => by
    obtain ⟨hp, g, d, tk, os⟩ := s
    obtain ⟨hl, h⟩ := h
    have f1 := AutoSeq1.idx_int
    wp_walk using wpAny_loadPart' hl
    repeat (first
      | (refine wpAny_ite_false (decide_eq_false (by rw [c0]; exact Bool.false_ne_true)) ?_; wp_walk using wpAny_loadPart' hl)
      | (refine wpAny_ite_false (decide_eq_false (by rw [c1]; exact Bool.false_ne_true)) ?_; wp_walk using wpAny_loadPart' hl)
      | (refine wpAny_ite_true (decide_eq_true c2) ?_; wp_walk using wpAny_loadPart' hl))
    exact ⟨_, rfl, h⟩
/-- t * k: t not empty -/
def rMulT (K : Fg) : R2 := fun x y H Q => ∃ l k xs, x = .ref l ∧ y = .int k ∧ SqT K H l xs ∧ xs ≠ [] ∧ -(2 ^ 60) ≤ k ∧ k < 2 ^ 60 ∧ xs.length * k.toNat ≤ 1000000 ∧
  (k = 1 → Q (.ref l) H) ∧ (k ≠ 1 → ∀ p, H p = none → Q (.ref p) (upd H p (.tup (List.replicate k.toNat xs).flatten)))
theorem op_mulT {X : Cx} : OpR X (binaryOp .Mult) (rMulT X.K) := by
  intro pins s σ H x y v u Q I rx ry h
  obtain ⟨l, k, xs, rfl, rfl, hT, hne, h1, h2, hz, q1, q2⟩ := h
  cases rx
  obtain ⟨t, rfl⟩ := ry
  obtain ⟨its, r, ⟨⟨cls, dd, data, sl⟩, ho, hc, n, hd⟩, hs⟩ := I.tuple hT
  simp only at hc hd
  subst hc hd
  have hle : its.length = xs.length := r.length.symm
  have hi : its.toArray.isEmpty = false := by
    cases its with
    | nil => exact absurd (List.eq_nil_of_length_eq_zero hle.symm) hne
    | cons a b => rfl
  have hsz0 : its.toArray.size = xs.length := by rw [List.size_toArray, hle]
  have hxp : 0 < xs.length := List.length_pos_iff.mpr hne
  have c0 : (decide (k < -(2 ^ 63)) || decide (k ≥ 2 ^ 63)) = false := by
    rw [decide_eq_false (by omega), decide_eq_false (by omega)]
    rfl
  have road : ∀ {Q' : Value → Shared → Prop} {E : Value → Shared → Prop}, wpAny (model X.prog X.w) X.A (PySem.call (.builtin "tuple.__mul__") [.ref l, .int k t]) Q' E s → wpAny (model X.prog X.w) X.A (binaryOp .Mult (.ref l) (.int k t)) Q' E s := fun {Q' E} hh =>
    wpAny_binaryOp_repeat_ref (T := "tuple") (U := "int") (by decide) ⟨_, ho, rfl⟩ (fun s' => typeIs_int s' k t) noFill_tuple_mul F.fills_int_mul F.slot_int_rmul repeat_tuple F.slot_int_index.lookup
      (call_meets F.slot_int_rmul (typeIs_int s k t) F.entry_int_rmul (F.args_int_rmul_2 _ _) (int_rmul_tuple k t l its.toArray n dd sl) ⟨ho, rfl, ⟨_, ho, rfl⟩, hh⟩)
  refine road ?_
  by_cases k1 : k = 1
  · subst k1
    exact call_meets F.slot_tuple_mul ⟨_, ho, rfl⟩ F.entry_tuple_mul (F.args_tuple_mul_2 _ _) (mulT_self l its.toArray n dd sl t) ⟨ho, ⟨.ref l, H, I, rfl, q1 rfl⟩⟩
  have c1 : (its.toArray.isEmpty || k == 1) = false := by
    rw [hi, Bool.false_or]
    exact beq_eq_false_iff_ne.mpr k1
  by_cases k0 : k ≤ 0
  · have c2 : (decide (k ≤ 0) || its.toArray.isEmpty) = true := by
      rw [decide_eq_true k0]
      rfl
    refine call_meets F.slot_tuple_mul ⟨_, ho, rfl⟩ F.entry_tuple_mul (F.args_tuple_mul_2 _ _) (mulT_none l its.toArray n dd sl k t c0 c1 c2) ⟨ho, ?_⟩
    have ez : (List.replicate k.toNat xs).flatten = [] := by
      rw [show k.toNat = 0 by omega]
      rfl
    have q := q2 k1 _ (I.hok.fresh (Nat.le_refl _))
    rw [ez] at q
    exact ⟨.ref s.heap.objs.size, _, I.laid (t' := s.toks) (o := .tup []) (fun b ob z => Heap.get?_push_of_some _ z) (Nat.le_refl _) ⟨Nat.zero_le _, [], .nil, IsTup.new _ _⟩, rfl, q⟩
  · have c2 : (decide (k ≤ 0) || its.toArray.isEmpty) = false := by
      rw [hi, Bool.or_false]
      exact decide_eq_false k0
    have em : ((its.toArray.size : Nat) : Int) * k = ((xs.length * k.toNat : Nat) : Int) := by
      rw [hsz0, Int.natCast_mul]
      congr 1
      omega
    have flen : (List.replicate k.toNat its).flatten.length ≤ sizeLine := by
      rw [PyProof.Rows.lm_len_rep_flat, hle, sizeLine_eq, Nat.mul_comm]
      omega
    have c4 : Builtin.Tuple.tupleTooMany (((its.toArray.size : Nat) : Int) * k) = false := by
      unfold Builtin.Tuple.tupleTooMany
      rw [sizeLine_eq, em]
      exact decide_eq_false (by omega)
    refine call_meets F.slot_tuple_mul ⟨_, ho, rfl⟩ F.entry_tuple_mul (F.args_tuple_mul_2 _ _) (tuple_mulW l its.toArray n dd sl k t c0 c1 c2 (by rw [em]; omega) c4 (by rw [size_rep, List.size_toArray]; exact flen)) ⟨ho, ?_⟩
    rw [size_rep]
    refine ⟨.ref s.heap.objs.size, _, I.laid (t' := s.toks) (o := .tup (List.replicate k.toNat xs).flatten) (fun b ob q => Heap.get?_push_of_some _ q) (Nat.le_refl _) ?_, rfl, q2 k1 _ (I.hok.fresh (Nat.le_refl _))⟩
    exact ⟨by rw [← (r.rep k.toNat).length] at flen; exact flen, _, r.rep k.toNat, IsTup.new _ _⟩
section
variable {K : Fg} {s : L2.St} {H : Hp} {ta tb : TE} {ds : List PyData} {k : Int}
theorem ev_mulT (ha : EvE K s H ta (.im (.tuple ds))) (hb : EvE K s H tb (.im (.int k))) (hne : ds ≠ []) (h1 : -(2 ^ 60) ≤ k) (h2 : k < 2 ^ 60) (hz : ds.length * k.toNat ≤ 1000000) :
    EvE K s H (tOp (rMulT K) ta tb) (.im (.tuple (List.replicate k.toNat ds).flatten)) :=
  ev_op2 ha hb fun x y H1 Q _ rx ry q => by
    obtain ⟨a, xs, e1, e2, e3⟩ := im_tup rx
    have l1 := imAll_len e3
    refine ⟨a, k, xs, e1, im_int ry, e2, ?_, h1, h2, by rw [l1]; exact hz, fun z => ?_, fun z p hp => ?_⟩
    · intro z
      rw [z] at l1
      exact hne (List.eq_nil_of_length_eq_zero l1.symm)
    · subst z
      refine q _ H1 (Same.refl _) ?_
      have e : (List.replicate (1 : Int).toNat ds).flatten = ds := by simp
      rw [e]
      exact .tup e2 e3
    · exact q _ _ (same_new hp) (.tup (SqT.of upd_same) ((imAll_rep e3 k.toNat).mono (tk_of (same_new hp))))
end
end CB

/-! ## KL2 -/
set_option Elab.async false
set_option linter.all false
set_option maxRecDepth 100000
set_option maxHeartbeats 2000000
/-! Loops and comprehensions over data, defs by name. -/
namespace CB
open PySem L2

/-! ### what is walked -/
def Gives (K : Fg) (J : It) (H : Hp) (ds : List PyData) : Prop := ∀ H3, Same H H3 → ∀ i, (i < ds.length → J.go i H3 ∧ ∀ x H4, J.yld i H3 x H4 → Same H3 H4 ∧ ∃ d, ds[i]? = some d ∧ Im K H4 x d) ∧ (ds.length ≤ i → J.stop i H3)
def EvI (K : Fg) (s : L2.St) (H : Hp) (wi : TI) (ds : List PyData) : Prop := ∀ H1, Same H H1 → ∀ R : It → Hp → Prop, (∀ J H2, Same H1 H2 → Gives K J H2 ds → R J H2) → wi s H1 R
section
variable {K : Fg} {s : L2.St} {H : Hp} {c : Dn} {te : TE} {ta : TA} {ds es : List PyData}
theorem ei_tup (h : EvE K s H te (.im (.tuple ds))) : EvI K s H (iTup K te) ds := fun H1 x1 R k =>
  h H1 x1 _ fun v H2 x2 rv => by
    obtain ⟨a, xs, e1, e2, e3⟩ := im_tup rv
    refine ⟨a, e1, ⟨xs, e2⟩, k _ H2 x2 fun H3 x3 i => ⟨fun hi => ?_, fun hi => ?_⟩⟩
    · have q := sqT_tk (tk_of x3) e2
      have hx : i < xs.length := by rw [imAll_len e3]; exact hi
      refine ⟨⟨xs, xs[i], q, List.getElem?_eq_getElem hx⟩, ?_⟩
      rintro y H4 ⟨z1, z2⟩
      subst z1
      obtain ⟨d, g1, g2⟩ := imAll_get' e3 (z2 xs q)
      exact ⟨Same.refl _, d, g1, g2.mono (tk_of x3)⟩
    · exact ⟨xs, sqT_tk (tk_of x3) e2, by rw [imAll_len e3]; exact hi⟩
theorem ei_list {a : Addr} {xs : List V} (hl : SqL K H a xs) (hs : ImAll K H xs ds) (h : EvE K s H te (.rf a)) : EvI K s H (iList K te) ds := fun H1 x1 R k =>
  h H1 x1 _ fun v H2 x2 rv => by
    refine ⟨a, rv, ⟨xs, (x1.trans x2).seq hl⟩, k _ H2 x2 fun H3 x3 i => ?_⟩
    have x03 := (x1.trans x2).trans x3
    refine ⟨fun hi => ?_, fun hi => ⟨xs, x03.seq hl, by rw [imAll_len hs]; exact hi⟩⟩
    have hx : i < xs.length := by rw [imAll_len hs]; exact hi
    refine ⟨⟨xs, xs[i], x03.seq hl, List.getElem?_eq_getElem hx⟩, ?_⟩
    rintro y H4 ⟨z1, z2⟩
    subst z1
    obtain ⟨d, g1, g2⟩ := imAll_get' hs (z2 xs (x03.seq hl))
    exact ⟨Same.refl _, d, g1, g2.mono (tk_of x03)⟩
theorem ei_range {n : Int} (h : EvA K s H ta [.im (.int n)]) (h1 : 0 ≤ n) (h2 : n < 2 ^ 62) : EvI K s H (iRng1 ta) ((List.range n.toNat).map fun i => .int (i : Nat)) := fun H1 x1 R k =>
  h H1 x1 _ fun vs H2 x2 rs => by
    obtain ⟨v, e1, r1⟩ := enAll1 rs
    refine ⟨n, by rw [e1, im_int r1], by omega, h2, k _ H2 x2 fun H3 x3 i => ?_⟩
    rw [List.length_map, List.length_range]
    refine ⟨fun hi => ⟨hi, ?_⟩, fun hi => hi⟩
    rintro y H4 ⟨z1, z2⟩
    subst z1
    refine ⟨Same.refl _, .int (i : Nat), ?_, ?_⟩
    · rw [List.getElem?_map, List.getElem?_range hi]
      rfl
    · rw [z2, Int.zero_add]
      exact .int _
/-- enumerate of a list of data -/
def enumD (ds : List PyData) : List PyData := ds.mapIdx fun i d => .tuple [.int (i : Nat), d]
theorem ei_enum {a : Addr} {xs : List V} (hl : SqL K H a xs) (hs : ImAll K H xs ds) (h : EvE K s H te (.rf a)) : EvI K s H (iEnum K (tCons te tNil)) (enumD ds) := fun H1 x1 R k =>
  h H1 x1 _ fun v H2 x2 rv => by
    refine ⟨a, xs, by rw [show v = .ref a from rv], (x1.trans x2).seq hl, k _ H2 x2 fun H3 x3 i => ?_⟩
    have x03 := (x1.trans x2).trans x3
    have q := x03.seq hl
    unfold enumD
    rw [List.length_mapIdx]
    refine ⟨fun hi => ?_, fun hi => ?_⟩
    · have hx : i < xs.length := by rw [imAll_len hs]; exact hi
      refine ⟨⟨xs, xs[i], q, List.getElem?_eq_getElem hx⟩, ?_⟩
      rintro y H4 ⟨T, x, z1, z2, z3, z4⟩
      subst z3
      obtain ⟨d, g1, g2⟩ := imAll_get' hs (z4 xs q)
      refine ⟨same_new z2, .tuple [.int (i : Nat), d], by rw [List.getElem?_mapIdx, g1]; rfl, ?_⟩
      rw [z1]
      exact .tup (SqT.of upd_same) (.cons (.int _) (.cons (g2.mono (tk_of (x03.trans (same_new z2)))) .nil))
    · exact ⟨xs, q, by rw [imAll_len hs]; exact hi⟩
/-- zip of two tuples -/
theorem ei_zipT {tb : TE} (h1 : EvE K s H te (.im (.tuple ds))) (h2 : EvE K s H tb (.im (.tuple es))) : EvI K s H (RZ.iZipA K (tCons te (tCons tb tNil))) (List.zipWith (fun a b => .tuple [a, b]) ds es) := fun H1 x1 R k =>
  h1 H1 x1 _ fun v H2 x2 rv => h2 H2 (x1.trans x2) _ fun w H3 x3 rw' => by
    obtain ⟨a, xs, a1, a2, a3⟩ := im_tup (rv.mono (tk_of x3))
    obtain ⟨b, ys, b1, b2, b3⟩ := im_tup rw'
    refine ⟨a, b, xs, ys, by rw [a1, b1], Or.inr ⟨a2, b2, k _ H3 (x2.trans x3) fun H4 x4 i => ?_⟩⟩
    have qa := sqT_tk (tk_of x4) a2
    have qb := sqT_tk (tk_of x4) b2
    rw [List.length_zipWith]
    have l1 := imAll_len a3
    have l2 := imAll_len b3
    refine ⟨fun hi => ?_, fun hi => ⟨xs, ys, qa, qb, by omega⟩⟩
    have i1 : i < xs.length := by omega
    have i2 : i < ys.length := by omega
    refine ⟨⟨xs, ys, xs[i], ys[i], qa, qb, List.getElem?_eq_getElem i1, List.getElem?_eq_getElem i2⟩, ?_⟩
    rintro y H5 ⟨T, x, y', z1, z2, z3, z4, z5⟩
    subst z3
    obtain ⟨d, g1, g2⟩ := imAll_get' a3 (z4 xs qa)
    obtain ⟨e, g3, g4⟩ := imAll_get' b3 (z5 ys qb)
    refine ⟨same_new z2, .tuple [d, e], by rw [List.getElem?_zipWith, g1, g3], ?_⟩
    rw [z1]
    have t : Tk H3 (upd H4 T (.tup [x, y'])) := tk_of (x4.trans (same_new z2))
    exact .tup (SqT.of upd_same) (.cons (g2.mono t) (.cons (g4.mono t) .nil))
end

/-! ### comprehensions -/
theorem wipe_get {s : L2.St} : ∀ {vs : List Nat} {i : Nat}, (wipe s vs)[i]? = if i ∈ vs ∧ i < s.length then some none else s[i]?
  | [], i => by simp [wipe]
  | v :: vs, i => by
    unfold wipe
    rw [List.getElem?_set, wipe_length]
    by_cases hv : v = i
    · subst hv
      by_cases hl : v < s.length
      · simp [hl]
      · simp [hl]
    · rw [if_neg hv, wipe_get]
      have : i ∈ v :: vs ↔ i ∈ vs := by simp [Ne.symm hv]
      simp only [this]
theorem wipe_set {s s' : L2.St} {vs : List Nat} (hl : s'.length = s.length) (h : ∀ i, i ∉ vs → s'[i]? = (wipe s vs)[i]?) : wipe s' vs = wipe s vs := by
  refine List.ext_getElem? fun i => ?_
  rw [wipe_get, wipe_get, hl]
  split
  · rfl
  · rename_i hc
    by_cases hi : i ∈ vs
    · have hl2 : ¬ i < s.length := fun z => hc ⟨hi, z⟩
      rw [List.getElem?_eq_none (by omega), List.getElem?_eq_none (by omega)]
    · rw [h i hi, wipe_get, if_neg fun z => hi z.1]
section
variable {K : Fg} {s : L2.St} {H : Hp} {c : Dn} {te : TE} {wi : TI} {g : TG} {tt : TT} {vs : List Nat} {ds : List PyData}
/-- the items that are kept, what they become -/
theorem el_lc (f : PyData → Option PyData) (hi : EvI K s H wi ds) (hz : ds.length < sizeLine)
    (turn : ∀ d, d ∈ ds → ∀ H3 x, Same H H3 → Im K H3 x d → ∀ (Qy : VK) (Qn : Hp → Prop), (∀ y H4 d', f d = some d' → Same H3 H4 → Im K H4 y d' → Qy y H4) → (f d = none → ∀ H4, Same H3 H4 → Qn H4) →
      g x (wipe s vs) H3 fun s2 H5 => wipe s2 vs = wipe s vs ∧ tt s2 H5 fun b H6 => if b = true then te s2 H6 Qy else Qn H6) :
    EvL K s H (tLc wi g tt te vs) (ds.filterMap f) := fun H1 x1 Q q =>
  hi H1 x1 _ fun J H2 x2 gv D hD => by
    refine ⟨fun i m H' => m = ds.length - i ∧ i ≤ ds.length ∧ Same H2 H' ∧ ∃ acc, H' D = some (.lst acc) ∧ acc.length ≤ i ∧ ImAll K H' acc ((ds.take i).filterMap f), ⟨ds.length, rfl, Nat.zero_le _, same_new hD, [], upd_same, Nat.le_refl _, ?_⟩, ?_⟩
    · rw [List.take_zero]
      exact .nil
    · rintro i m H' ⟨rfl, hle, x3, acc, hacc, hlen, him⟩
      by_cases hlt : i < ds.length
      · obtain ⟨g1, g2⟩ := (gv H' x3 i).1 hlt
        refine Or.inr ⟨g1, fun H'' => i + 1 ≤ ds.length ∧ Same H2 H'' ∧ ∃ acc, H'' D = some (.lst acc) ∧ acc.length ≤ i + 1 ∧ ImAll K H'' acc ((ds.take (i + 1)).filterMap f), ?_, ?_⟩
        · rintro H'' ⟨a1, a2, a3⟩
          exact ⟨ds.length - (i + 1), by omega, rfl, a1, a2, a3⟩
        · intro x H4 hy
          obtain ⟨x4, d, hd, rx⟩ := g2 x H4 hy
          have ed : ds.take (i + 1) = ds.take i ++ [d] := by rw [List.take_add_one, hd]; rfl
          refine turn d (List.mem_of_getElem? hd) H4 x ((x1.trans x2).trans (x3.trans x4)) rx _ _ ?_ ?_
          · intro y H5 d' hf x5 ry
            have x45 := x4.trans x5
            have hacc5 := x45 D _ hacc
            refine ⟨acc, hacc5, by omega, hlt, ?_, acc ++ [y], upd_same, by rw [List.length_append]; exact Nat.add_le_add_right hlen 1, ?_⟩
            · intro b o hb
              have hne : b ≠ D := ne_of_none hb hD
              rw [upd_ne hne]
              exact x45 b o (x3 b o hb)
            · rw [ed, List.filterMap_append]
              have t1 : Tk H5 (upd H5 D (.lst (acc ++ [y]))) := tk_lst hacc5
              refine imAll_app (him.mono ((tk_of x45).trans t1)) ?_
              rw [List.filterMap_cons, hf]
              exact .cons (ry.mono t1) .nil
          · intro hf H5 x5
            have x45 := x4.trans x5
            refine ⟨hlt, x3.trans x45, acc, x45 D _ hacc, by omega, ?_⟩
            rw [ed, List.filterMap_append, List.filterMap_cons, hf, List.filterMap_nil, List.append_nil]
            exact him.mono (tk_of x45)
      · refine Or.inl ⟨(gv H' x3 i).2 (by omega), ?_⟩
        rw [show ds.take i = ds from List.take_of_length_le (by omega)] at him
        exact q D acc H' (x2.trans x3) (x2.free hD) hacc him
/-- one name, no test -/
theorem el_lc1 {i : Nat} (f : PyData → PyData) (env : EnvD K H s c) (hi : EvI K s H wi ds) (hz : ds.length < sizeLine)
    (elt : ∀ d, d ∈ ds → ∀ s2 H3, Same H H3 → EnvD K H3 s2 ((c.set i none).set i (some (.im d))) → EvE K s2 H3 te (.im (f d))) : EvL K s H (tLc wi (gName i) tYes te [i]) (ds.map f) := by
  have z := el_lc (g := gName i) (tt := tYes) (te := te) (vs := [i]) (fun d => some (f d)) hi hz fun d hd H3 x x3 rx Qy Qn ky kn => ?_
  · have e : ds.filterMap (fun d => some (f d)) = ds.map f := by rw [← List.filterMap_eq_map] <;> rfl
    rw [e] at z
    exact z
  · refine ⟨wipe_set (by rw [List.length_set, wipe_length]) fun j hj => ?_, ?_⟩
    · rw [List.getElem?_set_ne fun e => hj (by simp [e])]
    · exact elt d hd _ H3 x3 (((env.mono (tk_of x3)).wipe1 i).set (e := .im d) rx i) H3 (Same.refl _) _ fun y H4 x4 ry => ky y H4 (f d) rfl x4 ry
/-- one name, a test -/
theorem el_lc1t {i : Nat} (p : PyData → Bool) (f : PyData → PyData) (env : EnvD K H s c) (hi : EvI K s H wi ds) (hz : ds.length < sizeLine)
    (test : ∀ d, d ∈ ds → ∀ s2 H3, Same H H3 → EnvD K H3 s2 ((c.set i none).set i (some (.im d))) → EvT K s2 H3 tt (p d))
    (elt : ∀ d, d ∈ ds → p d = true → ∀ s2 H3, Same H H3 → EnvD K H3 s2 ((c.set i none).set i (some (.im d))) → EvE K s2 H3 te (.im (f d))) : EvL K s H (tLc wi (gName i) tt te [i]) ((ds.filter p).map f) := by
  have z := el_lc (g := gName i) (tt := tt) (te := te) (vs := [i]) (fun d => if p d = true then some (f d) else none) hi hz fun d hd H3 x x3 rx Qy Qn ky kn => ?_
  · have e : ds.filterMap (fun d => if p d = true then some (f d) else none) = (ds.filter p).map f := by
      clear z hi hz test elt
      induction ds with
      | nil => rfl
      | cons d ds ih =>
        rw [List.filterMap_cons, List.filter_cons]
        cases hp : p d with
        | true => simp [hp, ih]
        | false => simp [hp, ih]
    rw [e] at z
    exact z
  · have env2 := ((env.mono (tk_of x3)).wipe1 i).set (e := .im d) rx i
    refine ⟨wipe_set (by rw [List.length_set, wipe_length]) fun j hj => ?_, ?_⟩
    · rw [List.getElem?_set_ne fun e => hj (by simp [e])]
    · refine test d hd _ H3 x3 env2 H3 (Same.refl _) _ fun H4 x4 => ?_
      cases hp : p d with
      | true =>
        refine iteT ?_
        exact elt d hd hp _ H4 (x3.trans x4) (env2.mono (tk_of x4)) H4 (Same.refl _) _ fun y H5 x5 ry => ky y H5 (f d) (by simp [hp]) (x4.trans x5) ry
      | false => exact iteF (kn (by simp [hp]) H4 x4)
theorem gNames_len {Q : L2.St → Hp → Prop} : ∀ {is : List Nat} {xs : List V} {s : L2.St}, gNames is xs s H Q → is.length = xs.length
  | [], _, _, h => by obtain ⟨e, _⟩ := h; rw [e] <;> rfl
  | i :: is, _, _, h => by
    obtain ⟨v, r, e, h⟩ := h
    rw [e, List.length_cons, List.length_cons, gNames_len h]
def setsV : L2.St → List Nat → List V → L2.St
  | s, i :: is, v :: vs => setsV (s.set i (some v)) is vs
  | s, _, _ => s
theorem gNames_to {Q : L2.St → Hp → Prop} : ∀ (is : List Nat) (xs : List V) (s : L2.St), is.length = xs.length → Q (setsV s is xs) H → gNames is xs s H Q
  | [], [], s, _, q => ⟨rfl, q⟩
  | [], _ :: _, _, h, _ => by cases h
  | _ :: _, [], _, h, _ => by cases h
  | i :: is, v :: vs, s, h, q => ⟨v, vs, rfl, gNames_to is vs _ (Nat.succ.inj h) q⟩
theorem setsV_len : ∀ (is : List Nat) (xs : List V) (s : L2.St), (setsV s is xs).length = s.length
  | [], _, _ => rfl
  | _ :: _, [], _ => rfl
  | i :: is, v :: vs, s => by
    unfold setsV
    rw [setsV_len, List.length_set]
theorem setsV_get : ∀ (is : List Nat) (xs : List V) (s : L2.St) (j : Nat), j ∉ is → (setsV s is xs)[j]? = s[j]?
  | [], _, _, _, _ => rfl
  | _ :: _, [], _, _, _ => rfl
  | i :: is, v :: vs, s, j, h => by
    unfold setsV
    rw [setsV_get is vs _ j fun z => h (List.mem_cons_of_mem _ z), List.getElem?_set_ne fun e => h (by simp [e])]
theorem setsV_env : ∀ (is : List Nat) (xs : List V) (ds : List PyData) (s : L2.St) (c : Dn), is.length = ds.length → ImAll K H xs ds → EnvD K H s c → EnvD K H (setsV s is xs) (unpackD c is ds)
  | [], _, [], s, c, _, .nil, env => env
  | [], _, _ :: _, _, _, h, _, _ => by cases h
  | _ :: _, _, [], _, _, h, _, _ => by cases h
  | i :: is, _, d :: ds, s, c, h, .cons r t, env => setsV_env is _ ds _ _ (Nat.succ.inj h) t (env.set (e := .im d) r i)
/-- a tuple of names, a test or none -/
theorem el_lcN {is : List Nat} {n : Nat} (un : PyData → List PyData) (p : PyData → Bool) (f : PyData → PyData) (env : EnvD K H s c) (hi : EvI K s H wi ds) (hz : ds.length < sizeLine) (hn : is.length = n)
    (hun : ∀ d, d ∈ ds → d = .tuple (un d) ∧ (un d).length = n)
    (test : ∀ d, d ∈ ds → ∀ s2 H3, Same H H3 → EnvD K H3 s2 (unpackD (wipeD c is) is (un d)) → EvT K s2 H3 tt (p d))
    (elt : ∀ d, d ∈ ds → p d = true → ∀ s2 H3, Same H H3 → EnvD K H3 s2 (unpackD (wipeD c is) is (un d)) → EvE K s2 H3 te (.im (f d))) : EvL K s H (tLc wi (gTup K n (gNames is)) tt te is) ((ds.filter p).map f) := by
  have z := el_lc (g := gTup K n (gNames is)) (tt := tt) (te := te) (vs := is) (fun d => if p d = true then some (f d) else none) hi hz fun d hd H3 x x3 rx Qy Qn ky kn => ?_
  · have e : ds.filterMap (fun d => if p d = true then some (f d) else none) = (ds.filter p).map f := by
      clear z hi hz test elt hun
      induction ds with
      | nil => rfl
      | cons d ds ih =>
        rw [List.filterMap_cons, List.filter_cons]
        cases hp : p d with
        | true => simp [hp, ih]
        | false => simp [hp, ih]
    rw [e] at z
    exact z
  · obtain ⟨u1, u2⟩ := hun d hd
    rw [u1] at rx
    obtain ⟨a, xs, e1, e2, e3⟩ := im_tup rx
    have lx : xs.length = n := by rw [imAll_len e3]; exact u2
    refine ⟨a, xs, e1, e2, lx, gNames_to is xs _ (by omega) ?_⟩
    have env2 := setsV_env is xs (un d) _ _ (by omega) e3 ((env.mono (tk_of x3)).wipe is)
    refine ⟨wipe_set (by rw [setsV_len, wipe_length]) fun j hj => setsV_get is xs _ j hj, ?_⟩
    refine test d hd _ H3 x3 env2 H3 (Same.refl _) _ fun H4 x4 => ?_
    cases hp : p d with
    | true =>
      refine iteT ?_
      exact elt d hd hp _ H4 (x3.trans x4) (env2.mono (tk_of x4)) H4 (Same.refl _) _ fun y H5 x5 ry => ky y H5 (f d) (by simp [hp]) (x4.trans x5) ry
    | false => exact iteF (kn (by simp [hp]) H4 x4)
theorem et_yes0 : EvT K s H tYes true := fun H1 _ Q q => q H1 (Same.refl _)
/-- a tuple of names, no test -/
theorem el_lcM {is : List Nat} {n : Nat} (un : PyData → List PyData) (f : PyData → PyData) (env : EnvD K H s c) (hi : EvI K s H wi ds) (hz : ds.length < sizeLine) (hn : is.length = n)
    (hun : ∀ d, d ∈ ds → d = .tuple (un d) ∧ (un d).length = n)
    (elt : ∀ d, d ∈ ds → ∀ s2 H3, Same H H3 → EnvD K H3 s2 (unpackD (wipeD c is) is (un d)) → EvE K s2 H3 te (.im (f d))) : EvL K s H (tLc wi (gTup K n (gNames is)) tYes te is) (ds.map f) := by
  have z := el_lcN (tt := tYes) un (fun _ => true) f env hi hz hn hun (fun _ _ _ _ _ _ => et_yes0) (fun d hd _ => elt d hd)
  have e : ds.filter (fun _ => true) = ds := List.filter_eq_self.mpr fun _ _ => rfl
  rw [e] at z
  exact z
def unT : PyData → List PyData
  | .tuple l => l
  | _ => []
theorem et_yes : EvT K s H tYes true := fun H1 _ Q q => q H1 (Same.refl _)
end

/-! ### all, sum, tuple of a new list; count -/
def rAll1 (K : Fg) : List V → Hp → VK → Prop := fun vs H Q => ∃ (a : Addr) (bs : List Bool), vs = [V.ref a] ∧ SqL K H a (bs.map V.bl) ∧ Q (.bl (bs.all id)) H
def rSum1 (K : Fg) : List V → Hp → VK → Prop := fun vs H Q => ∃ (a : Addr) (ns : List Int), vs = [V.ref a] ∧ SqL K H a (ns.map V.int) ∧ Q (.int ns.sum) H
def rTupOf (K : Fg) : List V → Hp → VK → Prop := fun xs H Q => ∃ p ys, xs = [.ref p] ∧ ((SqL K H p ys ∧ ∀ l, H l = none → Q (.ref l) (upd H l (.tup ys))) ∨ (SqT K H p ys ∧ Q (.ref p) H))
theorem c_all {X : Cx} (hc : X.calm = true) : CallR X (.builtin "all") (rAll1 X.K) := cr_all hc
theorem c_sum {X : Cx} (hc : X.calm = true) : CallR X (.builtin "sum") (rSum1 X.K) := cr_sum hc
theorem c_tup {X : Cx} : CallR X (.type "tuple") (rTupOf X.K) := call_tuple_of
section
variable {K : Fg} {s : L2.St} {H : Hp} {te : TE} {ds : List PyData} {a : Addr} {xs : List V}
theorem ev_allL {bs : List Bool} {b : Bool} (h : EvL K s H te (bs.map .bool)) (hb : bs.all id = b) : EvE K s H (tCB (rAll1 K) (tCons te tNil)) (.im (.bool b)) := fun H1 x1 Q q =>
  h H1 x1 _ fun p xs H2 x2 _ hp r => by
    have e := imAll_bls r
    subst e
    refine ⟨p, bs, rfl, SqL.of hp, ?_⟩
    rw [hb]
    exact q _ H2 x2 (.bl _)
theorem ev_sumL {ns : List Int} (h : EvL K s H te (ns.map .int)) : EvE K s H (tCB (rSum1 K) (tCons te tNil)) (.im (.int ns.sum)) := fun H1 x1 Q q =>
  h H1 x1 _ fun p xs H2 x2 _ hp r => by
    have e := imAll_ints r
    subst e
    exact ⟨p, ns, rfl, SqL.of hp, q _ H2 x2 (.int _)⟩
theorem ev_sumR {ns : List Int} (hl : SqL K H a (ns.map V.int)) (h : EvE K s H te (.rf a)) : EvE K s H (tCB (rSum1 K) (tCons te tNil)) (.im (.int ns.sum)) := fun H1 x1 Q q =>
  h H1 x1 _ fun v H2 x2 r => ⟨a, ns, by rw [show v = .ref a from r], (x1.trans x2).seq hl, q _ H2 x2 (.int _)⟩
theorem ev_tupL (h : EvL K s H te ds) : EvE K s H (tCB (rTupOf K) (tCons te tNil)) (.im (.tuple ds)) := fun H1 x1 Q q =>
  h H1 x1 _ fun p xs H2 x2 _ hp r => ⟨p, xs, rfl, Or.inl ⟨SqL.of hp, fun l hl => q _ _ (x2.trans (same_new hl)) (.tup (SqT.of upd_same) (r.mono (tk_of (same_new hl))))⟩⟩
theorem ev_tupR (hl : SqL K H a xs) (hs : ImAll K H xs ds) (h : EvE K s H te (.rf a)) : EvE K s H (tCB (rTupOf K) (tCons te tNil)) (.im (.tuple ds)) := fun H1 x1 Q q =>
  h H1 x1 _ fun v H2 x2 r => ⟨a, xs, by rw [show v = .ref a from r], Or.inl ⟨(x1.trans x2).seq hl, fun l hl' => q _ _ (x2.trans (same_new hl')) (.tup (SqT.of upd_same) (hs.mono (tk_of ((x1.trans x2).trans (same_new hl')))))⟩⟩
end

/-! ### isinstance of data -/
def tyOf : PyData → String
  | .none => "NoneType"
  | .bool _ => "bool"
  | .int _ => "int"
  | .str _ => "str"
  | .tuple _ => "tuple"
  | .list _ => "list"
  | .dict _ => "tuple"
theorem ty_im {K : Fg} {H : Hp} : ∀ {v : V} {d : PyData}, Im K H v d → TyX K H v (.type (tyOf d))
  | _, _, .non => .base .non
  | _, _, .bl b => .base (.bl b)
  | _, _, .int i => .base (.int i)
  | _, _, .str x => .base (.str x)
  | _, _, .tup h _ => by
    rcases h with (h | ⟨o, h⟩) | ⟨o, its, n, h1, h2, _⟩
    · exact .base (.tup h)
    · exact .fTuple h
    · exact .kTuple h1 h2
  | _, _, .ptp h _ _ => .fTuple h
section
variable {K : Fg} {s : L2.St} {H : Hp} {ta : TE} {d : PyData} {T : String} {b : Bool}
theorem ev_isi (ha : EvE K s H ta (.im d)) (hc : kitB (tyOf d) T = some b) : EvE K s H (tCB (rIsi K) (tCons ta (tCons (tC (.ty T)) tNil))) (.im (.bool b)) := fun H1 x1 Q q =>
  ha H1 x1 _ fun v H2 x2 rv => ⟨v, .ty T, .type (tyOf d), .type T, b, rfl, .ty T, ty_im rv, kit_ty hc, q _ H2 x2 (.bl b)⟩
end
end CB

/-! ## KL3 -/
set_option Elab.async false
set_option linter.all false
set_option maxRecDepth 100000
set_option maxHeartbeats 2000000
/-! Statements with loops; defs by name. -/
namespace CB
open PySem PySem.Spec L2

/-! ### loops -/
section
variable {K : Fg} {s : L2.St} {H : Hp} {c : Dn} {te ta' : TE} {ta : TA} {en : En} {D : Ends} {g : TG} {tb : TS} {ds : List PyData}
/-- over a tuple -/
theorem st_forT (h : EvE K s H te (.im (.tuple ds))) (Pv : Nat → L2.St → Hp → Prop) (h0 : ∀ H1, Same H H1 → Pv 0 s H1)
    (hs : ∀ i d x s' H', ds[i]? = some d → Im K H' x d → Pv i s' H' → g x s' H' fun s2 H2 => tb { D with nx := fun s3 H3 => Tk H' H3 ∧ Pv (i + 1) s3 H3, ct := fun s3 H3 => Tk H' H3 ∧ Pv (i + 1) s3 H3, bk := D.nx } s2 H2)
    (hd : ∀ s' H', Pv ds.length s' H' → D.nx s' H') : tFor (iTup K te) g tb D s H := h H (Same.refl _) _ fun v H1 x1 rv => by
  obtain ⟨a, xs, e1, e2, e3⟩ := im_tup rv
  have el := imAll_len e3
  refine ⟨a, e1, ⟨xs, e2⟩, fun i m s' H' => m = ds.length - i ∧ i ≤ ds.length ∧ Tk H1 H' ∧ Pv i s' H', ⟨ds.length, rfl, Nat.zero_le _, Tk.refl _, h0 H1 x1⟩, ?_⟩
  rintro i m s' H' ⟨rfl, hle, tk, p⟩
  have q := sqT_tk tk e2
  by_cases hlt : i < ds.length
  · have hx : i < xs.length := by omega
    refine Or.inr ⟨⟨xs, xs[i], q, List.getElem?_eq_getElem hx⟩, fun s3 H3 => Tk H' H3 ∧ Pv (i + 1) s3 H3, ?_, ?_⟩
    · rintro s3 H3 ⟨a1, a2⟩
      exact ⟨ds.length - (i + 1), by omega, rfl, hlt, tk.trans a1, a2⟩
    · rintro x H4 ⟨z1, z2⟩
      subst z1
      obtain ⟨d, g1, g2⟩ := imAll_get' e3 (z2 xs q)
      exact hs i d x s' _ g1 (g2.mono tk) p
  · have hi : i = ds.length := by omega
    subst hi
    exact Or.inl ⟨⟨xs, q, by omega⟩, hd s' H' p⟩
/-- over a list that stands still -/
theorem st_forL {a : Addr} {xs : List V} (h : EvE K s H te (.rf a)) (Pv : Nat → L2.St → Hp → Prop) (h0 : ∀ H1, Same H H1 → Pv 0 s H1) (hk : ∀ i s' H', Pv i s' H' → SqL K H' a xs)
    (hs : ∀ i x s' H', xs[i]? = some x → Pv i s' H' → g x s' H' fun s2 H2 => tb { D with nx := Pv (i + 1), ct := Pv (i + 1), bk := D.nx } s2 H2)
    (hd : ∀ s' H', Pv xs.length s' H' → D.nx s' H') : tFor (iList K te) g tb D s H := h H (Same.refl _) _ fun v H1 x1 rv => by
  have p0 := h0 H1 x1
  refine ⟨a, rv, ⟨xs, hk 0 s H1 p0⟩, for_list (xs := xs) Pv p0 (fun i s' H' _ p => hk i s' H' p) (fun i x s' H' e p => hs i x s' H' e p) hd⟩
/-- over a range from 0 -/
theorem st_forR {n : Int} (h : EvA K s H ta [.im (.int n)]) (h1 : 0 ≤ n) (h2 : n < 2 ^ 62) (Pv : Nat → L2.St → Hp → Prop) (h0 : ∀ H1, Same H H1 → Pv 0 s H1)
    (hs : ∀ (i : Nat) s' H', i < n.toNat → Pv i s' H' → g (.int (i : Nat)) s' H' fun s2 H2 => tb { D with nx := Pv (i + 1), ct := Pv (i + 1), bk := D.nx } s2 H2)
    (hd : ∀ s' H', Pv n.toNat s' H' → D.nx s' H') : tFor (iRng1 ta) g tb D s H := h H (Same.refl _) _ fun vs H1 x1 rs => by
  obtain ⟨v, e1, r1⟩ := enAll1 rs
  refine ⟨n, by rw [e1, im_int r1], by omega, h2, for_range (lo := 0) (n := n.toNat) Pv (h0 H1 x1) (fun i s' H' hi p => ?_) hd⟩
  have z := hs i s' H' hi p
  rw [show ((0 : Int) + (i : Nat)) = ((i : Nat) : Int) from Int.zero_add _]
  exact z
/-- over enumerate of a list that stands still -/
theorem st_forE {a : Addr} {xs : List V} (h : EvE K s H te (.rf a)) (Pv : Nat → L2.St → Hp → Prop) (h0 : ∀ H1, Same H H1 → Pv 0 s H1) (hk : ∀ i s' H', Pv i s' H' → SqL K H' a xs)
    (hs : ∀ (i : Nat) x s' H' T, xs[i]? = some x → Pv i s' H' → H' T = none → g (.ref T) s' (upd H' T (.tup [.int (i : Nat), x])) fun s2 H2 => tb { D with nx := Pv (i + 1), ct := Pv (i + 1), bk := D.nx } s2 H2)
    (hd : ∀ s' H', Pv xs.length s' H' → D.nx s' H') : tFor (iEnum K (tCons te tNil)) g tb D s H := h H (Same.refl _) _ fun v H1 x1 rv => by
  have p0 := h0 H1 x1
  refine ⟨a, xs, by rw [show v = .ref a from rv], hk 0 s H1 p0, fun i m s' H' => m = xs.length - i ∧ i ≤ xs.length ∧ Pv i s' H', ⟨xs.length, rfl, Nat.zero_le _, p0⟩, ?_⟩
  rintro i m s' H' ⟨rfl, hle, p⟩
  have q := hk i s' H' p
  by_cases hlt : i < xs.length
  · refine Or.inr ⟨⟨xs, xs[i], q, List.getElem?_eq_getElem hlt⟩, Pv (i + 1), fun s3 H3 p3 => ⟨xs.length - (i + 1), by omega, rfl, hlt, p3⟩, ?_⟩
    rintro y H4 ⟨T, x, z1, z2, z3, z4⟩
    subst z1 z3
    exact hs i x s' H' T (z4 xs q) p z2
  · have hi : i = xs.length := by omega
    subst hi
    exact Or.inl ⟨⟨xs, q, Nat.le_refl _⟩, hd s' H' p⟩
/-- while, by an invariant and a measure -/
theorem st_while {tt : TT} (Pv : L2.St → Hp → Prop) (mu : L2.St → Hp → Nat) (test : L2.St → Hp → Bool) (h0 : Pv s H) (ht : ∀ s' H', Pv s' H' → EvT K s' H' tt (test s' H'))
    (hst : ∀ s' H' H2, Pv s' H' → Same H' H2 → Pv s' H2 ∧ mu s' H2 ≤ mu s' H')
    (hs : ∀ s' H' H0, Pv s' H' → Pv s' H0 → mu s' H' ≤ mu s' H0 → test s' H0 = true → Same H0 H' → tb { D with nx := fun s3 H3 => Pv s3 H3 ∧ mu s3 H3 < mu s' H0, ct := fun s3 H3 => Pv s3 H3 ∧ mu s3 H3 < mu s' H0, bk := D.nx } s' H')
    (hd : ∀ s' H' H0, Pv s' H' → Pv s' H0 → test s' H0 = false → Same H0 H' → D.nx s' H') : tWhile tt tb D s H := by
  refine ⟨fun m s' H' => m = mu s' H' ∧ Pv s' H', ⟨_, rfl, h0⟩, ?_⟩
  rintro m s' H' ⟨rfl, p⟩
  refine ht s' H' p H' (Same.refl _) _ fun H2 x2 => ?_
  obtain ⟨p2, l2⟩ := hst s' H' H2 p x2
  cases e : test s' H' with
  | true =>
    refine iteT ⟨fun s3 H3 => Pv s3 H3 ∧ mu s3 H3 < mu s' H', fun s3 H3 z => ⟨mu s3 H3, z.2, rfl, z.1⟩, ?_⟩
    exact hs s' H2 H' p2 p l2 e x2
  | false => exact iteF (hd s' H2 H' p2 p e x2)
/-- xs.append(e) -/
theorem st_app {l : Addr} {xs : List V} (hl : H l = some (.lst xs)) (ha : EvE K s H ta' (.rf l)) (h : EvE K s H te en) (hz : xs.length < sizeLine)
    (k : ∀ v H1, Same H H1 → EnOk K H1 en v → D.nx s (upd H1 l (.lst (xs ++ [v])))) : tDrop (tBM K "list" rAppend ta' (tCons te tNil)) D s H :=
  ha H (Same.refl _) _ fun v H1 x1 r => by
    obtain rfl : v = .ref l := r
    refine ⟨Or.inl ⟨rfl, xs, SqL.of (x1 l _ hl)⟩, ?_⟩
    refine h H1 x1 _ fun w H2 x2 rw' => ?_
    exact ⟨l, xs, w, rfl, rfl, x2 l _ (x1 l _ hl), hz, k w H2 (x1.trans x2) rw'⟩
/-- two, three at once -/
theorem st_par {i j : Nat} {e1 e2 : En} (env : EnvD K H s c) (h : EvA K s H ta [e1, e2]) (k : ∀ s' H1, Same H H1 → EnvD K H1 s' ((c.set i (some e1)).set j (some e2)) → D.nx s' H1) : tPar i j ta D s H :=
  h H (Same.refl _) _ fun vs H1 x1 rs => by
    obtain ⟨v, w, e, r1, r2⟩ := enAll2 rs
    exact ⟨v, w, e, k _ H1 x1 (((env.mono (tk_of x1)).set r1 i).set r2 j)⟩
theorem st_par3 {i j l : Nat} {e1 e2 e3 : En} (env : EnvD K H s c) (h : EvA K s H ta [e1, e2, e3]) (k : ∀ s' H1, Same H H1 → EnvD K H1 s' (((c.set i (some e1)).set j (some e2)).set l (some e3)) → D.nx s' H1) : tPar3 i j l ta D s H :=
  h H (Same.refl _) _ fun vs H1 x1 rs => by
    obtain ⟨v, w, z, e, r1, r2, r3⟩ := enAll3 rs
    exact ⟨v, w, z, e, k _ H1 x1 ((((env.mono (tk_of x1)).set r1 i).set r2 j).set r3 l)⟩
end

/-! ### chains, negation -/
section
variable {K : Fg} {s : L2.St} {H : Hp} {ta tb tc : TE} {i j k : Int}
theorem ev_chain (ha : EvE K s H ta (.im (.int i))) (hb : EvE K s H tb (.im (.int j))) (hc : EvE K s H tc (.im (.int k))) :
    EvE K s H (tChain (rI0 fun i j => .bl (decide (i ≤ j))) (rI0 fun i j => .bl (decide (i ≤ j))) ta tb tc) (.im (.bool (decide (i ≤ j) && decide (j ≤ k)))) := fun H1 x1 Q q =>
  ha H1 x1 _ fun x H2 x2 rx => hb H2 (x1.trans x2) _ fun y H3 x3 ry => by
    refine ⟨i, j, im_int rx, im_int ry, decide (i ≤ j), rfl, ?_⟩
    cases e : decide (i ≤ j) with
    | false => exact iteF (q _ H3 (x2.trans x3) (by rw [e]; exact .bl _))
    | true =>
      refine iteT (hc H3 ((x1.trans x2).trans x3) _ fun z H4 x4 rz => ?_)
      exact ⟨j, k, im_int ry, im_int rz, q _ H4 ((x2.trans x3).trans x4) (by rw [e]; exact .bl _)⟩
theorem ev_neg (ha : EvE K s H ta (.im (.int i))) : EvE K s H (tUn (rU fun i => .int (-i)) ta) (.im (.int (-i))) := fun H1 x1 Q q =>
  ha H1 x1 _ fun x H2 x2 rx => ⟨i, im_int rx, q _ H2 x2 (.int _)⟩
end

/-! ### the rules, the written part named -/
section
variable {X : Cx} (K : Fg) (h : X.K = K)
include h
theorem ix_tupK : IxR X (rIxT K) := by subst h; exact ix_tup
theorem ix_listK : IxR X (rIxL K) := by subst h; exact ix_list
theorem sl_tupK : SlR X (rSlA K) := by subst h; exact sl_tupA
theorem sl_listK : SlR X (rSlL K) := by subst h; exact sl_list
theorem op_catK : OpR X (binaryOp .Add) (rCatA K) := by subst h; exact op_catA
theorem op_mulK : OpR X (binaryOp .Mult) (rMulT K) := by subst h; exact op_mulT
theorem call_isiK : CallR X (.builtin "isinstance") (rIsi K) := by subst h; exact call_isi
theorem c_lenK : CallR X (.builtin "len") (rLen1 K) := by subst h; exact c_len
theorem c_allK (hc : X.calm = true) : CallR X (.builtin "all") (rAll1 K) := by subst h; exact c_all hc
theorem c_sumK (hc : X.calm = true) : CallR X (.builtin "sum") (rSum1 K) := by subst h; exact c_sum hc
theorem c_tupK : CallR X (.type "tuple") (rTupOf K) := by subst h; exact c_tup
theorem op_eqK (hu : X.A.units + 64 < cLine) : OpR X (compareOp .Eq) (rEqD K) := by subst h; exact op_eqD hu
theorem op_neK (hu : X.A.units + 64 < cLine) : OpR X (compareOp .NotEq) (rNeD K) := by subst h; exact op_neD hu
theorem op_inK : OpR X (compareOp .In) (rIn K false) := by subst h; exact op_in_seq
theorem op_notInK : OpR X (compareOp .NotIn) (rIn K true) := by subst h; exact op_notIn_seq
theorem pg_tupK {pos : Pos} {es : List Expr} {k : Nat} {t : TGs} {n : Nat} (hc : X.calm = true) (g : PGs X es t)
    (hn : (assignEach es X.env).length = n := by rfl) (hst : (assignEach es X.env).findIdx? (·.1) = none := by rfl) : PG X (.Tuple es k pos) (gTup K n t) := by subst h; exact pg_tup hc g hn hst
theorem pi_tupK {tg l : Expr} {tl : TE} (hl : PE X l tl) : PI X tg l (iTup K tl) := by subst h; exact pi_tup hl
theorem pi_listK {tg l : Expr} {tl : TE} (hl : PE X l tl) : PI X tg l (iList K tl) := by subst h; exact pi_list hl
theorem pi_enumK {e : Expr} {ta : TA} {p pos tpos : Pos} {elts : List Expr} {kk : Nat} (hg : Gl X "enumerate") (hm : X.mg "enumerate" = none) (ha : PA X [e] ta) (hs : starEach [e] X.env = [(false, eval e X.env)] := by rfl) :
    PI X (.Tuple elts kk tpos) (.Call (.Name "enumerate" p) [e] [] pos) (iEnum K ta) := by subst h; exact pi_enum hg hm ha hs
theorem pi_zipK {e e2 : Expr} {ta : TA} {p pos tpos : Pos} {elts : List Expr} {kk : Nat} (hg : Gl X "zip") (hm : X.mg "zip" = none) (ha : PA X [e, e2] ta)
    (hs : starEach [e, e2] X.env = (false, eval e X.env) :: starEach [e2] X.env := by rfl) (hpl : (backTo pos (starEach [e2] X.env)).any (·.1) = false := by rfl) : PI X (.Tuple elts kk tpos) (.Call (.Name "zip" p) [e, e2] [] pos) (RZ.iZipA K ta) := by subst h; exact RZ.pi_zipA hg hm ha hs hpl
theorem pe_ofK {e : Expr} (f : Fg → TE) (p : PE X e (f X.K)) : PE X e (f K) := by subst h; exact p
end

/-! ### the text -/
/-- the def of that name stands behind the top -/
def FnP (K : Fg) (mg : Str → Option Value) (x : Str) (st : Stmt) : Prop := ∃ f fd, mg x = some (.ref f) ∧ FunD K x x (defArgs st) (defBody st) (defScope st) [] [] f fd
/-- .. and keeps that promise -/
def Df (P : Program) (w : World) (K : Fg) (mg : Str → Option Value) (base : Heap) (k : Nat) (x : Str) (ps : List Str) (sp : Sp) : Prop :=
  ∃ f fd, mg x = some (.ref f) ∧ FnOk P w K mg base CX0 k f fd ps sp ∧ PySem.W.keepIn K (.ref f) = true ∧ Binds K fd ps []
section
variable {P : Program} {w : World} {K : Fg} {mg : Str → Option Value} {base : Heap} {k j : Nat} {x : Str} {st : Stmt} {N ps : List Str} {sp : Sp}
theorem Df.mono (d : Df P w K mg base j x ps sp) (h : j ≤ k) : Df P w K mg base k x ps sp := by
  obtain ⟨f, fd, a, b, c⟩ := d
  exact ⟨f, fd, a, b.mono h, c⟩
theorem df_of (F : FnP K mg x st) (S : FnScope N ps (defScope st)) (len : ∀ vs H Q E, sp vs H Q E → vs.length = ps.length)
    (hb : ∀ (kV doc pm : Value) (an : Option Addr) (cdv ct : Value) (us : List Value), us.length = ps.length → bindArgs (PySem.W.fnOf x x (defArgs st) (defBody st) (defScope st) .none kV doc pm an cdv ct) ⟨us, []⟩ = pure (ps.zip us))
    (hbody : ∀ (f : Addr) (cdv : Value) (A : Around) (outer : List Env) (s : Shared) (H : Hp) (vs : List V) (Q : VK) (E : XK), Room k (A.deeper (PyProof.Rows.envOfC x (defScope st) s.heap.objs.size f cdv)) → sp vs H Q E →
      ∃ t, PSs (cxOf CX0 P w K mg base N x (defScope st) f cdv A outer s H E).nox (defBody st) t ∧ t { nx := fun _ H' => Q .non H', rt := Q } (L2.start N vs) H) : Df P w K mg base (k + 1) x ps sp := by
  obtain ⟨f, fd, hm, F⟩ := F
  refine ⟨f, fd, hm, F.ok S len fun cdv A outer s H vs Q E hr h => ?_, F.kp, F.bindsN hb⟩
  obtain ⟨t, h1, h2⟩ := hbody f cdv A outer s H vs Q E hr h
  exact ⟨t, PSs.nox h1, h2⟩
end
section
variable {X : Cx} {k : Nat} {x : Str} {ps : List Str} {sp : Sp} {p pos : Pos} {e : Expr} {es : List Expr} {t : TA}
theorem pe_df (F : Df X.prog X.w X.K X.mg X.base k x ps sp) (hr : Room k X.A) (hg : Gl X x) (ha : PA X (e :: es) t) (hdb : (x == ("__debug__" : Str)) = false := by decide)
    (he : starEach (e :: es) X.env = (false, eval e X.env) :: starEach es X.env := by rfl) (hpl : (backTo pos (starEach es X.env)).any (·.1) = false := by rfl) :
    PE X (.Call (.Name x p) (e :: es) [] pos) (tCall sp [] E0 t) := by
  obtain ⟨f, fd, hm, G, kp, hb⟩ := F
  exact pe_call G hr hg hm kp hb .nil pass0 ha hdb he hpl
end
/-- promises about data -/
theorem spD_len {K : Fg} {R : List PyData → PyData → Prop} {n : Nat} (h : ∀ ds d, R ds d → ds.length = n) : ∀ vs H Q E, spD K R vs H Q E → vs.length = n := fun vs H Q E q => by
  obtain ⟨ds, d, a, b, _⟩ := q
  rw [imAll_len a]
  exact h ds d b
theorem imAll_en {K : Fg} {H : Hp} : ∀ {vs : List V} {ds : List PyData}, ImAll K H vs ds → EnAll K H (ds.map .im) vs
  | _, _, .nil => .nil
  | _, _, .cons a t => .cons a (imAll_en t)
theorem env_d {K : Fg} {H : Hp} {N : List Str} {vs : List V} {ds : List PyData} (h : ImAll K H vs ds) : EnvD K H (L2.start N vs) (ds.map (fun d => some (.im d)) ++ List.replicate (N.length - ds.length) none) := by
  have z := env_start (N := N) (imAll_en h)
  rw [List.map_map, List.length_map] at z
  exact z
/-- a whole number of the top -/
def GI (mg : Str → Option Value) (x : Str) (i : Int) : Prop := ∃ t, mg x = some (.int i t)
theorem pe_gi {X : Cx} {x : Str} {i : Int} {pos : Pos} (h : GI X.mg x i) (hg : Gl X x) (hd : (x == ("__debug__" : Str)) = false := by decide) : PE X (.Name x pos) (tC (.int i)) := by
  obtain ⟨t, h⟩ := h
  exact pe_glob hg h ⟨t, rfl⟩ hd
end CB

/-! ## KL4 -/
set_option Elab.async false
set_option linter.all false
set_option maxRecDepth 100000
set_option maxHeartbeats 2000000
/-! What the top has left: built-in names, whole numbers; settings and states as data of the model. -/
namespace CB
open PySem PySem.Spec L2
theorem bt_isinstance : bootBuiltins "isinstance" = some (.builtin "isinstance") := by decide +kernel
theorem bt_len : bootBuiltins "len" = some (.builtin "len") := by decide +kernel
theorem bt_min : bootBuiltins "min" = some (.builtin "min") := by decide +kernel
theorem bt_max : bootBuiltins "max" = some (.builtin "max") := by decide +kernel
theorem bt_sum : bootBuiltins "sum" = some (.builtin "sum") := by decide +kernel
theorem bt_all : bootBuiltins "all" = some (.builtin "all") := by decide +kernel
theorem bt_sorted : bootBuiltins "sorted" = some (.builtin "sorted") := by decide +kernel
theorem bt_int : bootBuiltins "int" = some (.type "int") := by decide +kernel
theorem bt_bool : bootBuiltins "bool" = some (.type "bool") := by decide +kernel
theorem bt_tuple : bootBuiltins "tuple" = some (.type "tuple") := by decide +kernel
theorem bt_str : bootBuiltins "str" = some (.type "str") := by decide +kernel
theorem bt_dict : bootBuiltins "dict" = some (.type "dict") := by decide +kernel
theorem bt_zip : bootBuiltins "zip" = some (.type "zip") := by decide +kernel
theorem kb_ii : kitB "int" "int" = some true := by decide +kernel
theorem kb_ib : kitB "int" "bool" = some false := by decide +kernel
theorem kb_bb : kitB "bool" "bool" = some true := by decide +kernel
theorem kb_ss : kitB "str" "str" = some true := by decide +kernel
theorem kb_tt : kitB "tuple" "tuple" = some true := by decide +kernel
section
variable {K : Fg} {s : L2.St} {H : Hp} {ta : TE} {i : Int} {b : Bool} {x : Str} {ds : List PyData}
theorem is_ii (h : EvE K s H ta (.im (.int i))) : EvE K s H (tCB (rIsi K) (tCons ta (tCons (tC (.ty "int")) tNil))) (.im (.bool true)) := ev_isi h kb_ii
theorem is_ib (h : EvE K s H ta (.im (.int i))) : EvE K s H (tCB (rIsi K) (tCons ta (tCons (tC (.ty "bool")) tNil))) (.im (.bool false)) := ev_isi h kb_ib
theorem is_bb (h : EvE K s H ta (.im (.bool b))) : EvE K s H (tCB (rIsi K) (tCons ta (tCons (tC (.ty "bool")) tNil))) (.im (.bool true)) := ev_isi h kb_bb
theorem is_ss (h : EvE K s H ta (.im (.str x))) : EvE K s H (tCB (rIsi K) (tCons ta (tCons (tC (.ty "str")) tNil))) (.im (.bool true)) := ev_isi h kb_ss
theorem is_tt (h : EvE K s H ta (.im (.tuple ds))) : EvE K s H (tCB (rIsi K) (tCons ta (tCons (tC (.ty "tuple")) tNil))) (.im (.bool true)) := ev_isi h kb_tt
end
structure Bn (K : Fg) (mg : Str → Option Value) : Prop where
  isinstance : mg "isinstance" = none
  len : mg "len" = none
  min : mg "min" = none
  max : mg "max" = none
  sum : mg "sum" = none
  all : mg "all" = none
  sorted : mg "sorted" = none
  int : mg "int" = none
  bool : mg "bool" = none
  tuple : mg "tuple" = none
  str : mg "str" = none
  dict : mg "dict" = none
  zip : mg "zip" = none
  range : mg "range" = none
  enumerate : mg "enumerate" = none
  g_MOST_WORK : GI mg "MOST_WORK" 3
  g_MOST_ROOM : GI mg "MOST_ROOM" 5
  g_MOST_PATIENCE : GI mg "MOST_PATIENCE" 4
  g_MOST_TRIES : GI mg "MOST_TRIES" 3
  g_MOST_WAIT : GI mg "MOST_WAIT" 3
  g_MOST_TOKENS : GI mg "MOST_TOKENS" 4
  g_MOST_OF_FUSE : GI mg "MOST_OF_FUSE" 3
  g_MOST_STEADY : GI mg "MOST_STEADY" 9
  g_MOST_FRESH : GI mg "MOST_FRESH" 999
  g_LONGEST_ROW : GI mg "LONGEST_ROW" 200
  g_LIMIT : GI mg "LIMIT" 2000
  g_CAME : GI mg "CAME" 0
  g_ANSWERED : GI mg "ANSWERED" 1
  ways : ∃ a, mg "WAYS" = some (.ref a) ∧ ∀ H, SqT K H a [.str "oldest", .str "newest"]
/-! settings, states -/
def encO : Option Int → PyData
  | none => .none
  | some t => .int t
def encF : Option (Int × Int) → PyData
  | none => .none
  | some (a, b) => .tuple [.int a, .int b]
def wayS (b : Bool) : Str := if b = true then "newest" else "oldest"
def encS (S : Setg) : PyData := .tuple [.int S.work, .int S.room, .int S.patience, .int S.tries, .int 1, .str (wayS S.newest), .bool S.dead, encO S.tokens, encF S.fuse]
def encP (p : Int × Int) : PyData := .tuple [.int p.1, .int p.2]
def encQ (q : List (Int × Int)) : PyData := .tuple (q.map encP)
def encI (l : List Int) : PyData := .tuple (l.map .int)
def encT (t : Stt) : PyData := .tuple [.int t.dead, encQ t.queue, .tuple [encI t.later], .int t.tokens, .int t.door]
end CB

/-! ## KL5 -/
set_option Elab.async false
set_option linter.all false
set_option maxRecDepth 100000
set_option maxHeartbeats 2000000
/-! Statements that hold lists within tuples. -/
namespace CB
open PySem PySem.Spec L2
def unpackE (c : Dn) : List Nat → List En → Dn
  | i :: is, e :: es => unpackE (c.set i (some e)) is es
  | _, _ => c
section
variable {K : Fg} {s : L2.St} {H : Hp} {c : Dn} {te tl ta tb : TE} {tr : TA} {en : En} {D : Ends} {ds es' : List PyData} {es : List En}
theorem gNames_e {Q : L2.St → Hp → Prop} : ∀ (is : List Nat) (xs : List V) (es : List En) (s : L2.St) (c : Dn), is.length = es.length → EnAll K H es xs → EnvD K H s c → (∀ s', EnvD K H s' (unpackE c is es) → Q s' H) → gNames is xs s H Q
  | [], _, [], s, c, _, .nil, env, k => ⟨rfl, k s env⟩
  | [], _, _ :: _, _, _, h, _, _, _ => by cases h
  | _ :: _, _, [], _, _, h, _, _, _ => by cases h
  | i :: is, _, e :: es, s, c, h, .cons r t, env, k => ⟨_, _, rfl, gNames_e is _ es _ _ (Nat.succ.inj h) t (env.set r i) k⟩
theorem g_unpack {a : Addr} {xs : List V} {is : List Nat} {n : Nat} {Q : L2.St → Hp → Prop} (hq : SqT K H a xs) (hx : EnAll K H es xs) (hn : es.length = n) (hi : is.length = n) (env : EnvD K H s c) (k : ∀ s', EnvD K H s' (unpackE c is es) → Q s' H) : gTup K n (gNames is) (.ref a) s H Q :=
  ⟨a, xs, rfl, hq, by rw [← enAll_len hx]; exact hn, gNames_e is xs es s c (by omega) hx env k⟩
theorem st_retT (h : EvA K s H tr es) (hz : es.length ≤ sizeLine) (k : ∀ a vs H1, Same H H1 → H1 a = some (.tup vs) → EnAll K H1 es vs → D.rt (.ref a) H1) : tRet (tTup tr) D s H :=
  h H (Same.refl _) _ fun vs H1 x1 r => ⟨by rw [← enAll_len r]; exact hz, fun p hp => k p vs _ (x1.trans (same_new hp)) upd_same (r.mono (tk_of (same_new hp)))⟩
/-- (a new list, ..) -/
theorem st_retTL (h1 : EvL K s H tl ds) (h2 : EvA K s H tr es) (hz : es.length + 1 ≤ sizeLine) (k : ∀ a la xs ys H1, Same H H1 → H1 la = some (.lst xs) → ImAll K H1 xs ds → H1 a = some (.tup (.ref la :: ys)) → EnAll K H1 es ys → D.rt (.ref a) H1) : tRet (tTup (tCons tl tr)) D s H :=
  h1 H (Same.refl _) _ fun la xs H1 x1 _ hl hx => h2 H1 x1 _ fun ys H2 x2 r => by
    refine ⟨by rw [List.length_cons, ← enAll_len r]; exact hz, fun p hp => ?_⟩
    have xn := same_new (o := .tup (.ref la :: ys)) hp
    exact k p la xs ys _ ((x1.trans x2).trans xn) (xn la _ (x2 la _ hl)) (hx.mono (tk_of (x2.trans xn))) upd_same (r.mono (tk_of xn))
/-- (data, a new list) -/
theorem st_retTL2 (h1 : EvE K s H te en) (h2 : EvL K s H tl ds) (k : ∀ a la xs v H1, Same H H1 → H1 la = some (.lst xs) → ImAll K H1 xs ds → H1 a = some (.tup [v, .ref la]) → EnOk K H1 en v → D.rt (.ref a) H1) : tRet (tTup (tCons te (tCons tl tNil))) D s H :=
  h1 H (Same.refl _) _ fun v H1 x1 r => h2 H1 x1 _ fun la xs H2 x2 _ hl hx => by
    refine ⟨by show 2 ≤ sizeLine; decide, fun p hp => ?_⟩
    have xn := same_new (o := .tup [v, .ref la]) hp
    exact k p la xs v _ ((x1.trans x2).trans xn) (xn la _ hl) (hx.mono (tk_of xn)) upd_same (r.mono (tk_of (x2.trans xn)))
/-- a, b, c = a new list, .. -/
theorem st_par3L {i j l : Nat} {e2 e3 : En} (env : EnvD K H s c) (h1 : EvL K s H tl ds) (h2 : EvA K s H tr [e2, e3]) (k : ∀ la xs s' H1, Same H H1 → H la = none → H1 la = some (.lst xs) → ImAll K H1 xs ds → EnvD K H1 s' (((c.set i (some (.rf la))).set j (some e2)).set l (some e3)) → D.nx s' H1) : tPar3 i j l (tCons tl tr) D s H :=
  h1 H (Same.refl _) _ fun la xs H1 x1 n hl hx => h2 H1 x1 _ fun vs H2 x2 rs => by
    obtain ⟨v, w, e, r1, r2⟩ := enAll2 rs
    exact ⟨.ref la, v, w, by rw [e], k la xs _ H2 (x1.trans x2) n (x2 la _ hl) (hx.mono (tk_of x2)) ((((env.mono (tk_of (x1.trans x2))).set (e := .rf la) rfl i).set r1 j).set r2 l)⟩
/-- a, b = data, a new list -/
theorem st_par2L {i j : Nat} (env : EnvD K H s c) (h1 : EvE K s H te en) (h2 : EvL K s H tl ds) (k : ∀ la xs s' H1, Same H H1 → H la = none → H1 la = some (.lst xs) → ImAll K H1 xs ds → EnvD K H1 s' ((c.set i (some en)).set j (some (.rf la))) → D.nx s' H1) : tPar i j (tCons te (tCons tl tNil)) D s H :=
  h1 H (Same.refl _) _ fun v H1 x1 r => h2 H1 x1 _ fun la xs H2 x2 n hl hx =>
    ⟨v, .ref la, rfl, k la xs _ H2 (x1.trans x2) (x1.free n) hl hx (((env.mono (tk_of (x1.trans x2))).set (r.mono (tk_of x2)) i).set (e := .rf la) rfl j)⟩
/-- xs + ys, lists -/
theorem el_cat {a : Addr} {xs : List V} (hl : H a = some (.lst xs)) (hx : ImAll K H xs ds) (ha : EvE K s H ta (.rf a)) (hb : EvL K s H tb es') (hz : ds.length + es'.length ≤ sizeLine) : EvL K s H (tOp rCat ta tb) (ds ++ es') := fun H1 x1 Q q =>
  ha H1 x1 _ fun v H2 x2 r => hb H2 (x1.trans x2) _ fun b ys H3 x3 _ hb' hy => by
    have x03 := (x1.trans x2).trans x3
    refine ⟨a, b, xs, ys, r, rfl, x03 a _ hl, hb', by rw [imAll_len hx, imAll_len hy]; exact hz, fun p hp => ?_⟩
    have xn := same_new (o := .lst (xs ++ ys)) hp
    exact q p (xs ++ ys) _ ((x2.trans x3).trans xn) ((x2.trans x3).free hp) upd_same (imAll_app (hx.mono (tk_of (x03.trans xn))) (hy.mono (tk_of xn)))
theorem same_upd {A : Hp} {l : Addr} {o : HO} (h : H l = none) (x : Same H A) : Same H (upd A l o) := fun b u e => by
  rw [upd_ne (ne_of_none e h)]
  exact x b u e
theorem upd_other {A : Hp} {l a : Addr} {o u : HO} (h : A a = some u) (n : a ≠ l) : upd A l o a = some u := by
  rw [upd_ne n]
  exact h
end
end CB

/-! ## KS1 -/
set_option Elab.async false
set_option linter.all false
set_option maxRecDepth 100000
set_option maxHeartbeats 4000000
/-! The defs of comesback.settings, first part. -/
namespace CB
open PySem PySem.Spec L2
local macro_rules | `(tactic| walk_at "ev1") => `(tactic| (first
  | exact ev_i | exact ev_b | exact ev_n | exact ev_s | exact ev_v (by assumption) rfl | exact ea_n
  | refine' ea_c ?_ ?_ | with_reducible refine' ev_ixT ?_ ?_ ?_ | with_reducible refine' ev_ixTl ?_ ?_ ?_
  | with_reducible refine' ev_add ?_ ?_ | with_reducible refine' ev_sub ?_ ?_
  | with_reducible refine' ev_lt ?_ ?_ | with_reducible refine' ev_le ?_ ?_ | with_reducible refine' ev_gt ?_ ?_ | with_reducible refine' ev_ge ?_ ?_
  | with_reducible refine' ev_eqI ?_ ?_ | with_reducible refine' ev_neI ?_ ?_ | with_reducible refine' ev_eqS ?_ ?_
  | with_reducible refine' ev_isN ?_ | with_reducible refine' ev_notN ?_ | with_reducible refine' ev_chain ?_ ?_ ?_ | with_reducible refine' ev_neg ?_
  | with_reducible refine' is_ii ?_ | with_reducible refine' is_ib ?_ | with_reducible refine' is_bb ?_ | with_reducible refine' is_ss ?_ | with_reducible refine' is_tt ?_
  | with_reducible refine' ev_andV ?_ ?_ | with_reducible refine' ev_orV ?_ ?_ | with_reducible refine' ev_notV ?_
  | with_reducible refine' ev_lenT ?_ | with_reducible refine' ev_min ?_ ?_ | with_reducible refine' ev_max ?_ ?_
  | with_reducible refine' et_test ?_ | with_reducible refine' et_B ?_ | with_reducible refine' et_not ?_ | with_reducible refine' et_and ?_ ?_ | with_reducible refine' et_or ?_ ?_ | exact et_yes
  | with_reducible refine' eo_some ?_ | exact eo_none | (with_reducible intro _) | rfl))
local macro_rules | `(tactic| walk_at "ev") => `(tactic| repeat' walk_at "ev1")
local macro_rules | `(tactic| walk_at "sq") => `(tactic| try dsimp only [tSeq, tNext])
local macro_rules | `(tactic| walk_at "cx") => `(tactic| try dsimp only [cxOf, Cx.nox, Cx.wish])

theorem ev_callD {K : Fg} {s : L2.St} {H : Hp} {R : List PyData → PyData → Prop} {ds : List PyData} {d : PyData} {E : XK} {tr : TA} {es : List En} (h : EvA K s H tr es) (he : es = ds.map .im) (hr : R ds d) : EvE K s H (tCall (spD K R) [] E tr) (.im d) := ev_call (by rw [← he]; exact h) hr
section
variable {P : Program} {w : World} {K : Fg} {mg : Str → Option Value} {base : Heap}
abbrev s_is_whole : Stmt := top 17
theorem sc_is_whole : FnScope ["thing", "low", "high"] ["thing", "low", "high"] (defScope s_is_whole) := ⟨rfl, rfl, rfl, by decide +kernel, rfl, by decide +kernel, by decide +kernel⟩
def R_whole : List PyData → PyData → Prop := fun ds d => ∃ i lo hi : Int, ds = [.int i, .int lo, .int hi] ∧ d = .bool (decide (lo ≤ i) && decide (i ≤ hi))
theorem d_is_whole (B : Bn K mg) (F : FnP K mg "is_whole" s_is_whole) : Df P w K mg base 1 "is_whole" ["thing", "low", "high"] (spD K R_whole) := by
  refine df_of F sc_is_whole (spD_len fun ds d h => by obtain ⟨_, _, _, e, _⟩ := h; rw [e]; rfl) (fun _ _ _ _ _ _ us hl => match us, hl with | [_, _, _], _ => rfl) fun f cdv A outer s H vs Q E hr h => ?_
  refine ⟨_, (pss_one (ps_ret (pe_and (pe_callB call_isi rfl B.isinstance bt_isinstance (pa_cons (pv 0) (pa_cons (pe_bltn (v := .ty "int") rfl B.int bt_int rfl) pa_nil))) (pe_and (pe_not (pe_callB call_isi rfl B.isinstance bt_isinstance (pa_cons (pv 0) (pa_cons (pe_bltn (v := .ty "bool") rfl B.bool bt_bool rfl) pa_nil)))) (pe_one (pe_chain op_le op_le (pv 1) (pv 0) (pv 2))))))), ?_⟩
  obtain ⟨ds, d, him, ⟨i, lo, hi, rfl, rfl⟩, k⟩ := h
  have env := env_d (N := ["thing", "low", "high"]) him
  walk_at "cx"
  walk_at "sq"
  refine st_retD (EvE.is (e2 := .im (.bool (decide (lo ≤ i) && decide (i ≤ hi)))) (by walk_at "ev") (by simp)) k
theorem ev_whole {s : L2.St} {H : Hp} {ta tb tc : TE} {i lo hi : Int} {E : XK} (h1 : EvE K s H ta (.im (.int i))) (h2 : EvE K s H tb (.im (.int lo))) (h3 : EvE K s H tc (.im (.int hi))) :
    EvE K s H (tCall (spD K R_whole) [] E (tCons ta (tCons tb (tCons tc tNil)))) (.im (.bool (decide (lo ≤ i) && decide (i ≤ hi)))) :=
  ev_callD (ds := [.int i, .int lo, .int hi]) (ea_c h1 (ea_c h2 (ea_c h3 ea_n))) rfl ⟨i, lo, hi, rfl, rfl⟩
local macro_rules | `(tactic| walk_at "ev1") => `(tactic| with_reducible refine' ev_whole ?_ ?_ ?_)
abbrev s_is_count : Stmt := top 18
theorem sc_is_count : FnScope ["thing"] ["thing"] (defScope s_is_count) := ⟨rfl, rfl, rfl, by decide +kernel, rfl, by decide +kernel, by decide +kernel⟩
def R_count : List PyData → PyData → Prop := fun ds d => ∃ i : Int, ds = [.int i] ∧ d = .bool (decide (0 ≤ i))
theorem d_is_count (B : Bn K mg) (F : FnP K mg "is_count" s_is_count) : Df P w K mg base 1 "is_count" ["thing"] (spD K R_count) := by
  refine df_of F sc_is_count (spD_len fun ds d h => by obtain ⟨_, e, _⟩ := h; rw [e]; rfl) (fun _ _ _ _ _ _ us hl => match us, hl with | [_], _ => rfl) fun f cdv A outer s H vs Q E hr h => ?_
  refine ⟨_, (pss_one (ps_ret (pe_and (pe_callB call_isi rfl B.isinstance bt_isinstance (pa_cons (pv 0) (pa_cons (pe_bltn (v := .ty "int") rfl B.int bt_int rfl) pa_nil))) (pe_and (pe_not (pe_callB call_isi rfl B.isinstance bt_isinstance (pa_cons (pv 0) (pa_cons (pe_bltn (v := .ty "bool") rfl B.bool bt_bool rfl) pa_nil)))) (pe_one (pe_cmpR op_ge (pv 0) pe_int (nomark _))))))), ?_⟩
  obtain ⟨ds, d, him, ⟨i, rfl, rfl⟩, k⟩ := h
  have env := env_d (N := ["thing"]) him
  walk_at "cx"
  walk_at "sq"
  refine st_retD (EvE.is (e2 := .im (.bool (decide (0 ≤ i)))) (by walk_at "ev") (by simp)) k
theorem ev_count {s : L2.St} {H : Hp} {ta : TE} {i : Int} {E : XK} (h1 : EvE K s H ta (.im (.int i))) :
    EvE K s H (tCall (spD K R_count) [] E (tCons ta tNil)) (.im (.bool (decide (0 ≤ i)))) := ev_callD (ds := [.int i]) (ea_c h1 ea_n) rfl ⟨i, rfl, rfl⟩
abbrev s_is_fuse : Stmt := top 19
theorem sc_is_fuse : FnScope ["thing"] ["thing"] (defScope s_is_fuse) := ⟨rfl, rfl, rfl, by decide +kernel, rfl, by decide +kernel, by decide +kernel⟩
def R_fuse : List PyData → PyData → Prop := fun ds d => ∃ o : Option (Int × Int), ds = [encF o] ∧ (∀ a b, o = some (a, b) → 1 ≤ a ∧ a ≤ 3 ∧ 1 ≤ b ∧ b ≤ 3) ∧ d = .bool true
theorem d_is_fuse (B : Bn K mg) (F_is_whole : Df P w K mg base 1 "is_whole" ["thing", "low", "high"] (spD K R_whole)) (F : FnP K mg "is_fuse" s_is_fuse) : Df P w K mg base 2 "is_fuse" ["thing"] (spD K R_fuse) := by
  refine df_of F sc_is_fuse (spD_len fun ds d h => by obtain ⟨_, e, _⟩ := h; rw [e]; rfl) (fun _ _ _ _ _ _ us hl => match us, hl with | [_], _ => rfl) fun f cdv A outer s H vs Q E hr h => ?_
  refine ⟨_, (pss_cons (ps_if (pt_cmpR o_isN (pv 0) pe_non (nomark _)) (pss_one (ps_ret pe_bl)) pss_nil)
  (pss_cons (ps_if (PW.pt (pw_or (pt_not (pt_val (pe_callB call_isi rfl B.isinstance bt_isinstance (pa_cons (pv 0) (pa_cons (pe_bltn (v := .ty "tuple") rfl B.tuple bt_tuple rfl) pa_nil))))) (pw_or1 (pt_cmpR op_ne (pe_callB c_len rfl B.len bt_len (pa_cons (pv 0) pa_nil)) pe_int (nomark _))))) (pss_one (ps_ret pe_bl)) pss_nil)
  (pss_one (ps_ret (pe_and (pe_df F_is_whole (hr.mono (by decide)) rfl (pa_cons (pe_ix ix_tup (pv 0) pe_int (fun _ _ => rfl)) (pa_cons pe_int (pa_cons (pe_gi B.g_MOST_OF_FUSE rfl) pa_nil)))) (pe_one (pe_df F_is_whole (hr.mono (by decide)) rfl (pa_cons (pe_ix ix_tup (pv 0) pe_int (fun _ _ => rfl)) (pa_cons pe_int (pa_cons (pe_gi B.g_MOST_OF_FUSE rfl) pa_nil)))))))))), ?_⟩
  obtain ⟨ds, d, him, ⟨o, rfl, ho, rfl⟩, k⟩ := h
  have env := env_d (N := ["thing"]) him
  walk_at "cx"
  walk_at "sq"
  cases o with
  | none => exact st_if env (b := true) (EvT.is (by walk_at "ev") (by rfl)) (fun _ H1 x1 env => st_retD (by walk_at "ev") fun v H2 x2 r => k v H2 (x1.trans x2) r) (fun h => by cases h)
  | some p =>
    obtain ⟨a, b⟩ := p
    obtain ⟨h1, h2, h3, h4⟩ := ho a b rfl
    walk_at "sq"
    refine st_if env (b := false) (EvT.is (by walk_at "ev") (by rfl)) (fun h => by cases h) fun _ H1 x1 env => ?_
    walk_at "sq"
    refine st_if env (b := false) (EvT.is (by walk_at "ev") (by simp)) (fun h => by cases h) fun _ H2 x2 env => ?_
    walk_at "sq"
    exact st_retD (EvE.is (e2 := .im (.bool true)) (by walk_at "ev") (by simp [h1, h2, h3, h4])) fun v H3 x3 r => k v H3 ((x1.trans x2).trans x3) r
theorem ev_fuse {s : L2.St} {H : Hp} {ta : TE} {o : Option (Int × Int)} {E : XK} (h1 : EvE K s H ta (.im (encF o))) (h2 : ∀ a b, o = some (a, b) → 1 ≤ a ∧ a ≤ 3 ∧ 1 ≤ b ∧ b ≤ 3) :
    EvE K s H (tCall (spD K R_fuse) [] E (tCons ta tNil)) (.im (.bool true)) := ev_callD (ds := [encF o]) (ea_c h1 ea_n) rfl ⟨o, rfl, h2, rfl⟩
abbrev s_is_setting : Stmt := top 20
theorem sc_is_setting : FnScope ["thing", "work", "room", "patience", "tries", "wait", "way", "dead", "tokens", "fuse"] ["thing"] (defScope s_is_setting) := ⟨rfl, rfl, rfl, by decide +kernel, rfl, by decide +kernel, by decide +kernel⟩
def R_setting : List PyData → PyData → Prop := fun ds d => ∃ S : Setg, ds = [encS S] ∧ S.Ok ∧ d = .bool true
theorem ways_in {b : Bool} : inV (V.str (wayS b)) [V.str "oldest", V.str "newest"] = true := by cases b <;> decide +kernel
theorem ev_ways {s : L2.St} {H : Hp} {ta : TE} {b : Bool} {a : Addr} (hW : ∀ H, SqT K H a [.str "oldest", .str "newest"]) (h : EvE K s H ta (.im (.str (wayS b)))) : EvE K s H (tOp (rIn K true) ta (tC (.ref a))) (.im (.bool false)) :=
  ev_op2 (e2 := .rf a) h (fun H1 _ Q q => q _ H1 (Same.refl _) rfl) fun x y H1 Q _ rx ry q => by
    rw [im_str rx, show y = .ref a from ry]
    refine ⟨a, _, rfl, Or.inr (hW _), rfl, rfl, ?_⟩
    rw [if_pos rfl, ways_in]
    exact q _ H1 (Same.refl _) (.bl _)
theorem d_is_setting (B : Bn K mg) (F_is_whole : Df P w K mg base 1 "is_whole" ["thing", "low", "high"] (spD K R_whole)) (F_is_fuse : Df P w K mg base 2 "is_fuse" ["thing"] (spD K R_fuse)) (F : FnP K mg "is_setting" s_is_setting) : Df P w K mg base 3 "is_setting" ["thing"] (spD K R_setting) := by
  obtain ⟨aW, hW, hW2⟩ := B.ways
  refine df_of F sc_is_setting (spD_len fun ds d h => by obtain ⟨_, e, _⟩ := h; rw [e]; rfl) (fun _ _ _ _ _ _ us hl => match us, hl with | [_], _ => rfl) fun f cdv A outer s H vs Q E hr h => ?_
  refine ⟨_, (pss_cons (ps_if (PW.pt (pw_or (pt_not (pt_val (pe_callB call_isi rfl B.isinstance bt_isinstance (pa_cons (pv 0) (pa_cons (pe_bltn (v := .ty "tuple") rfl B.tuple bt_tuple rfl) pa_nil))))) (pw_or1 (pt_cmpR op_ne (pe_callB c_len rfl B.len bt_len (pa_cons (pv 0) pa_nil)) pe_int (nomark _))))) (pss_one (ps_ret pe_bl)) pss_nil)
  (pss_cons (ps_asg (pv 0) (pg_tup rfl (pgs_cons (pg_name (i := 1) sc_is_setting.nd rfl (by first | exact Or.inl rfl | exact Or.inr rfl)) (pgs_cons (pg_name (i := 2) sc_is_setting.nd rfl (by first | exact Or.inl rfl | exact Or.inr rfl)) (pgs_cons (pg_name (i := 3) sc_is_setting.nd rfl (by first | exact Or.inl rfl | exact Or.inr rfl)) (pgs_cons (pg_name (i := 4) sc_is_setting.nd rfl (by first | exact Or.inl rfl | exact Or.inr rfl)) (pgs_cons (pg_name (i := 5) sc_is_setting.nd rfl (by first | exact Or.inl rfl | exact Or.inr rfl)) (pgs_cons (pg_name (i := 6) sc_is_setting.nd rfl (by first | exact Or.inl rfl | exact Or.inr rfl)) (pgs_cons (pg_name (i := 7) sc_is_setting.nd rfl (by first | exact Or.inl rfl | exact Or.inr rfl)) (pgs_cons (pg_name (i := 8) sc_is_setting.nd rfl (by first | exact Or.inl rfl | exact Or.inr rfl)) (pgs_cons (pg_name (i := 9) sc_is_setting.nd rfl (by first | exact Or.inl rfl | exact Or.inr rfl)) pgs_nil)))))))))))
  (pss_cons (ps_if (PW.pt (pw_or (pt_not (pt_val (pe_df F_is_whole (hr.mono (by decide)) rfl (pa_cons (pv 1) (pa_cons pe_int (pa_cons (pe_gi B.g_MOST_WORK rfl) pa_nil)))))) (pw_or1 (pt_not (pt_val (pe_df F_is_whole (hr.mono (by decide)) rfl (pa_cons (pv 2) (pa_cons pe_int (pa_cons (pe_gi B.g_MOST_ROOM rfl) pa_nil))))))))) (pss_one (ps_ret pe_bl)) pss_nil)
  (pss_cons (ps_if (PW.pt (pw_or (pt_not (pt_val (pe_df F_is_whole (hr.mono (by decide)) rfl (pa_cons (pv 3) (pa_cons pe_int (pa_cons (pe_gi B.g_MOST_PATIENCE rfl) pa_nil)))))) (pw_or1 (pt_not (pt_val (pe_df F_is_whole (hr.mono (by decide)) rfl (pa_cons (pv 4) (pa_cons pe_int (pa_cons (pe_gi B.g_MOST_TRIES rfl) pa_nil))))))))) (pss_one (ps_ret pe_bl)) pss_nil)
  (pss_cons (ps_if (pt_not (pt_val (pe_df F_is_whole (hr.mono (by decide)) rfl (pa_cons (pv 5) (pa_cons pe_int (pa_cons (pe_gi B.g_MOST_WAIT rfl) pa_nil)))))) (pss_one (ps_ret pe_bl)) pss_nil)
  (pss_cons (ps_if (PW.pt (pw_or (pt_not (pt_val (pe_callB call_isi rfl B.isinstance bt_isinstance (pa_cons (pv 6) (pa_cons (pe_bltn (v := .ty "str") rfl B.str bt_str rfl) pa_nil))))) (pw_or (pt_cmpR op_notIn_seq (pv 6) (pe_glob (v := .ref aW) rfl hW rfl) (by rfl)) (pw_or1 (pt_not (pt_val (pe_callB call_isi rfl B.isinstance bt_isinstance (pa_cons (pv 7) (pa_cons (pe_bltn (v := .ty "bool") rfl B.bool bt_bool rfl) pa_nil))))))))) (pss_one (ps_ret pe_bl)) pss_nil)
  (pss_one (ps_ret (pe_and (pe_or (pe_cmpR o_isN (pv 8) pe_non (nomark _)) (pe_one (pe_df F_is_whole (hr.mono (by decide)) rfl (pa_cons (pv 8) (pa_cons pe_int (pa_cons (pe_gi B.g_MOST_TOKENS rfl) pa_nil)))))) (pe_one (pe_df F_is_fuse (hr.mono (by decide)) rfl (pa_cons (pv 9) pa_nil)))))))))))), ?_⟩
  obtain ⟨ds, d, him, ⟨S, rfl, ok, rfl⟩, k⟩ := h
  have env := env_d (N := ["thing", "work", "room", "patience", "tries", "wait", "way", "dead", "tokens", "fuse"]) him
  walk_at "cx"
  obtain ⟨a1, a2, a3, a4, a5, a6, a7, a8, a9, a10⟩ := ok
  walk_at "sq"
  refine st_if env (b := false) (EvT.is (by walk_at "ev") (by simp)) (fun h => by cases h) fun _ H1 x1 env => ?_
  walk_at "sq"
  refine st_unpack (is := [1, 2, 3, 4, 5, 6, 7, 8, 9]) env (ev_v env rfl) rfl rfl fun s2 H2 x2 env => ?_
  dsimp only [unpackD] at env
  walk_at "sq"
  refine st_if env (b := false) (EvT.is (by walk_at "ev") ?_) (fun h => by cases h) fun _ H3 x3 env => ?_
  · simp; omega
  walk_at "sq"
  refine st_if env (b := false) (EvT.is (by walk_at "ev") ?_) (fun h => by cases h) fun _ H4 x4 env => ?_
  · simp; omega
  walk_at "sq"
  refine st_if env (b := false) (EvT.is (by walk_at "ev") ?_) (fun h => by cases h) fun _ H5 x5 env => ?_
  · simp
  walk_at "sq"
  refine st_if env (b := false) (EvT.is (et_or (et_not (et_B (is_ss (ev_v env rfl)))) fun _ => et_or (et_test (ev_ways hW2 (ev_v env rfl))) fun _ => et_not (et_B (is_bb (ev_v env rfl)))) (by simp)) (fun h => by cases h) fun _ H6 x6 env => ?_
  have tokE : EvE K s2 H6 (tOrV (tOp rIsN1 (tVar 8) (tC .non)) (tCall (spD K R_whole) [] E0 (tCons (tVar 8) (tCons (tC (.int 0)) (tCons (tC (.int 4)) tNil))))) (.im (.bool true)) := by
    cases e : S.tokens with
    | none => 
      rw [e] at env
      exact EvE.is (ev_orV (b' := true) (ev_isN (ev_v env rfl)) fun h => by cases h) rfl
    | some t =>
      have := a9 t e
      rw [e] at env
      exact EvE.is (by walk_at "ev") (by simp [isNone]; omega)
  walk_at "sq"
  refine st_retD (EvE.is (e2 := .im (.bool true)) (ev_andV tokE fun _ => ev_fuse (ev_v env rfl) ?_) (by simp)) fun v H7 x7 r => k v H7 ((((((x1.trans x2).trans x3).trans x4).trans x5).trans x6).trans x7) r
  intro a b e
  have := a10 a b e
  omega
theorem ev_setting {s : L2.St} {H : Hp} {ta : TE} {S : Setg} {E : XK} (h1 : EvE K s H ta (.im (encS S))) (ok : S.Ok) :
    EvE K s H (tCall (spD K R_setting) [] E (tCons ta tNil)) (.im (.bool true)) := ev_callD (ds := [encS S]) (ea_c h1 ea_n) rfl ⟨S, rfl, ok, rfl⟩
abbrev s_need_setting : Stmt := top 21
theorem sc_need_setting : FnScope ["setting"] ["setting"] (defScope s_need_setting) := ⟨rfl, rfl, rfl, by decide +kernel, rfl, by decide +kernel, by decide +kernel⟩
def R_needS : List PyData → PyData → Prop := fun ds d => ∃ S : Setg, ds = [encS S] ∧ S.Ok ∧ d = .none
theorem d_need_setting (F_is_setting : Df P w K mg base 3 "is_setting" ["thing"] (spD K R_setting)) (F : FnP K mg "need_setting" s_need_setting) : Df P w K mg base 4 "need_setting" ["setting"] (spD K R_needS) := by
  refine df_of F sc_need_setting (spD_len fun ds d h => by obtain ⟨_, e, _⟩ := h; rw [e]; rfl) (fun _ _ _ _ _ _ us hl => match us, hl with | [_], _ => rfl) fun f cdv A outer s H vs Q E hr h => ?_
  refine ⟨_, (pss_one (ps_if (pt_not (pt_val (pe_df F_is_setting (hr.mono (by decide)) rfl (pa_cons (pv 0) pa_nil)))) (pss_one ps_never) pss_nil)), ?_⟩
  obtain ⟨ds, d, him, ⟨S, rfl, ok, rfl⟩, k⟩ := h
  have env := env_d (N := ["setting"]) him
  walk_at "cx"
  walk_at "sq"
  exact st_if env (b := false) (EvT.is (et_not (et_B (ev_setting (ev_v env rfl) ok))) rfl) (fun h => by cases h) fun _ H1 x1 _ => k _ H1 x1 .non
theorem ev_needS {s : L2.St} {H : Hp} {ta : TE} {S : Setg} {E : XK} (h1 : EvE K s H ta (.im (encS S))) (ok : S.Ok) :
    EvE K s H (tCall (spD K R_needS) [] E (tCons ta tNil)) (.im .none) := ev_callD (ds := [encS S]) (ea_c h1 ea_n) rfl ⟨S, rfl, ok, rfl⟩
abbrev s_most_tokens : Stmt := top 22
theorem sc_most_tokens : FnScope ["setting"] ["setting"] (defScope s_most_tokens) := ⟨rfl, rfl, rfl, by decide +kernel, rfl, by decide +kernel, by decide +kernel⟩
def R_tok : List PyData → PyData → Prop := fun ds d => ∃ S : Setg, ds = [encS S] ∧ d = .int S.tok
theorem d_most_tokens (F : FnP K mg "most_tokens" s_most_tokens) : Df P w K mg base 1 "most_tokens" ["setting"] (spD K R_tok) := by
  refine df_of F sc_most_tokens (spD_len fun ds d h => by obtain ⟨_, e, _⟩ := h; rw [e]; rfl) (fun _ _ _ _ _ _ us hl => match us, hl with | [_], _ => rfl) fun f cdv A outer s H vs Q E hr h => ?_
  refine ⟨_, (pss_one (ps_ret (pe_ifExp (pt_cmpR o_isN (pe_ix ix_tup (pv 0) pe_int (fun _ _ => rfl)) pe_non (nomark _)) pe_int (pe_ix ix_tup (pv 0) pe_int (fun _ _ => rfl))))), ?_⟩
  obtain ⟨ds, d, him, ⟨S, rfl, rfl⟩, k⟩ := h
  have env := env_d (N := ["setting"]) him
  walk_at "cx"
  obtain ⟨b1, b2, b3, b4, b5, b6, tk, b8⟩ := S
  cases tk with
  | none => exact st_retD (ev_if (b := true) (EvT.is (by walk_at "ev") (by rfl)) (fun _ => ev_i) (fun h => by cases h)) k
  | some t => exact st_retD (ev_if (b := false) (EvT.is (by walk_at "ev") (by rfl)) (fun h => by cases h) (fun _ => by walk_at "ev")) k
theorem ev_tok {s : L2.St} {H : Hp} {ta : TE} {S : Setg} {E : XK} (h1 : EvE K s H ta (.im (encS S))) :
    EvE K s H (tCall (spD K R_tok) [] E (tCons ta tNil)) (.im (.int S.tok)) := ev_callD (ds := [encS S]) (ea_c h1 ea_n) rfl ⟨S, rfl, rfl⟩
abbrev s_most_rest : Stmt := top 23
theorem sc_most_rest : FnScope ["setting"] ["setting"] (defScope s_most_rest) := ⟨rfl, rfl, rfl, by decide +kernel, rfl, by decide +kernel, by decide +kernel⟩
def R_rest : List PyData → PyData → Prop := fun ds d => ∃ S : Setg, ds = [encS S] ∧ d = .int S.rest
theorem d_most_rest (F : FnP K mg "most_rest" s_most_rest) : Df P w K mg base 1 "most_rest" ["setting"] (spD K R_rest) := by
  refine df_of F sc_most_rest (spD_len fun ds d h => by obtain ⟨_, e, _⟩ := h; rw [e]; rfl) (fun _ _ _ _ _ _ us hl => match us, hl with | [_], _ => rfl) fun f cdv A outer s H vs Q E hr h => ?_
  refine ⟨_, (pss_one (ps_ret (pe_ifExp (pt_cmpR o_isN (pe_ix ix_tup (pv 0) pe_int (fun _ _ => rfl)) pe_non (nomark _)) pe_int (pe_ix ix_tup (pe_ix ix_tup (pv 0) pe_int (fun _ _ => rfl)) pe_int (fun _ _ => rfl))))), ?_⟩
  obtain ⟨ds, d, him, ⟨S, rfl, rfl⟩, k⟩ := h
  have env := env_d (N := ["setting"]) him
  walk_at "cx"
  obtain ⟨b1, b2, b3, b4, b5, b6, b7, fu⟩ := S
  cases fu with
  | none => exact st_retD (ev_if (b := true) (EvT.is (by walk_at "ev") (by rfl)) (fun _ => ev_i) (fun h => by cases h)) k
  | some p =>
    obtain ⟨p1, p2⟩ := p
    walk_at "sq"
    exact st_retD (ev_if (b := false) (EvT.is (by walk_at "ev") (by rfl)) (fun h => by cases h) (fun _ => by walk_at "ev")) k
theorem ev_rest {s : L2.St} {H : Hp} {ta : TE} {S : Setg} {E : XK} (h1 : EvE K s H ta (.im (encS S))) :
    EvE K s H (tCall (spD K R_rest) [] E (tCons ta tNil)) (.im (.int S.rest)) := ev_callD (ds := [encS S]) (ea_c h1 ea_n) rfl ⟨S, rfl, rfl⟩
end
end CB

/-! ## KS2 -/
set_option Elab.async false
set_option linter.all false
set_option maxRecDepth 100000
set_option maxHeartbeats 4000000
/-! The defs of comesback.settings, second part. -/
namespace CB
open PySem PySem.Spec L2
local macro_rules | `(tactic| walk_at "ev1") => `(tactic| (first
  | exact ev_i | exact ev_b | exact ev_n | exact ev_s | exact ev_v (by assumption) rfl | exact ea_n
  | refine' ea_c ?_ ?_ | with_reducible refine' ev_ixT ?_ ?_ ?_ | with_reducible refine' ev_ixTl ?_ ?_ ?_
  | with_reducible refine' ev_add ?_ ?_ | with_reducible refine' ev_sub ?_ ?_
  | with_reducible refine' ev_lt ?_ ?_ | with_reducible refine' ev_le ?_ ?_ | with_reducible refine' ev_gt ?_ ?_ | with_reducible refine' ev_ge ?_ ?_
  | with_reducible refine' ev_eqI ?_ ?_ | with_reducible refine' ev_neI ?_ ?_ | with_reducible refine' ev_eqS ?_ ?_
  | with_reducible refine' ev_isN ?_ | with_reducible refine' ev_notN ?_ | with_reducible refine' ev_chain ?_ ?_ ?_ | with_reducible refine' ev_neg ?_
  | with_reducible refine' is_ii ?_ | with_reducible refine' is_ib ?_ | with_reducible refine' is_bb ?_ | with_reducible refine' is_ss ?_ | with_reducible refine' is_tt ?_
  | with_reducible refine' ev_andV ?_ ?_ | with_reducible refine' ev_orV ?_ ?_ | with_reducible refine' ev_notV ?_
  | with_reducible refine' ev_lenT ?_ | with_reducible refine' ev_min ?_ ?_ | with_reducible refine' ev_max ?_ ?_
  | with_reducible refine' et_test ?_ | with_reducible refine' et_B ?_ | with_reducible refine' et_not ?_ | with_reducible refine' et_and ?_ ?_ | with_reducible refine' et_or ?_ ?_ | exact et_yes
  | with_reducible refine' eo_some ?_ | exact eo_none | (with_reducible intro _) | rfl))
local macro_rules | `(tactic| walk_at "ev") => `(tactic| repeat' walk_at "ev1")
local macro_rules | `(tactic| walk_at "sq") => `(tactic| try dsimp only [tSeq, tNext])
local macro_rules | `(tactic| walk_at "cx") => `(tactic| try dsimp only [cxOf, Cx.nox, Cx.wish])

local macro_rules | `(tactic| walk_at "ev1") => `(tactic| with_reducible refine' ev_whole ?_ ?_ ?_)
local macro_rules | `(tactic| walk_at "ev1") => `(tactic| with_reducible refine' ev_count ?_)
local macro_rules | `(tactic| walk_at "ev1") => `(tactic| with_reducible refine' ev_tok ?_)
local macro_rules | `(tactic| walk_at "ev1") => `(tactic| with_reducible refine' ev_rest ?_)
section
variable {P : Program} {w : World} {K : Fg} {mg : Str → Option Value} {base : Heap}
theorem zeros_eq : ∀ n : Nat, (List.replicate n [PyData.int 0]).flatten = (List.replicate n (0 : Int)).map .int
  | 0 => rfl
  | n + 1 => by
    rw [List.replicate_succ, List.flatten_cons, zeros_eq n, List.replicate_succ]
    rfl
theorem cut_35 {a b c d e f g h i : PyData} : [d, e] = (([a, b, c, d, e, f, g, h, i] : List PyData).drop (HT.sIx 9 0 (some 3))).take (HT.sIx 9 9 (some 5) - HT.sIx 9 0 (some 3)) := by rfl
theorem cut_24 {a b c d e f g h i : PyData} : [c, d] = (([a, b, c, d, e, f, g, h, i] : List PyData).drop (HT.sIx 9 0 (some 2))).take (HT.sIx 9 9 (some 4) - HT.sIx 9 0 (some 2)) := by rfl
theorem cut_1 (ds : List PyData) : ds.drop 1 = (ds.drop (HT.sIx ds.length 0 (some 1))).take (HT.sIx ds.length ds.length none - HT.sIx ds.length 0 (some 1)) := by
  rw [show (some (1 : Int)) = some (((1 : Nat) : Int)) from rfl, HT.sIx_nat, HT.sIx_none]
  cases ds with
  | nil => rfl
  | cons a t =>
    rw [List.length_cons, show min 1 (t.length + 1) = 1 by omega]
    exact (List.take_of_length_le (by simp)).symm
abbrev s_first_of : Stmt := top 24
theorem sc_first_of : FnScope ["setting", "tries", "wait"] ["setting"] (defScope s_first_of) := ⟨rfl, rfl, rfl, by decide +kernel, rfl, by decide +kernel, by decide +kernel⟩
def R_first : List PyData → PyData → Prop := fun ds d => ∃ S : Setg, ds = [encS S] ∧ S.Ok ∧ d = encT (firstM S)
theorem d_first_of (F_most_tokens : Df P w K mg base 1 "most_tokens" ["setting"] (spD K R_tok)) (F : FnP K mg "first_of" s_first_of) : Df P w K mg base 2 "first_of" ["setting"] (spD K R_first) := by
  refine df_of F sc_first_of (spD_len fun ds d h => by obtain ⟨_, e, _⟩ := h; rw [e]; rfl) (fun _ _ _ _ _ _ us hl => match us, hl with | [_], _ => rfl) fun f cdv A outer s H vs Q E hr h => ?_
  refine ⟨_, (pss_cons (ps_asg (pe_slice sl_tupA (pv 0) (po_some pe_int) (po_some pe_int)) (pg_tup rfl (pgs_cons (pg_name (i := 1) sc_first_of.nd rfl (by first | exact Or.inl rfl | exact Or.inr rfl)) (pgs_cons (pg_name (i := 2) sc_first_of.nd rfl (by first | exact Or.inl rfl | exact Or.inr rfl)) pgs_nil))))
  (pss_one (ps_ret (pe_tup (pa_cons pe_int (pa_cons (pe_tup pa_nil) (pa_cons (pe_op op_mulT (pe_tup (pa_cons (pe_op op_mulT (pe_tup (pa_cons pe_int pa_nil)) (pe_op op_sub (pv 1) pe_int)) pa_nil)) (pv 2)) (pa_cons (pe_df F_most_tokens (hr.mono (by decide)) rfl (pa_cons (pv 0) pa_nil)) (pa_cons pe_int pa_nil))))))))), ?_⟩
  obtain ⟨ds, d, him, ⟨S, rfl, ok, rfl⟩, k⟩ := h
  have env := env_d (N := ["setting", "tries", "wait"]) him
  walk_at "cx"
  walk_at "sq"
  have h1 := ok.t1
  have h2 := ok.t2
  refine st_unpack (is := [1, 2]) env (ev_slT (ev_v env rfl) (eo_some ev_i) (eo_some ev_i) cut_35) rfl rfl fun s2 H2 x2 env => ?_
  dsimp only [unpackD] at env
  walk_at "sq"
  refine st_retD (EvE.is (ev_tup (ds := [_, _, _, _, _]) (ea_c ev_i (ea_c (ev_tup (ds := []) ea_n (by decide)) (ea_c (ev_mulT (k := 1) (ev_tup1 (ev_mulT (k := S.tries - 1) (ev_tup1 ev_i) (by walk_at "ev") (by simp) (by omega) (by omega) ?_)) (ev_v env rfl) (by simp) (by decide) (by decide) ?_) (ea_c (ev_tok (ev_v env rfl)) (ea_c ev_i ea_n))))) (show 5 ≤ sizeLine by decide)) ?_) fun v H3 x3 r => k v H3 (x2.trans x3) r
  · simp; omega
  · simp
  · unfold encT encQ encI firstM
    rw [zeros_eq]
    simp
theorem ev_first {s : L2.St} {H : Hp} {ta : TE} {S : Setg} {E : XK} (h1 : EvE K s H ta (.im (encS S))) (ok : S.Ok) :
    EvE K s H (tCall (spD K R_first) [] E (tCons ta tNil)) (.im (encT (firstM S))) := ev_callD (ds := [encS S]) (ea_c h1 ea_n) rfl ⟨S, rfl, ok, rfl⟩
abbrev s_first_state : Stmt := top 25
theorem sc_first_state : FnScope ["setting"] ["setting"] (defScope s_first_state) := ⟨rfl, rfl, rfl, by decide +kernel, rfl, by decide +kernel, by decide +kernel⟩
theorem d_first_state (F_need_setting : Df P w K mg base 4 "need_setting" ["setting"] (spD K R_needS)) (F_first_of : Df P w K mg base 2 "first_of" ["setting"] (spD K R_first)) (F : FnP K mg "first_state" s_first_state) : Df P w K mg base 5 "first_state" ["setting"] (spD K R_first) := by
  refine df_of F sc_first_state (spD_len fun ds d h => by obtain ⟨_, e, _⟩ := h; rw [e]; rfl) (fun _ _ _ _ _ _ us hl => match us, hl with | [_], _ => rfl) fun f cdv A outer s H vs Q E hr h => ?_
  refine ⟨_, (pss_cons (ps_expr (pe_df F_need_setting (hr.mono (by decide)) rfl (pa_cons (pv 0) pa_nil)))
  (pss_one (ps_ret (pe_df F_first_of (hr.mono (by decide)) rfl (pa_cons (pv 0) pa_nil))))), ?_⟩
  obtain ⟨ds, d, him, ⟨S, rfl, ok, rfl⟩, k⟩ := h
  have env := env_d (N := ["setting"]) him
  walk_at "cx"
  walk_at "sq"
  refine st_drop (ev_needS (ev_v env rfl) ok) fun H1 x1 => ?_
  have env := env.mono (tk_of x1)
  walk_at "sq"
  exact st_retD (ev_first (ev_v env rfl) ok) fun v H2 x2 r => k v H2 (x1.trans x2) r
abbrev s_is_queue : Stmt := top 26
theorem sc_is_queue : FnScope ["setting", "thing", "patience", "tries", "one", "left", "age", "other"] ["setting", "thing"] (defScope s_is_queue) := ⟨rfl, rfl, rfl, by decide +kernel, rfl, by decide +kernel, by decide +kernel⟩
def R_queue : List PyData → PyData → Prop := fun ds d => ∃ (S : Setg) (q : List (Int × Int)), ds = [encS S, encQ q] ∧ ((q.length : Int) ≤ S.room ∧ S.Ok ∧ agesOk q ∧ ∀ p, p ∈ q → 0 ≤ p.1 ∧ p.1 ≤ S.tries - 1 ∧ 1 ≤ p.2 ∧ p.2 ≤ S.patience - 1) ∧ d = .bool true
theorem allMap {α : Type} {l : List α} {p : α → Bool} (h : ∀ a, a ∈ l → p a = true) : (l.map p).all id = true := by
  rw [List.all_map]
  exact List.all_eq_true.mpr fun a ha => h a ha
theorem d_is_queue (B : Bn K mg) (F_is_whole : Df P w K mg base 1 "is_whole" ["thing", "low", "high"] (spD K R_whole)) (F : FnP K mg "is_queue" s_is_queue) : Df P w K mg base 2 "is_queue" ["setting", "thing"] (spD K R_queue) := by
  refine df_of F sc_is_queue (spD_len fun ds d h => by obtain ⟨_, _, e, _⟩ := h; rw [e]; rfl) (fun _ _ _ _ _ _ us hl => match us, hl with | [_, _], _ => rfl) fun f cdv A outer s H vs Q E hr h => ?_
  refine ⟨_, (pss_cons (ps_asg (pe_slice sl_tupA (pv 0) (po_some pe_int) (po_some pe_int)) (pg_tup rfl (pgs_cons (pg_name (i := 2) sc_is_queue.nd rfl (by first | exact Or.inl rfl | exact Or.inr rfl)) (pgs_cons (pg_name (i := 3) sc_is_queue.nd rfl (by first | exact Or.inl rfl | exact Or.inr rfl)) pgs_nil))))
  (pss_cons (ps_if (PW.pt (pw_or (pt_not (pt_val (pe_callB call_isi rfl B.isinstance bt_isinstance (pa_cons (pv 1) (pa_cons (pe_bltn (v := .ty "tuple") rfl B.tuple bt_tuple rfl) pa_nil))))) (pw_or1 (pt_cmpR op_gt (pe_callB c_len rfl B.len bt_len (pa_cons (pv 1) pa_nil)) (pe_ix ix_tup (pv 0) pe_int (fun _ _ => rfl)) (nomark _))))) (pss_one (ps_ret pe_bl)) pss_nil)
  (pss_cons (ps_if (pt_not (pt_val (pe_callB (c_all rfl) rfl B.all bt_all (pa_cons (pe_lc (own := [("one", 4)]) rfl sc_is_queue.nd (pi_tup (pv 1)) (blkOk_by (own := [("one", 4)]) (N := ["setting", "thing", "patience", "tries", "one", "left", "age", "other"]) (sc := defScope s_is_queue) (by decide +kernel)) (fun _ _ _ _ _ => (pg_name (i := 4) sc_is_queue.nd rfl (by first | exact Or.inl rfl | exact Or.inr rfl) (by first | exact .inr rfl | exact .inl rfl))) (fun _ _ _ _ _ => pts_nil) (fun _ _ _ _ _ => (pe_and (pe_callB (call_isiK K (by rfl)) rfl B.isinstance bt_isinstance (pa_cons (pv 4) (pa_cons (pe_bltn (v := .ty "tuple") rfl B.tuple bt_tuple rfl) pa_nil))) (pe_one (pe_cmpR op_eq (pe_callB (c_lenK K (by rfl)) rfl B.len bt_len (pa_cons (pv 4) pa_nil)) pe_int (nomark _)))))) pa_nil)))) (pss_one (ps_ret pe_bl)) pss_nil)
  (pss_cons (ps_if (pt_not (pt_val (pe_callB (c_all rfl) rfl B.all bt_all (pa_cons (pe_lc (own := [("left", 5), ("age", 6)]) rfl sc_is_queue.nd (pi_tup (pv 1)) (blkOk_by (own := [("left", 5), ("age", 6)]) (N := ["setting", "thing", "patience", "tries", "one", "left", "age", "other"]) (sc := defScope s_is_queue) (by decide +kernel)) (fun _ _ _ _ _ => (pg_tupK K (by rfl) (n := 2) rfl (pgs_cons (pg_name (i := 5) sc_is_queue.nd rfl (by first | exact Or.inl rfl | exact Or.inr rfl) (by first | exact .inr rfl | exact .inl rfl)) (pgs_cons (pg_name (i := 6) sc_is_queue.nd rfl (by first | exact Or.inl rfl | exact Or.inr rfl) (by first | exact .inr rfl | exact .inl rfl)) pgs_nil)))) (fun _ _ _ _ _ => pts_nil) (fun _ _ _ _ _ => (pe_and (pe_df F_is_whole (hr.mono (by decide)) rfl (pa_cons (pv 5) (pa_cons pe_int (pa_cons (pe_op op_sub (pv 3) pe_int) pa_nil)))) (pe_one (pe_df F_is_whole (hr.mono (by decide)) rfl (pa_cons (pv 6) (pa_cons pe_int (pa_cons (pe_op op_sub (pv 2) pe_int) pa_nil)))))))) pa_nil)))) (pss_one (ps_ret pe_bl)) pss_nil)
  (pss_one (ps_ret (pe_callB (c_all rfl) rfl B.all bt_all (pa_cons (pe_lc (own := [("one", 4), ("other", 7)]) rfl sc_is_queue.nd (RZ.pi_zipA rfl B.zip (pa_cons (pv 1) (pa_cons (pe_slice sl_tupA (pv 1) (po_some pe_int) po_none) pa_nil))) (blkOk_by (own := [("one", 4), ("other", 7)]) (N := ["setting", "thing", "patience", "tries", "one", "left", "age", "other"]) (sc := defScope s_is_queue) (by decide +kernel)) (fun _ _ _ _ _ => (pg_tupK K (by rfl) (n := 2) rfl (pgs_cons (pg_name (i := 4) sc_is_queue.nd rfl (by first | exact Or.inl rfl | exact Or.inr rfl) (by first | exact .inr rfl | exact .inl rfl)) (pgs_cons (pg_name (i := 7) sc_is_queue.nd rfl (by first | exact Or.inl rfl | exact Or.inr rfl) (by first | exact .inr rfl | exact .inl rfl)) pgs_nil)))) (fun _ _ _ _ _ => pts_nil) (fun _ _ _ _ _ => (pe_cmpR op_ge (pe_ix (ix_tupK K (by rfl)) (pv 4) pe_int (fun _ _ => rfl)) (pe_ix (ix_tupK K (by rfl)) (pv 7) pe_int (fun _ _ => rfl)) (nomark _)))) pa_nil)))))))), ?_⟩
  obtain ⟨ds, d, him, ⟨S, q, rfl, ⟨q0, ok, q1, q2⟩, rfl⟩, k⟩ := h
  have env := env_d (N := ["setting", "thing", "patience", "tries", "one", "left", "age", "other"]) him
  walk_at "cx"
  walk_at "sq"
  have h1 := ok.r2
  have h2 := ok.w2
  have hz : (q.map encP).length < sizeLine := by rw [sizeLine_eq, List.length_map]; omega
  refine st_unpack (is := [2, 3]) env (ev_slT (ev_v env rfl) (eo_some ev_i) (eo_some ev_i) cut_24) rfl rfl fun s2 H2 x2 env => ?_
  dsimp only [unpackD] at env
  walk_at "sq"
  refine st_if env (b := false) (EvT.is (by walk_at "ev") ?_) (fun h => by cases h) fun _ H3 x3 env => ?_
  · simp; omega
  walk_at "sq"
  refine st_if env (b := false) (EvT.is (et_not (et_B (ev_allL (bs := (q.map encP).map fun _ => true) (b := true) (EvL.is (el_lc1 (fun _ => .bool true) env (ei_tup (ev_v env rfl)) hz fun d hd s4 H4 x4 env => ?_) (by simp)) (allMap fun _ _ => rfl)))) rfl) (fun h => by cases h) fun _ H4 x4 env => ?_
  · obtain ⟨p, hp, rfl⟩ := List.mem_map.mp hd
    exact EvE.is (by walk_at "ev") (by rfl)
  walk_at "sq"
  refine st_if env (b := false) (EvT.is (et_not (et_B (ev_allL (bs := (q.map encP).map fun _ => true) (b := true) (EvL.is (el_lcM (is := [5, 6]) unT (fun _ => .bool true) env (ei_tup (ev_v env rfl)) hz rfl ?_ fun d hd s4 H4 x4 env => ?_) (by simp)) (allMap fun _ _ => rfl)))) rfl) (fun h => by cases h) fun _ H5 x5 env => ?_
  · intro d hd
    obtain ⟨p, hp, rfl⟩ := List.mem_map.mp hd
    exact ⟨rfl, rfl⟩
  · obtain ⟨p, hp, rfl⟩ := List.mem_map.mp hd
    obtain ⟨z1, z2, z3, z4⟩ := q2 p hp
    exact EvE.is (by walk_at "ev") (by simp [z1, z2, z3, z4])
  walk_at "sq"
  refine st_retD (ev_allL (bs := (List.zipWith (fun a b => PyData.tuple [a, b]) (q.map encP) ((q.map encP).drop 1)).map fun _ => true) (b := true) (EvL.is (el_lcM (is := [4, 7]) unT (fun _ => .bool true) env (ei_zipT (ev_v env rfl) (ev_slT (ev_v env rfl) (eo_some ev_i) eo_none (cut_1 _))) ?_ rfl ?_ fun d hd s4 H4 x4 env => ?_) (by simp)) (allMap fun _ _ => rfl)) fun v H6 x6 r => k v H6 ((((x2.trans x3).trans x4).trans x5).trans x6) r
  · rw [List.length_zipWith]
    omega
  · intro d hd
    obtain ⟨i, hi, rfl⟩ := List.mem_iff_getElem.mp hd
    rw [List.getElem_zipWith]
    exact ⟨rfl, rfl⟩
  · have hd2 : ∃ p, p ∈ List.zip q (q.drop 1) ∧ d = .tuple [encP p.1, encP p.2] := by
      rw [← List.map_drop, List.zipWith_map] at hd
      obtain ⟨i, hi, rfl⟩ := List.mem_iff_getElem.mp hd
      rw [List.length_zipWith] at hi
      refine ⟨(q[i], (q.drop 1)[i]), ?_, by rw [List.getElem_zipWith]⟩
      rw [← List.getElem_zip (h := by rw [List.length_zip]; exact hi)]
      exact List.getElem_mem _
    obtain ⟨p, hp, rfl⟩ := hd2
    have z := q1 p hp
    exact EvE.is (by walk_at "ev") (by simp [z])
theorem ev_queue {s : L2.St} {H : Hp} {ta tb : TE} {S : Setg} {q : List (Int × Int)} {E : XK} (h1 : EvE K s H ta (.im (encS S))) (h2 : EvE K s H tb (.im (encQ q))) (h : (q.length : Int) ≤ S.room ∧ S.Ok ∧ agesOk q ∧ ∀ p, p ∈ q → 0 ≤ p.1 ∧ p.1 ≤ S.tries - 1 ∧ 1 ≤ p.2 ∧ p.2 ≤ S.patience - 1) :
    EvE K s H (tCall (spD K R_queue) [] E (tCons ta (tCons tb tNil))) (.im (.bool true)) := ev_callD (ds := [encS S, encQ q]) (ea_c h1 (ea_c h2 ea_n)) rfl ⟨S, q, rfl, h, rfl⟩
end
end CB

/-! ## KS3 -/
set_option Elab.async false
set_option linter.all false
set_option maxRecDepth 100000
set_option maxHeartbeats 4000000
/-! The defs of comesback.settings, third part. -/
namespace CB
open PySem PySem.Spec L2
local macro_rules | `(tactic| walk_at "ev1") => `(tactic| (first
  | exact ev_i | exact ev_b | exact ev_n | exact ev_s | exact ev_v (by assumption) rfl | exact ea_n
  | refine' ea_c ?_ ?_ | with_reducible refine' ev_ixT ?_ ?_ ?_ | with_reducible refine' ev_ixTl ?_ ?_ ?_
  | with_reducible refine' ev_add ?_ ?_ | with_reducible refine' ev_sub ?_ ?_
  | with_reducible refine' ev_lt ?_ ?_ | with_reducible refine' ev_le ?_ ?_ | with_reducible refine' ev_gt ?_ ?_ | with_reducible refine' ev_ge ?_ ?_
  | with_reducible refine' ev_eqI ?_ ?_ | with_reducible refine' ev_neI ?_ ?_ | with_reducible refine' ev_eqS ?_ ?_
  | with_reducible refine' ev_isN ?_ | with_reducible refine' ev_notN ?_ | with_reducible refine' ev_chain ?_ ?_ ?_ | with_reducible refine' ev_neg ?_
  | with_reducible refine' is_ii ?_ | with_reducible refine' is_ib ?_ | with_reducible refine' is_bb ?_ | with_reducible refine' is_ss ?_ | with_reducible refine' is_tt ?_
  | with_reducible refine' ev_andV ?_ ?_ | with_reducible refine' ev_orV ?_ ?_ | with_reducible refine' ev_notV ?_
  | with_reducible refine' ev_lenT ?_ | with_reducible refine' ev_min ?_ ?_ | with_reducible refine' ev_max ?_ ?_
  | with_reducible refine' et_test ?_ | with_reducible refine' et_B ?_ | with_reducible refine' et_not ?_ | with_reducible refine' et_and ?_ ?_ | with_reducible refine' et_or ?_ ?_ | exact et_yes
  | with_reducible refine' eo_some ?_ | exact eo_none | (with_reducible intro _) | rfl))
local macro_rules | `(tactic| walk_at "ev") => `(tactic| repeat' walk_at "ev1")
local macro_rules | `(tactic| walk_at "sq") => `(tactic| try dsimp only [tSeq, tNext])
local macro_rules | `(tactic| walk_at "cx") => `(tactic| try dsimp only [cxOf, Cx.nox, Cx.wish])

local macro_rules | `(tactic| walk_at "ev1") => `(tactic| with_reducible refine' ev_whole ?_ ?_ ?_)
local macro_rules | `(tactic| walk_at "ev1") => `(tactic| with_reducible refine' ev_count ?_)
local macro_rules | `(tactic| walk_at "ev1") => `(tactic| with_reducible refine' ev_tok ?_)
local macro_rules | `(tactic| walk_at "ev1") => `(tactic| with_reducible refine' ev_rest ?_)
section
variable {P : Program} {w : World} {K : Fg} {mg : Str → Option Value} {base : Heap}
abbrev s_is_later : Stmt := top 27
theorem sc_is_later : FnScope ["setting", "thing", "tries", "wait", "row", "many"] ["setting", "thing"] (defScope s_is_later) := ⟨rfl, rfl, rfl, by decide +kernel, rfl, by decide +kernel, by decide +kernel⟩
def R_later : List PyData → PyData → Prop := fun ds d => ∃ (S : Setg) (l : List Int), ds = [encS S, .tuple [encI l]] ∧ ((l.length : Int) = S.tries - 1 ∧ S.Ok ∧ ∀ n, n ∈ l → 0 ≤ n) ∧ d = .bool true
theorem d_is_later (B : Bn K mg) (F_is_count : Df P w K mg base 1 "is_count" ["thing"] (spD K R_count)) (F : FnP K mg "is_later" s_is_later) : Df P w K mg base 2 "is_later" ["setting", "thing"] (spD K R_later) := by
  refine df_of F sc_is_later (spD_len fun ds d h => by obtain ⟨_, _, e, _⟩ := h; rw [e]; rfl) (fun _ _ _ _ _ _ us hl => match us, hl with | [_, _], _ => rfl) fun f cdv A outer s H vs Q E hr h => ?_
  refine ⟨_, (pss_cons (ps_asg (pe_slice sl_tupA (pv 0) (po_some pe_int) (po_some pe_int)) (pg_tup rfl (pgs_cons (pg_name (i := 2) sc_is_later.nd rfl (by first | exact Or.inl rfl | exact Or.inr rfl)) (pgs_cons (pg_name (i := 3) sc_is_later.nd rfl (by first | exact Or.inl rfl | exact Or.inr rfl)) pgs_nil))))
  (pss_cons (ps_if (PW.pt (pw_or (pt_not (pt_val (pe_callB call_isi rfl B.isinstance bt_isinstance (pa_cons (pv 1) (pa_cons (pe_bltn (v := .ty "tuple") rfl B.tuple bt_tuple rfl) pa_nil))))) (pw_or1 (pt_cmpR op_ne (pe_callB c_len rfl B.len bt_len (pa_cons (pv 1) pa_nil)) (pv 3) (nomark _))))) (pss_one (ps_ret pe_bl)) pss_nil)
  (pss_cons (ps_if (pt_not (pt_val (pe_callB (c_all rfl) rfl B.all bt_all (pa_cons (pe_lc (own := [("row", 4)]) rfl sc_is_later.nd (pi_tup (pv 1)) (blkOk_by (own := [("row", 4)]) (N := ["setting", "thing", "tries", "wait", "row", "many"]) (sc := defScope s_is_later) (by decide +kernel)) (fun _ _ _ _ _ => (pg_name (i := 4) sc_is_later.nd rfl (by first | exact Or.inl rfl | exact Or.inr rfl) (by first | exact .inr rfl | exact .inl rfl))) (fun _ _ _ _ _ => pts_nil) (fun _ _ _ _ _ => (pe_and (pe_callB (call_isiK K (by rfl)) rfl B.isinstance bt_isinstance (pa_cons (pv 4) (pa_cons (pe_bltn (v := .ty "tuple") rfl B.tuple bt_tuple rfl) pa_nil))) (pe_one (pe_cmpR op_eq (pe_callB (c_lenK K (by rfl)) rfl B.len bt_len (pa_cons (pv 4) pa_nil)) (pe_op op_sub (pv 2) pe_int) (nomark _)))))) pa_nil)))) (pss_one (ps_ret pe_bl)) pss_nil)
  (pss_one (ps_ret (pe_callB (c_all rfl) rfl B.all bt_all (pa_cons (pe_lc (own := [("row", 4)]) rfl sc_is_later.nd (pi_tup (pv 1)) (blkOk_by (own := [("row", 4)]) (N := ["setting", "thing", "tries", "wait", "row", "many"]) (sc := defScope s_is_later) (by decide +kernel)) (fun _ _ _ _ _ => (pg_name (i := 4) sc_is_later.nd rfl (by first | exact Or.inl rfl | exact Or.inr rfl) (by first | exact .inr rfl | exact .inl rfl))) (fun _ _ _ _ _ => pts_nil) (fun _ _ _ _ _ => (pe_callB (c_allK K (by rfl) rfl) rfl B.all bt_all (pa_cons (pe_lc (own := [("many", 5)]) rfl sc_is_later.nd (pi_tupK K (by rfl) (pv 4)) (blkOk_by (own := [("many", 5)]) (by kernel_rfl)) (fun _ _ _ _ _ => (pg_name (i := 5) sc_is_later.nd rfl (by first | exact Or.inl rfl | exact Or.inr rfl) (by first | exact .inr rfl | exact .inl rfl))) (fun _ _ _ _ _ => pts_nil) (fun _ _ _ _ _ => (pe_df F_is_count (hr.mono (by decide)) rfl (pa_cons (pv 5) pa_nil)))) pa_nil)))) pa_nil))))))), ?_⟩
  obtain ⟨ds, d, him, ⟨S, l, rfl, ⟨l1, ok, l2⟩, rfl⟩, k⟩ := h
  have env := env_d (N := ["setting", "thing", "tries", "wait", "row", "many"]) him
  walk_at "cx"
  walk_at "sq"
  have h2 := ok.t2
  refine st_unpack (is := [2, 3]) env (ev_slT (ev_v env rfl) (eo_some ev_i) (eo_some ev_i) cut_35) rfl rfl fun s2 H2 x2 env => ?_
  dsimp only [unpackD] at env
  walk_at "sq"
  refine st_if env (b := false) (EvT.is (by walk_at "ev") (by simp)) (fun h => by cases h) fun _ H3 x3 env => ?_
  walk_at "sq"
  refine st_if env (b := false) (EvT.is (et_not (et_B (ev_allL (bs := [true]) (b := true) (EvL.is (el_lc1 (fun _ => .bool true) env (ei_tup (ds := [encI l]) (ev_v env rfl)) (show 1 < sizeLine by decide) fun d hd s4 H4 x4 env => ?_) (by rfl)) rfl))) rfl) (fun h => by cases h) fun _ H4 x4 env => ?_
  · obtain rfl := List.mem_singleton.mp hd
    refine EvE.is (ev_andV (is_tt (ds := l.map .int) (ev_v env rfl)) fun _ => ev_eqI (ev_lenT (ds := l.map .int) (ev_v env rfl)) (by walk_at "ev")) (by simp [l1])
  walk_at "sq"
  refine st_retD (ev_allL (bs := [true]) (b := true) (EvL.is (el_lc1 (fun _ => .bool true) env (ei_tup (ds := [encI l]) (ev_v env rfl)) (show 1 < sizeLine by decide) fun d hd s4 H4 x4 env => ?_) (by rfl)) rfl) fun v H6 x6 r => k v H6 (((x2.trans x3).trans x4).trans x6) r
  obtain rfl := List.mem_singleton.mp hd
  refine ev_allL (bs := l.map fun _ => true) (b := true) (EvL.is (el_lc1 (fun _ => .bool true) env (ei_tup (ds := l.map .int) (ev_v env rfl)) (by rw [sizeLine_eq, List.length_map]; omega) fun d hd s5 H5 x5 env => ?_) (by simp)) (allMap fun _ _ => rfl)
  obtain ⟨n, hn, rfl⟩ := List.mem_map.mp hd
  have := l2 n hn
  exact EvE.is (by walk_at "ev") (by simp [this])
theorem ev_later {s : L2.St} {H : Hp} {ta tb : TE} {S : Setg} {l : List Int} {E : XK} (h1 : EvE K s H ta (.im (encS S))) (h2 : EvE K s H tb (.im (.tuple [encI l]))) (h : (l.length : Int) = S.tries - 1 ∧ S.Ok ∧ ∀ n, n ∈ l → 0 ≤ n) :
    EvE K s H (tCall (spD K R_later) [] E (tCons ta (tCons tb tNil))) (.im (.bool true)) := ev_callD (ds := [encS S, .tuple [encI l]]) (ea_c h1 (ea_c h2 ea_n)) rfl ⟨S, l, rfl, h, rfl⟩
abbrev s_is_state_of : Stmt := top 28
theorem sc_is_state_of : FnScope ["setting", "thing", "dead", "queue", "later", "tokens", "door"] ["setting", "thing"] (defScope s_is_state_of) := ⟨rfl, rfl, rfl, by decide +kernel, rfl, by decide +kernel, by decide +kernel⟩
def R_state : List PyData → PyData → Prop := fun ds d => ∃ (S : Setg) (t : Stt), ds = [encS S, encT t] ∧ (S.Ok ∧ t.Ok S) ∧ d = .bool true
theorem d_is_state_of (B : Bn K mg) (F_is_whole : Df P w K mg base 1 "is_whole" ["thing", "low", "high"] (spD K R_whole)) (F_is_queue : Df P w K mg base 2 "is_queue" ["setting", "thing"] (spD K R_queue)) (F_is_later : Df P w K mg base 2 "is_later" ["setting", "thing"] (spD K R_later))
    (F_most_tokens : Df P w K mg base 1 "most_tokens" ["setting"] (spD K R_tok)) (F_most_rest : Df P w K mg base 1 "most_rest" ["setting"] (spD K R_rest)) (F : FnP K mg "is_state_of" s_is_state_of) : Df P w K mg base 3 "is_state_of" ["setting", "thing"] (spD K R_state) := by
  refine df_of F sc_is_state_of (spD_len fun ds d h => by obtain ⟨_, _, e, _⟩ := h; rw [e]; rfl) (fun _ _ _ _ _ _ us hl => match us, hl with | [_, _], _ => rfl) fun f cdv A outer s H vs Q E hr h => ?_
  refine ⟨_, (pss_cons (ps_if (PW.pt (pw_or (pt_not (pt_val (pe_callB call_isi rfl B.isinstance bt_isinstance (pa_cons (pv 1) (pa_cons (pe_bltn (v := .ty "tuple") rfl B.tuple bt_tuple rfl) pa_nil))))) (pw_or1 (pt_cmpR op_ne (pe_callB c_len rfl B.len bt_len (pa_cons (pv 1) pa_nil)) pe_int (nomark _))))) (pss_one (ps_ret pe_bl)) pss_nil)
  (pss_cons (ps_asg (pv 1) (pg_tup rfl (pgs_cons (pg_name (i := 2) sc_is_state_of.nd rfl (by first | exact Or.inl rfl | exact Or.inr rfl)) (pgs_cons (pg_name (i := 3) sc_is_state_of.nd rfl (by first | exact Or.inl rfl | exact Or.inr rfl)) (pgs_cons (pg_name (i := 4) sc_is_state_of.nd rfl (by first | exact Or.inl rfl | exact Or.inr rfl)) (pgs_cons (pg_name (i := 5) sc_is_state_of.nd rfl (by first | exact Or.inl rfl | exact Or.inr rfl)) (pgs_cons (pg_name (i := 6) sc_is_state_of.nd rfl (by first | exact Or.inl rfl | exact Or.inr rfl)) pgs_nil)))))))
  (pss_cons (ps_if (PW.pt (pw_or (pt_not (pt_val (pe_df F_is_whole (hr.mono (by decide)) rfl (pa_cons (pv 2) (pa_cons pe_int (pa_cons (pe_ifExp (pt_val (pe_ix ix_tup (pv 0) pe_int (fun _ _ => rfl))) (pe_ix ix_tup (pv 0) pe_int (fun _ _ => rfl)) pe_int) pa_nil)))))) (pw_or1 (pt_not (pt_val (pe_df F_is_queue (hr.mono (by decide)) rfl (pa_cons (pv 0) (pa_cons (pv 3) pa_nil)))))))) (pss_one (ps_ret pe_bl)) pss_nil)
  (pss_cons (ps_if (PW.pt (pw_or (pt_cmpR op_gt (pe_op op_add (pv 2) (pe_callB c_len rfl B.len bt_len (pa_cons (pv 3) pa_nil))) (pe_ix ix_tup (pv 0) pe_int (fun _ _ => rfl)) (nomark _)) (pw_or1 (pt_not (pt_val (pe_df F_is_later (hr.mono (by decide)) rfl (pa_cons (pv 0) (pa_cons (pv 4) pa_nil)))))))) (pss_one (ps_ret pe_bl)) pss_nil)
  (pss_one (ps_ret (pe_and (pe_df F_is_whole (hr.mono (by decide)) rfl (pa_cons (pv 5) (pa_cons pe_int (pa_cons (pe_df F_most_tokens (hr.mono (by decide)) rfl (pa_cons (pv 0) pa_nil)) pa_nil)))) (pe_one (pe_df F_is_whole (hr.mono (by decide)) rfl (pa_cons (pv 6) (pa_cons pe_int (pa_cons (pe_df F_most_rest (hr.mono (by decide)) rfl (pa_cons (pv 0) pa_nil)) pa_nil)))))))))))), ?_⟩
  obtain ⟨ds, d, him, ⟨S, t, rfl, ⟨ok, tk⟩, rfl⟩, k⟩ := h
  have env := env_d (N := ["setting", "thing", "dead", "queue", "later", "tokens", "door"]) him
  walk_at "cx"
  walk_at "sq"
  obtain ⟨a1, a2, a3, a4, a5, a6, a7, a8, a9, a10, a11⟩ := tk
  have hd : EvE K (L2.start ["setting", "thing", "dead", "queue", "later", "tokens", "door"] vs) H (tVar 1) (.im (encT t)) := ev_v env rfl
  refine st_if env (b := false) (EvT.is (by walk_at "ev") (by rfl)) (fun h => by cases h) fun _ H1 x1 env => ?_
  walk_at "sq"
  refine st_unpack (is := [2, 3, 4, 5, 6]) env (ev_v env rfl) rfl rfl fun s2 H2 x2 env => ?_
  dsimp only [unpackD] at env
  walk_at "sq"
  refine st_if env (b := false) (EvT.is (et_or (et_not (et_B (ev_whole (ev_v env rfl) ev_i (ev_if (b := S.dead) (en := .im (.int (if S.dead = true then S.room else 0))) (by walk_at "ev") (fun h => EvE.is (by walk_at "ev") (by rw [if_pos h])) (fun h => EvE.is (by walk_at "ev") (by rw [h]; rfl)))))) fun _ => et_not (et_B (ev_queue (ev_v env rfl) (ev_v env rfl) ⟨by omega, ok, agesOk_of a4, a3⟩))) (by simp [a1, a2])) (fun h => by cases h) fun _ H3 x3 env => ?_
  walk_at "sq"
  refine st_if env (b := false) (EvT.is (et_or (et_test (ev_gt (ev_add (ev_v env rfl) (ev_lenT (ds := t.queue.map encP) (ev_v env rfl))) (by walk_at "ev"))) fun _ => et_not (et_B (ev_later (ev_v env rfl) (ev_v env rfl) ⟨a6, ok, a7⟩))) ?_) (fun h => by cases h) fun _ H4 x4 env => ?_
  · simp; omega
  walk_at "sq"
  exact st_retD (EvE.is (e2 := .im (.bool true)) (by walk_at "ev") (by simp [a8, a9, a10, a11])) fun v H6 x6 r => k v H6 ((((x1.trans x2).trans x3).trans x4).trans x6) r
theorem ev_state {s : L2.St} {H : Hp} {ta tb : TE} {S : Setg} {t : Stt} {E : XK} (h1 : EvE K s H ta (.im (encS S))) (h2 : EvE K s H tb (.im (encT t))) (ok : S.Ok) (tk : t.Ok S) :
    EvE K s H (tCall (spD K R_state) [] E (tCons ta (tCons tb tNil))) (.im (.bool true)) := ev_callD (ds := [encS S, encT t]) (ea_c h1 (ea_c h2 ea_n)) rfl ⟨S, t, rfl, ⟨ok, tk⟩, rfl⟩
abbrev s_need_state : Stmt := top 29
theorem sc_need_state : FnScope ["setting", "state"] ["setting", "state"] (defScope s_need_state) := ⟨rfl, rfl, rfl, by decide +kernel, rfl, by decide +kernel, by decide +kernel⟩
def R_needT : List PyData → PyData → Prop := fun ds d => ∃ (S : Setg) (t : Stt), ds = [encS S, encT t] ∧ (S.Ok ∧ t.Ok S) ∧ d = .none
theorem d_need_state (F_is_state_of : Df P w K mg base 3 "is_state_of" ["setting", "thing"] (spD K R_state)) (F : FnP K mg "need_state" s_need_state) : Df P w K mg base 4 "need_state" ["setting", "state"] (spD K R_needT) := by
  refine df_of F sc_need_state (spD_len fun ds d h => by obtain ⟨_, _, e, _⟩ := h; rw [e]; rfl) (fun _ _ _ _ _ _ us hl => match us, hl with | [_, _], _ => rfl) fun f cdv A outer s H vs Q E hr h => ?_
  refine ⟨_, (pss_one (ps_if (pt_not (pt_val (pe_df F_is_state_of (hr.mono (by decide)) rfl (pa_cons (pv 0) (pa_cons (pv 1) pa_nil))))) (pss_one ps_never) pss_nil)), ?_⟩
  obtain ⟨ds, d, him, ⟨S, t, rfl, ⟨ok, tk⟩, rfl⟩, k⟩ := h
  have env := env_d (N := ["setting", "state"]) him
  walk_at "cx"
  walk_at "sq"
  exact st_if env (b := false) (EvT.is (et_not (et_B (ev_state (ev_v env rfl) (ev_v env rfl) ok tk))) (by rfl)) (fun h => by cases h) fun _ H1 x1 _ => k _ H1 x1 .non
theorem ev_needT {s : L2.St} {H : Hp} {ta tb : TE} {S : Setg} {t : Stt} {E : XK} (h1 : EvE K s H ta (.im (encS S))) (h2 : EvE K s H tb (.im (encT t))) (ok : S.Ok) (tk : t.Ok S) :
    EvE K s H (tCall (spD K R_needT) [] E (tCons ta (tCons tb tNil))) (.im .none) := ev_callD (ds := [encS S, encT t]) (ea_c h1 (ea_c h2 ea_n)) rfl ⟨S, t, rfl, ⟨ok, tk⟩, rfl⟩
end
end CB

/-! ## KB1 -/
set_option Elab.async false
set_option linter.all false
set_option maxRecDepth 100000
set_option maxHeartbeats 4000000
namespace CB
open PySem PySem.Spec L2
local macro_rules | `(tactic| walk_at "ev1") => `(tactic| (first
  | exact ev_i | exact ev_b | exact ev_n | exact ev_s | exact ev_v (by assumption) rfl | exact ea_n
  | refine' ea_c ?_ ?_ | with_reducible refine' ev_ixT ?_ ?_ ?_ | with_reducible refine' ev_ixTl ?_ ?_ ?_
  | with_reducible refine' ev_add ?_ ?_ | with_reducible refine' ev_sub ?_ ?_
  | with_reducible refine' ev_lt ?_ ?_ | with_reducible refine' ev_le ?_ ?_ | with_reducible refine' ev_gt ?_ ?_ | with_reducible refine' ev_ge ?_ ?_
  | with_reducible refine' ev_eqI ?_ ?_ | with_reducible refine' ev_neI ?_ ?_ | with_reducible refine' ev_eqS ?_ ?_
  | with_reducible refine' ev_isN ?_ | with_reducible refine' ev_notN ?_ | with_reducible refine' ev_chain ?_ ?_ ?_ | with_reducible refine' ev_neg ?_
  | with_reducible refine' is_ii ?_ | with_reducible refine' is_ib ?_ | with_reducible refine' is_bb ?_ | with_reducible refine' is_ss ?_ | with_reducible refine' is_tt ?_
  | with_reducible refine' ev_andV ?_ ?_ | with_reducible refine' ev_orV ?_ ?_ | with_reducible refine' ev_notV ?_
  | with_reducible refine' ev_lenT ?_ | with_reducible refine' ev_min ?_ ?_ | with_reducible refine' ev_max ?_ ?_
  | with_reducible refine' et_test ?_ | with_reducible refine' et_B ?_ | with_reducible refine' et_not ?_ | with_reducible refine' et_and ?_ ?_ | with_reducible refine' et_or ?_ ?_ | exact et_yes
  | with_reducible refine' eo_some ?_ | exact eo_none | (with_reducible intro _) | rfl))
local macro_rules | `(tactic| walk_at "ev") => `(tactic| repeat' walk_at "ev1")
local macro_rules | `(tactic| walk_at "sq") => `(tactic| try dsimp only [tSeq, tNext])
local macro_rules | `(tactic| walk_at "cx") => `(tactic| try dsimp only [cxOf, Cx.nox, Cx.wish])

local macro_rules | `(tactic| walk_at "ev1") => `(tactic| with_reducible refine' ev_whole ?_ ?_ ?_)
local macro_rules | `(tactic| walk_at "ev1") => `(tactic| with_reducible refine' ev_count ?_)
local macro_rules | `(tactic| walk_at "ev1") => `(tactic| with_reducible refine' ev_tok ?_)
local macro_rules | `(tactic| walk_at "ev1") => `(tactic| with_reducible refine' ev_rest ?_)
section
variable {P : Program} {w : World} {K : Fg} {mg : Str → Option Value} {base : Heap}
abbrev s_coming : Stmt := top 34
theorem sc_coming : FnScope ["setting", "state", "fresh", "counts", "tokens", "lost", "many", "let"] ["setting", "state", "fresh"] (defScope s_coming) := ⟨rfl, rfl, rfl, by decide +kernel, rfl, by decide +kernel, by decide +kernel⟩
/-- (the counts, the tokens left, how many were lost) -/
def spComing (K : Fg) : Sp := fun vs H Q _ => ∃ (S : Setg) (t : Stt) (fr : Int), ImAll K H vs [encS S, encT t, .int fr] ∧ S.Ok ∧ t.Ok S ∧
  ∀ a la H', Same H H' → H' a = some (.tup [.ref la, .int (comeN S t.later t.tokens t.later.length).2.1, .int (comeN S t.later t.tokens t.later.length).2.2]) → H' la = some (.lst (((comeN S t.later t.tokens t.later.length).1 ++ [fr]).map V.int)) → Q (.ref a) H'
theorem comeN_s (S : Setg) (l : List Int) (k : Int) (i : Nat) : comeN S l k (i + 1) = comeStep S (comeN S l k i) (l.getD i 0) := rfl
theorem d_coming (B : Bn K mg) (F : FnP K mg "coming" s_coming) : Df P w K mg base 1 "coming" ["setting", "state", "fresh"] (spComing K) := by
  refine df_of F sc_coming (fun vs H Q E h => by obtain ⟨_, _, _, e, _⟩ := h; exact imAll_len e) (fun _ _ _ _ _ _ us hl => match us, hl with | [_, _, _], _ => rfl) fun f cdv A outer s H vs Q E hr h => ?_
  refine ⟨_, (pss_cons (ps_par3 (i := 3) (j := 4) (l := 5) rfl sc_coming.nd rfl rfl rfl (by decide) (by decide) (by decide) rfl rfl rfl (pa_cons (pe_lst pa_nil) (pa_cons (pe_ix ix_tup (pv 1) pe_int (fun _ _ => rfl)) (pa_cons pe_int pa_nil))) (by rfl))
  (pss_cons (ps_for PassesOwn.never rfl (pi_tup (pe_ix ix_tup (pe_ix ix_tup (pv 1) pe_int (fun _ _ => rfl)) pe_int (fun _ _ => rfl))) (pg_name (i := 6) sc_coming.nd rfl (by first | exact Or.inl rfl | exact Or.inr rfl)) (pss_cons (ps_set (i := 7) sc_coming.nd rfl (by first | exact Or.inl rfl | exact Or.inr rfl) (pv 6))
  (pss_cons (ps_if (pt_cmpR o_notN (pe_ix ix_tup (pv 0) pe_int (fun _ _ => rfl)) pe_non (nomark _)) (pss_cons (ps_set (i := 7) sc_coming.nd rfl (by first | exact Or.inl rfl | exact Or.inr rfl) (pe_callB (c_min rfl) rfl B.min bt_min (pa_cons (pv 6) (pa_cons (pv 4) pa_nil))))
  (pss_one (ps_set (i := 4) sc_coming.nd rfl (by first | exact Or.inl rfl | exact Or.inr rfl) (pe_op op_sub (pv 4) (pv 7))))) pss_nil)
  (pss_cons (ps_expr (pe_bm PySem.F.plainAttrs_list PySem.F.slot_list_append PySem.F.type_list_append mt_append (pv 3) (pa_cons (pv 7) pa_nil)))
  (pss_one (ps_set (i := 5) sc_coming.nd rfl (by first | exact Or.inl rfl | exact Or.inr rfl) (pe_op op_sub (pe_op op_add (pv 5) (pv 6)) (pv 7))))))))
  (pss_one (ps_ret (pe_tup (pa_cons (pe_op op_cat (pv 3) (pe_lst (pa_cons (pv 2) pa_nil))) (pa_cons (pv 4) (pa_cons (pv 5) pa_nil)))))))), ?_⟩
  obtain ⟨S, t, fr, him, ok, tk, k⟩ := h
  have env := env_d (N := ["setting", "state", "fresh", "counts", "tokens", "lost", "many", "let"]) him
  walk_at "cx"
  walk_at "sq"
  have hl2 := tk.ll
  have h2 := ok.t2
  have hlen : t.later.length ≤ 1 := by omega
  refine st_par3L (e2 := .im (.int t.tokens)) (e3 := .im (.int 0)) env (el_lst (ds := []) ea_n (by decide)) (by walk_at "ev") fun la xs s1 H1 x1 nla hla hxs env => ?_
  cases hxs
  walk_at "sq"
  refine st_forT (ds := t.later.map .int) (ev_ixT (ds := [encI t.later]) (n := 0) (ev_ixT (n := 2) (ev_v env rfl) ev_i rfl) ev_i rfl)
    (fun i s' H' => Same H H' ∧ H' la = some (.lst ((comeN S t.later t.tokens i).1.map V.int)) ∧
      EnvD K H' s' [some (.im (encS S)), some (.im (encT t)), some (.im (.int fr)), some (.rf la), some (.im (.int (comeN S t.later t.tokens i).2.1)), some (.im (.int (comeN S t.later t.tokens i).2.2)), none, none])
    (fun H2 x2 => ⟨x1.trans x2, x2 la _ hla, env.mono (tk_of x2)⟩) ?_ ?_
  · intro i d x s' H' hd hx ⟨p1, p2, env⟩
    rw [List.getElem?_map] at hd
    cases e : t.later[i]? with
    | none => rw [e] at hd; cases hd
    | some m =>
      rw [e] at hd
      obtain rfl : PyData.int m = d := Option.some.inj hd
      have em : t.later.getD i 0 = m := by rw [List.getD_eq_getElem?_getD, e]; rfl
      have hi : i < t.later.length := (List.getElem?_eq_some_iff.mp e).1
      have env := env.set (e := .im (.int m)) hx 6
      dsimp only [gName]
      walk_at "sq"
      refine st_set env (en := .im (.int m)) (ev_v env rfl) fun _ H2 x2 _ env => ?_
      walk_at "sq"
      rw [comeN_s, em]
      generalize hc : comeN S t.later t.tokens i = c at *
      have hcl : c.1.length = i := by rw [← hc]; exact comeN_len S _ _ i
      obtain ⟨cs, tk', lo⟩ := c
      cases eS : S.tokens with
      | none =>
        have eC : comeStep S (cs, tk', lo) m = (cs ++ [m], tk', lo + m - m) := by unfold comeStep; rw [eS]
        have hT : EvE K (((s'.set 6 (some x)).set 7 (some _))) H2 (tOp (rIxT K) (tVar 0) (tC (.int 7))) (.im .none) := EvE.is (by walk_at "ev") (by show En.im (encO S.tokens) = _; rw [eS]; rfl)
        refine st_if env (b := false) (EvT.is (et_test (ev_notN hT)) (by rfl)) (fun h => by cases h) fun _ H3 x3 env => ?_
        walk_at "sq"
        refine st_app (x3 la _ (x2 la _ p2)) (ev_v env rfl) (en := .im (.int m)) (ev_v env rfl) (by rw [List.length_map, sizeLine_eq]; show cs.length < _; simp at hcl; omega) fun v H4 x4 r => ?_
        obtain rfl := im_int r
        walk_at "sq"
        have hl4 := x4 la _ (x3 la _ (x2 la _ p2))
        have tk4 : Tk H' (upd H4 la (.lst (cs.map V.int ++ [V.int m]))) := (tk_of ((x2.trans x3).trans x4)).trans (tk_lst hl4)
        have env := env.mono ((tk_of x4).trans (tk_lst (u := .lst (cs.map V.int ++ [V.int m])) hl4))
        refine st_set env (en := .im (.int (lo + m - m))) (by walk_at "ev") fun _ H5 x5 _ env => ?_
        refine ⟨tk4.trans (tk_of x5), (same_upd nla (((p1.trans x2).trans x3).trans x4)).trans x5, ?_, ?_⟩
        · rw [eC, x5 la _ upd_same]
          simp
        · rw [eC]
          exact env.weak rfl fun j e he => by
            match j with
            | 0 | 1 | 2 | 3 | 4 | 5 => exact he
            | 6 | 7 => cases he
      | some tt =>
        have eC : comeStep S (cs, tk', lo) m = (cs ++ [min m tk'], tk' - min m tk', lo + m - min m tk') := by unfold comeStep; rw [eS]
        have hT : EvE K (((s'.set 6 (some x)).set 7 (some _))) H2 (tOp (rIxT K) (tVar 0) (tC (.int 7))) (.im (.int tt)) := EvE.is (by walk_at "ev") (by show En.im (encO S.tokens) = _; rw [eS]; rfl)
        refine st_if env (b := true) (EvT.is (et_test (ev_notN hT)) (by rfl)) (fun _ H3 x3 env => ?_) (fun h => by cases h)
        walk_at "sq"
        refine st_set env (en := .im (.int (min m tk'))) (by walk_at "ev") fun _ H3' x3' _ env => ?_
        walk_at "sq"
        refine st_set env (en := .im (.int (tk' - min m tk'))) (by walk_at "ev") fun _ H3'' x3'' _ env => ?_
        walk_at "sq"
        have x33 := (x3.trans x3').trans x3''
        refine st_app (x33 la _ (x2 la _ p2)) (ev_v env rfl) (en := .im (.int (min m tk'))) (ev_v env rfl) (by rw [List.length_map, sizeLine_eq]; show cs.length < _; simp at hcl; omega) fun v H4 x4 r => ?_
        obtain rfl := im_int r
        walk_at "sq"
        have hl4 := x4 la _ (x33 la _ (x2 la _ p2))
        have tk4 : Tk H' (upd H4 la (.lst (cs.map V.int ++ [V.int (min m tk')]))) := (tk_of ((x2.trans x33).trans x4)).trans (tk_lst hl4)
        have env := env.mono ((tk_of x4).trans (tk_lst (u := .lst (cs.map V.int ++ [V.int (min m tk')])) hl4))
        refine st_set env (en := .im (.int (lo + m - min m tk'))) (by walk_at "ev") fun _ H5 x5 _ env => ?_
        refine ⟨tk4.trans (tk_of x5), (same_upd nla (((p1.trans x2).trans x33).trans x4)).trans x5, ?_, ?_⟩
        · rw [eC, x5 la _ upd_same]
          simp
        · rw [eC]
          exact env.weak rfl fun j e he => by
            match j with
            | 0 | 1 | 2 | 3 | 4 | 5 => exact he
            | 6 | 7 => cases he
  · rintro s' H' ⟨p1, p2, env⟩
    rw [List.length_map] at p2 env
    walk_at "sq"
    refine st_retTL (ds := ((comeN S t.later t.tokens t.later.length).1 ++ [fr]).map .int) (es := [.im (.int (comeN S t.later t.tokens t.later.length).2.1), .im (.int (comeN S t.later t.tokens t.later.length).2.2)])
      (EvL.is (el_cat p2 (ints_imAll _) (ev_v env rfl) (el_lst (ds := [.int fr]) (by walk_at "ev") (by show 1 ≤ sizeLine; decide)) ?_) (by simp)) (by walk_at "ev") (by show 3 ≤ sizeLine; decide) fun a la' ys zs H5 x5 hla' hys ha hzs => ?_
    · rw [List.length_map, comeN_len, sizeLine_eq]
      show t.later.length + 1 ≤ _
      omega
    · obtain ⟨v, w', e, r1, r2⟩ := enAll2 hzs
      rw [e, im_int r1, im_int r2] at ha
      rw [imAll_ints hys] at hla'
      exact k a la' H5 (p1.trans x5) ha hla'
end
end CB

/-! ## KB2 -/
set_option Elab.async false
set_option linter.all false
set_option maxRecDepth 100000
set_option maxHeartbeats 4000000
namespace CB
open PySem PySem.Spec L2
local macro_rules | `(tactic| walk_at "ev1") => `(tactic| (first
  | exact ev_i | exact ev_b | exact ev_n | exact ev_s | exact ev_v (by assumption) rfl | exact ea_n
  | refine' ea_c ?_ ?_ | with_reducible refine' ev_ixT ?_ ?_ ?_ | with_reducible refine' ev_ixTl ?_ ?_ ?_
  | with_reducible refine' ev_add ?_ ?_ | with_reducible refine' ev_sub ?_ ?_
  | with_reducible refine' ev_lt ?_ ?_ | with_reducible refine' ev_le ?_ ?_ | with_reducible refine' ev_gt ?_ ?_ | with_reducible refine' ev_ge ?_ ?_
  | with_reducible refine' ev_eqI ?_ ?_ | with_reducible refine' ev_neI ?_ ?_ | with_reducible refine' ev_eqS ?_ ?_
  | with_reducible refine' ev_isN ?_ | with_reducible refine' ev_notN ?_ | with_reducible refine' ev_chain ?_ ?_ ?_ | with_reducible refine' ev_neg ?_
  | with_reducible refine' is_ii ?_ | with_reducible refine' is_ib ?_ | with_reducible refine' is_bb ?_ | with_reducible refine' is_ss ?_ | with_reducible refine' is_tt ?_
  | with_reducible refine' ev_andV ?_ ?_ | with_reducible refine' ev_orV ?_ ?_ | with_reducible refine' ev_notV ?_
  | with_reducible refine' ev_lenT ?_ | with_reducible refine' ev_min ?_ ?_ | with_reducible refine' ev_max ?_ ?_
  | with_reducible refine' et_test ?_ | with_reducible refine' et_B ?_ | with_reducible refine' et_not ?_ | with_reducible refine' et_and ?_ ?_ | with_reducible refine' et_or ?_ ?_ | exact et_yes
  | with_reducible refine' eo_some ?_ | exact eo_none | (with_reducible intro _) | rfl))
local macro_rules | `(tactic| walk_at "ev") => `(tactic| repeat' walk_at "ev1")
local macro_rules | `(tactic| walk_at "sq") => `(tactic| try dsimp only [tSeq, tNext])
local macro_rules | `(tactic| walk_at "cx") => `(tactic| try dsimp only [cxOf, Cx.nox, Cx.wish])

local macro_rules | `(tactic| walk_at "ev1") => `(tactic| with_reducible refine' ev_whole ?_ ?_ ?_)
local macro_rules | `(tactic| walk_at "ev1") => `(tactic| with_reducible refine' ev_count ?_)
local macro_rules | `(tactic| walk_at "ev1") => `(tactic| with_reducible refine' ev_tok ?_)
local macro_rules | `(tactic| walk_at "ev1") => `(tactic| with_reducible refine' ev_rest ?_)
section
variable {P : Program} {w : World} {K : Fg} {mg : Str → Option Value} {base : Heap}
abbrev s_served : Stmt := top 36
theorem sc_served : FnScope ["setting", "dead", "queue", "answered", "wasted"] ["setting", "dead", "queue"] (defScope s_served) := ⟨rfl, rfl, rfl, by decide +kernel, rfl, by decide +kernel, by decide +kernel⟩
def encSv (r : Int × Int × List (Int × Int)) : PyData := .tuple [.int r.1, .int r.2.1, encQ r.2.2]
def R_served : List PyData → PyData → Prop := fun ds d => ∃ (S : Setg) (dead : Int) (q : List (Int × Int)), ds = [encS S, .int dead, encQ q] ∧ (S.Ok ∧ 0 ≤ dead) ∧ d = encSv (servedM S dead q)
theorem cut_to (ds : List PyData) (n : Nat) (h : n ≤ ds.length) : ds.take n = (ds.drop (HT.sIx ds.length 0 none)).take (HT.sIx ds.length ds.length (some (n : Int)) - HT.sIx ds.length 0 none) := by
  rw [HT.sIx_nat, HT.sIx_none, List.drop_zero, Nat.sub_zero, Nat.min_eq_left h]
theorem cut_from (ds : List PyData) (n : Nat) (h : n ≤ ds.length) : ds.drop n = (ds.drop (HT.sIx ds.length 0 (some (n : Int)))).take (HT.sIx ds.length ds.length none - HT.sIx ds.length 0 (some (n : Int))) := by
  rw [HT.sIx_nat, HT.sIx_none, Nat.min_eq_left h]
  exact (List.take_of_length_le (by simp)).symm
theorem ways_eq (b : Bool) : decide (wayS b = ("newest" : Str)) = b := by cases b <;> decide +kernel
theorem d_served (B : Bn K mg) (F : FnP K mg "served" s_served) : Df P w K mg base 1 "served" ["setting", "dead", "queue"] (spD K R_served) := by
  refine df_of F sc_served (spD_len fun ds d h => by obtain ⟨_, _, _, e, _⟩ := h; rw [e]; rfl) (fun _ _ _ _ _ _ us hl => match us, hl with | [_, _, _], _ => rfl) fun f cdv A outer s H vs Q E hr h => ?_
  refine ⟨_, (pss_cons (ps_if (pt_cmpR op_eq (pe_ix ix_tup (pv 0) pe_int (fun _ _ => rfl)) pe_str (nomark _)) (pss_cons (ps_set (i := 3) sc_served.nd rfl (by first | exact Or.inl rfl | exact Or.inr rfl) (pe_callB (c_min rfl) rfl B.min bt_min (pa_cons (pe_ix ix_tup (pv 0) pe_int (fun _ _ => rfl)) (pa_cons (pe_callB c_len rfl B.len bt_len (pa_cons (pv 2) pa_nil)) pa_nil))))
  (pss_one (ps_ret (pe_tup (pa_cons (pv 3) (pa_cons (pe_callB (c_min rfl) rfl B.min bt_min (pa_cons (pe_op op_sub (pe_ix ix_tup (pv 0) pe_int (fun _ _ => rfl)) (pv 3)) (pa_cons (pv 1) pa_nil))) (pa_cons (pe_slice sl_tupA (pv 2) po_none (po_some (pe_op op_sub (pe_callB c_len rfl B.len bt_len (pa_cons (pv 2) pa_nil)) (pv 3)))) pa_nil))))))) pss_nil)
  (pss_cons (ps_set (i := 4) sc_served.nd rfl (by first | exact Or.inl rfl | exact Or.inr rfl) (pe_callB (c_min rfl) rfl B.min bt_min (pa_cons (pe_ix ix_tup (pv 0) pe_int (fun _ _ => rfl)) (pa_cons (pv 1) pa_nil))))
  (pss_cons (ps_set (i := 3) sc_served.nd rfl (by first | exact Or.inl rfl | exact Or.inr rfl) (pe_callB (c_min rfl) rfl B.min bt_min (pa_cons (pe_op op_sub (pe_ix ix_tup (pv 0) pe_int (fun _ _ => rfl)) (pv 4)) (pa_cons (pe_callB c_len rfl B.len bt_len (pa_cons (pv 2) pa_nil)) pa_nil))))
  (pss_one (ps_ret (pe_tup (pa_cons (pv 3) (pa_cons (pv 4) (pa_cons (pe_slice sl_tupA (pv 2) (po_some (pv 3)) po_none) pa_nil))))))))), ?_⟩
  obtain ⟨ds, d, him, ⟨S, dead, q, rfl, ⟨ok, hd⟩, rfl⟩, k⟩ := h
  have env := env_d (N := ["setting", "dead", "queue", "answered", "wasted"]) him
  walk_at "cx"
  walk_at "sq"
  have h1 := ok.w1
  have hw : EvT K (L2.start ["setting", "dead", "queue", "answered", "wasted"] vs) H (tTest (tOp rEq (tOp (rIxT K) (tVar 0) (tC (.int 5))) (tC (.str "newest")))) S.newest := EvT.is (et_test (ev_eqS (x := wayS S.newest) (by walk_at "ev") ev_s)) (ways_eq _)
  refine st_if env hw (fun hn H1 x1 env => ?_) (fun hn H1 x1 env => ?_)
  · walk_at "sq"
    refine st_set env (en := .im (.int (min S.work q.length))) (EvE.is (ev_min (i := S.work) (by walk_at "ev") (ev_lenT (ds := q.map encP) (ev_v env rfl))) (by rw [List.length_map])) fun _ H2 x2 _ env => ?_
    walk_at "sq"
    refine st_retD (EvE.is (ev_tup (ds := [_, _, _]) (ea_c (ev_v env rfl) (ea_c (ev_min (i := S.work - min S.work q.length) (by walk_at "ev") (ev_v env rfl)) (ea_c (ev_slT (ds := q.map encP) (es := (q.map encP).take ((q.length : Int) - min S.work q.length).toNat) (ev_v env rfl) eo_none (eo_some (i := ((((q.length : Int) - min S.work q.length).toNat : Nat) : Int)) (EvE.is (ev_sub (ev_lenT (ds := q.map encP) (ev_v env rfl)) (ev_v env rfl)) ?_)) (cut_to _ _ ?_)) ea_n))) (by show 3 ≤ sizeLine; decide)) ?_) fun v H3 x3 r => k v H3 ((x1.trans x2).trans x3) r
    · rw [List.length_map, Int.toNat_of_nonneg (by omega)]
    · rw [List.length_map]
      omega
    · unfold servedM encSv encQ
      rw [if_pos hn, List.map_take]
  · walk_at "sq"
    refine st_set env (en := .im (.int (min S.work dead))) (ev_min (i := S.work) (by walk_at "ev") (ev_v env rfl)) fun _ H2 x2 _ env => ?_
    walk_at "sq"
    refine st_set env (en := .im (.int (min (S.work - min S.work dead) q.length))) (EvE.is (ev_min (i := S.work - min S.work dead) (by walk_at "ev") (ev_lenT (ds := q.map encP) (ev_v env rfl))) (by rw [List.length_map])) fun _ H3 x3 _ env => ?_
    walk_at "sq"
    refine st_retD (EvE.is (ev_tup (ds := [_, _, _]) (ea_c (ev_v env rfl) (ea_c (ev_v env rfl) (ea_c (ev_slT (ds := q.map encP) (es := (q.map encP).drop (min (S.work - min S.work dead) q.length).toNat) (ev_v env rfl) (eo_some (i := (((min (S.work - min S.work dead) q.length).toNat : Nat) : Int)) (EvE.is (ev_v env rfl) ?_)) eo_none (cut_from _ _ ?_)) ea_n))) (by show 3 ≤ sizeLine; decide)) ?_) fun v H4 x4 r => k v H4 (((x1.trans x2).trans x3).trans x4) r
    · rw [Int.toNat_of_nonneg (by omega)]
    · rw [List.length_map]
      omega
    · unfold servedM encSv encQ
      rw [if_neg (by rw [hn]; exact Bool.false_ne_true), List.map_drop]
theorem ev_served {s : L2.St} {H : Hp} {ta tb tc : TE} {S : Setg} {dead : Int} {q : List (Int × Int)} {E : XK} (h1 : EvE K s H ta (.im (encS S))) (h2 : EvE K s H tb (.im (.int dead))) (h3 : EvE K s H tc (.im (encQ q))) (ok : S.Ok) (hd : 0 ≤ dead) :
    EvE K s H (tCall (spD K R_served) [] E (tCons ta (tCons tb (tCons tc tNil)))) (.im (encSv (servedM S dead q))) := ev_callD (ds := [encS S, .int dead, encQ q]) (ea_c h1 (ea_c h2 (ea_c h3 ea_n))) rfl ⟨S, dead, q, rfl, ⟨ok, hd⟩, rfl⟩
end
end CB

/-! ## KB3 -/
set_option Elab.async false
set_option linter.all false
set_option maxRecDepth 100000
set_option maxHeartbeats 4000000
namespace CB
open PySem PySem.Spec L2
local macro_rules | `(tactic| walk_at "ev1") => `(tactic| (first
  | exact ev_i | exact ev_b | exact ev_n | exact ev_s | exact ev_v (by assumption) rfl | exact ea_n
  | refine' ea_c ?_ ?_ | with_reducible refine' ev_ixT ?_ ?_ ?_ | with_reducible refine' ev_ixTl ?_ ?_ ?_
  | with_reducible refine' ev_add ?_ ?_ | with_reducible refine' ev_sub ?_ ?_
  | with_reducible refine' ev_lt ?_ ?_ | with_reducible refine' ev_le ?_ ?_ | with_reducible refine' ev_gt ?_ ?_ | with_reducible refine' ev_ge ?_ ?_
  | with_reducible refine' ev_eqI ?_ ?_ | with_reducible refine' ev_neI ?_ ?_ | with_reducible refine' ev_eqS ?_ ?_
  | with_reducible refine' ev_isN ?_ | with_reducible refine' ev_notN ?_ | with_reducible refine' ev_chain ?_ ?_ ?_ | with_reducible refine' ev_neg ?_
  | with_reducible refine' is_ii ?_ | with_reducible refine' is_ib ?_ | with_reducible refine' is_bb ?_ | with_reducible refine' is_ss ?_ | with_reducible refine' is_tt ?_
  | with_reducible refine' ev_andV ?_ ?_ | with_reducible refine' ev_orV ?_ ?_ | with_reducible refine' ev_notV ?_
  | with_reducible refine' ev_lenT ?_ | with_reducible refine' ev_min ?_ ?_ | with_reducible refine' ev_max ?_ ?_
  | with_reducible refine' et_test ?_ | with_reducible refine' et_B ?_ | with_reducible refine' et_not ?_ | with_reducible refine' et_and ?_ ?_ | with_reducible refine' et_or ?_ ?_ | exact et_yes
  | with_reducible refine' eo_some ?_ | exact eo_none | (with_reducible intro _) | rfl))
local macro_rules | `(tactic| walk_at "ev") => `(tactic| repeat' walk_at "ev1")
local macro_rules | `(tactic| walk_at "sq") => `(tactic| try dsimp only [tSeq, tNext])
local macro_rules | `(tactic| walk_at "cx") => `(tactic| try dsimp only [cxOf, Cx.nox, Cx.wish])

local macro_rules | `(tactic| walk_at "ev1") => `(tactic| with_reducible refine' ev_whole ?_ ?_ ?_)
local macro_rules | `(tactic| walk_at "ev1") => `(tactic| with_reducible refine' ev_count ?_)
local macro_rules | `(tactic| walk_at "ev1") => `(tactic| with_reducible refine' ev_tok ?_)
local macro_rules | `(tactic| walk_at "ev1") => `(tactic| with_reducible refine' ev_rest ?_)
section
variable {P : Program} {w : World} {K : Fg} {mg : Str → Option Value} {base : Heap}
abbrev s_shut_then : Stmt := top 38
theorem sc_shut_then : FnScope ["setting", "door", "failed"] ["setting", "door", "failed"] (defScope s_shut_then) := ⟨rfl, rfl, rfl, by decide +kernel, rfl, by decide +kernel, by decide +kernel⟩
def R_shut : List PyData → PyData → Prop := fun ds d => ∃ (S : Setg) (door failed : Int), ds = [encS S, .int door, .int failed] ∧ d = .int (shutM S door failed)
theorem d_shut_then (B : Bn K mg) (F : FnP K mg "shut_then" s_shut_then) : Df P w K mg base 1 "shut_then" ["setting", "door", "failed"] (spD K R_shut) := by
  refine df_of F sc_shut_then (spD_len fun ds d h => by obtain ⟨_, _, _, e, _⟩ := h; rw [e]; rfl) (fun _ _ _ _ _ _ us hl => match us, hl with | [_, _, _], _ => rfl) fun f cdv A outer s H vs Q E hr h => ?_
  refine ⟨_, (pss_cons (ps_if (pt_cmpR op_gt (pv 1) pe_int (nomark _)) (pss_one (ps_ret (pe_op op_sub (pv 1) pe_int))) pss_nil)
  (pss_cons (ps_if (PW.pt (pw_or (pt_cmpR o_isN (pe_ix ix_tup (pv 0) pe_int (fun _ _ => rfl)) pe_non (nomark _)) (pw_or1 (pt_cmpR op_lt (pv 2) (pe_ix ix_tup (pe_ix ix_tup (pv 0) pe_int (fun _ _ => rfl)) pe_int (fun _ _ => rfl)) (nomark _))))) (pss_one (ps_ret pe_int)) pss_nil)
  (pss_one (ps_ret (pe_ix ix_tup (pe_ix ix_tup (pv 0) pe_int (fun _ _ => rfl)) pe_int (fun _ _ => rfl)))))), ?_⟩
  obtain ⟨ds, d, him, ⟨S, door, failed, rfl, rfl⟩, k⟩ := h
  have env := env_d (N := ["setting", "door", "failed"]) him
  walk_at "cx"
  walk_at "sq"
  refine st_if env (b := decide (0 < door)) (by walk_at "ev") (fun hn H1 x1 env => ?_) (fun hn H1 x1 env => ?_)
  · walk_at "sq"
    refine st_retD (EvE.is (e2 := .im (.int (shutM S door failed))) (by walk_at "ev") ?_) fun v H2 x2 r => k v H2 (x1.trans x2) r
    unfold shutM
    rw [if_pos (of_decide_eq_true hn)]
  · walk_at "sq"
    have hn := of_decide_eq_false hn
    obtain ⟨b1, b2, b3, b4, b5, b6, b7, fu⟩ := S
    cases fu with
    | none =>
      refine st_if env (b := true) (EvT.is (et_or (b' := true) (et_test (ev_isN (by walk_at "ev"))) (fun h => by cases h)) (by rfl)) (fun _ H2 x2 env => ?_) (fun h => by cases h)
      walk_at "sq"
      refine st_retD (K := K) (d := .int 0) ev_i fun v H3 x3 r => k v H3 ((x1.trans x2).trans x3) ?_
      unfold shutM
      rw [if_neg hn]
      exact r
    | some p =>
      obtain ⟨p1, p2⟩ := p
      refine st_if env (b := decide (failed < p1)) (EvT.is (by walk_at "ev") (by simp [isNone, encF])) (fun hf H2 x2 env => ?_) (fun hf H2 x2 env => ?_)
      · walk_at "sq"
        refine st_retD (K := K) (d := .int 0) ev_i fun v H3 x3 r => k v H3 ((x1.trans x2).trans x3) ?_
        unfold shutM
        rw [if_neg hn]
        show Im K H3 v (.int (if failed < p1 then 0 else p2))
        rw [if_pos (of_decide_eq_true hf)]
        exact r
      · walk_at "sq"
        refine st_retD (d := .int p2) (by walk_at "ev") fun v H3 x3 r => k v H3 ((x1.trans x2).trans x3) ?_
        unfold shutM
        rw [if_neg hn]
        show Im K H3 v (.int (if failed < p1 then 0 else p2))
        rw [if_neg (of_decide_eq_false hf)]
        exact r
theorem ev_shut {s : L2.St} {H : Hp} {ta tb tc : TE} {S : Setg} {door failed : Int} {E : XK} (h1 : EvE K s H ta (.im (encS S))) (h2 : EvE K s H tb (.im (.int door))) (h3 : EvE K s H tc (.im (.int failed))) :
    EvE K s H (tCall (spD K R_shut) [] E (tCons ta (tCons tb (tCons tc tNil)))) (.im (.int (shutM S door failed))) := ev_callD (ds := [encS S, .int door, .int failed]) (ea_c h1 (ea_c h2 (ea_c h3 ea_n))) rfl ⟨S, door, failed, rfl, rfl⟩
end
end CB

/-! ## KB4 -/
set_option Elab.async false
set_option linter.all false
set_option maxRecDepth 100000
set_option maxHeartbeats 4000000
namespace CB
open PySem PySem.Spec L2
local macro_rules | `(tactic| walk_at "ev1") => `(tactic| (first
  | exact ev_i | exact ev_b | exact ev_n | exact ev_s | exact ev_v (by assumption) rfl | exact ea_n
  | refine' ea_c ?_ ?_ | with_reducible refine' ev_ixT ?_ ?_ ?_ | with_reducible refine' ev_ixTl ?_ ?_ ?_
  | with_reducible refine' ev_add ?_ ?_ | with_reducible refine' ev_sub ?_ ?_
  | with_reducible refine' ev_lt ?_ ?_ | with_reducible refine' ev_le ?_ ?_ | with_reducible refine' ev_gt ?_ ?_ | with_reducible refine' ev_ge ?_ ?_
  | with_reducible refine' ev_eqI ?_ ?_ | with_reducible refine' ev_neI ?_ ?_ | with_reducible refine' ev_eqS ?_ ?_
  | with_reducible refine' ev_isN ?_ | with_reducible refine' ev_notN ?_ | with_reducible refine' ev_chain ?_ ?_ ?_ | with_reducible refine' ev_neg ?_
  | with_reducible refine' is_ii ?_ | with_reducible refine' is_ib ?_ | with_reducible refine' is_bb ?_ | with_reducible refine' is_ss ?_ | with_reducible refine' is_tt ?_
  | with_reducible refine' ev_andV ?_ ?_ | with_reducible refine' ev_orV ?_ ?_ | with_reducible refine' ev_notV ?_
  | with_reducible refine' ev_lenT ?_ | with_reducible refine' ev_min ?_ ?_ | with_reducible refine' ev_max ?_ ?_
  | with_reducible refine' et_test ?_ | with_reducible refine' et_B ?_ | with_reducible refine' et_not ?_ | with_reducible refine' et_and ?_ ?_ | with_reducible refine' et_or ?_ ?_ | exact et_yes
  | with_reducible refine' eo_some ?_ | exact eo_none | (with_reducible intro _) | rfl))
local macro_rules | `(tactic| walk_at "ev") => `(tactic| repeat' walk_at "ev1")
local macro_rules | `(tactic| walk_at "sq") => `(tactic| try dsimp only [tSeq, tNext])
local macro_rules | `(tactic| walk_at "cx") => `(tactic| try dsimp only [cxOf, Cx.nox, Cx.wish])

local macro_rules | `(tactic| walk_at "ev1") => `(tactic| with_reducible refine' ev_whole ?_ ?_ ?_)
local macro_rules | `(tactic| walk_at "ev1") => `(tactic| with_reducible refine' ev_count ?_)
local macro_rules | `(tactic| walk_at "ev1") => `(tactic| with_reducible refine' ev_tok ?_)
local macro_rules | `(tactic| walk_at "ev1") => `(tactic| with_reducible refine' ev_rest ?_)
section
variable {P : Program} {w : World} {K : Fg} {mg : Str → Option Value} {base : Heap}
abbrev s_aged : Stmt := top 37
theorem sc_aged : FnScope ["setting", "queue", "stay", "left", "age"] ["setting", "queue"] (defScope s_aged) := ⟨rfl, rfl, rfl, by decide +kernel, rfl, by decide +kernel, by decide +kernel⟩
/-- (the queue then, the tries behind those that gave up) -/
def spAged (K : Fg) : Sp := fun vs H Q _ => ∃ (S : Setg) (q : List (Int × Int)), ImAll K H vs [encS S, encQ q] ∧ q.length ≤ 1000 ∧
  ∀ a la v H', Same H H' → H' a = some (.tup [v, .ref la]) → Im K H' v (encQ (stayM S q)) → H' la = some (.lst ((gaveM S q).map V.int)) → Q (.ref a) H'
def ageD (d : PyData) : Int := match d with
  | .tuple [_, .int a] => a
  | _ => 0
def leftD (d : PyData) : PyData := match d with
  | .tuple [a, _] => a
  | _ => .none
theorem stay_eq (S : Setg) (q : List (Int × Int)) : ((q.map encP).filter fun d => decide (ageD d + 1 < S.patience)).map (fun d => PyData.tuple [leftD d, .int (ageD d + 1)]) = (stayM S q).map encP := by
  unfold stayM
  rw [List.filter_map, List.map_map, List.map_map]
  rfl
theorem gave_eq (S : Setg) (q : List (Int × Int)) : ((q.map encP).filter fun d => decide (S.patience ≤ ageD d + 1)).map leftD = (gaveM S q).map .int := by
  unfold gaveM
  rw [List.filter_map, List.map_map, List.map_map]
  rfl
theorem d_aged (B : Bn K mg) (F : FnP K mg "aged" s_aged) : Df P w K mg base 1 "aged" ["setting", "queue"] (spAged K) := by
  refine df_of F sc_aged (fun vs H Q E h => by obtain ⟨_, _, e, _⟩ := h; exact imAll_len e) (fun _ _ _ _ _ _ us hl => match us, hl with | [_, _], _ => rfl) fun f cdv A outer s H vs Q E hr h => ?_
  refine ⟨_, (pss_cons (ps_setLc (i := 2) (own := [("left", 3), ("age", 4)]) rfl sc_aged.nd rfl rfl (sw_true rfl rfl rfl (by decide +kernel)) (pi_tup (pv 1)) (blkOk_by (own := [("left", 3), ("age", 4)]) (N := ["setting", "queue", "stay", "left", "age"]) (sc := defScope s_aged) (by decide +kernel)) (fun _ _ _ _ _ => (pg_tupK K (by rfl) (n := 2) rfl (pgs_cons (pg_name (i := 3) sc_aged.nd rfl (by first | exact Or.inl rfl | exact Or.inr rfl) (by first | exact .inr rfl | exact .inl rfl)) (pgs_cons (pg_name (i := 4) sc_aged.nd rfl (by first | exact Or.inl rfl | exact Or.inr rfl) (by first | exact .inr rfl | exact .inl rfl)) pgs_nil)))) (fun _ _ _ _ _ => (pts_one (pt_cmpR op_lt (pe_op op_add (pv 4) pe_int) (pe_ix (ix_tupK K (by rfl)) (pv 0) pe_int (fun _ _ => rfl)) (nomark _)))) (fun _ _ _ _ _ => (pe_tup (pa_cons (pv 3) (pa_cons (pe_op op_add (pv 4) pe_int) pa_nil)))))
  (pss_one (ps_ret (pe_tup (pa_cons (pe_callTy c_tup rfl B.tuple bt_tuple (pa_cons (pv 2) pa_nil)) (pa_cons (pe_lc (own := [("left", 3), ("age", 4)]) rfl sc_aged.nd (pi_tup (pv 1)) (blkOk_by (own := [("left", 3), ("age", 4)]) (N := ["setting", "queue", "stay", "left", "age"]) (sc := defScope s_aged) (by decide +kernel)) (fun _ _ _ _ _ => (pg_tupK K (by rfl) (n := 2) rfl (pgs_cons (pg_name (i := 3) sc_aged.nd rfl (by first | exact Or.inl rfl | exact Or.inr rfl) (by first | exact .inr rfl | exact .inl rfl)) (pgs_cons (pg_name (i := 4) sc_aged.nd rfl (by first | exact Or.inl rfl | exact Or.inr rfl) (by first | exact .inr rfl | exact .inl rfl)) pgs_nil)))) (fun _ _ _ _ _ => (pts_one (pt_cmpR op_ge (pe_op op_add (pv 4) pe_int) (pe_ix (ix_tupK K (by rfl)) (pv 0) pe_int (fun _ _ => rfl)) (nomark _)))) (fun _ _ _ _ _ => (pv 3))) pa_nil)))))), ?_⟩
  obtain ⟨S, q, him, hq, k⟩ := h
  have env := env_d (N := ["setting", "queue", "stay", "left", "age"]) him
  walk_at "cx"
  walk_at "sq"
  have hz : (q.map encP).length < sizeLine := by rw [sizeLine_eq, List.length_map]; omega
  have hun : ∀ d, d ∈ q.map encP → d = .tuple (unT d) ∧ (unT d).length = 2 := fun d hd => by
    obtain ⟨p, hp, rfl⟩ := List.mem_map.mp hd
    exact ⟨rfl, rfl⟩
  refine st_setL env (EvL.is (el_lcN (is := [3, 4]) unT (fun d => decide (ageD d + 1 < S.patience)) (fun d => PyData.tuple [leftD d, .int (ageD d + 1)]) env (ei_tup (ds := q.map encP) (ev_v env rfl)) hz rfl hun (fun d hd s4 H4 x4 env => ?_) fun d hd _ s4 H4 x4 env => ?_) (stay_eq S q)) fun p xs H1 x1 np hp hx env => ?_
  · obtain ⟨p, hp, rfl⟩ := List.mem_map.mp hd
    exact EvT.is (et_test (ev_lt (i := p.2 + 1) (j := S.patience) (by walk_at "ev") (by walk_at "ev"))) rfl
  · obtain ⟨p, hp, rfl⟩ := List.mem_map.mp hd
    exact EvE.is (ev_tup2 (e1 := .int p.1) (e2 := .int (p.2 + 1)) (ev_v env rfl) (by walk_at "ev")) rfl
  walk_at "sq"
  refine st_retTL2 (en := .im (encQ (stayM S q))) (ev_tupR (SqL.of hp) hx (ev_v env rfl)) (EvL.is (el_lcN (is := [3, 4]) unT (fun d => decide (S.patience ≤ ageD d + 1)) leftD env (ei_tup (ds := q.map encP) (ev_v env rfl)) hz rfl hun (fun d hd s4 H4 x4 env => ?_) fun d hd _ s4 H4 x4 env => ?_) (gave_eq S q)) fun a la ys v H2 x2 hla hys ha hv => ?_
  · obtain ⟨p, hp, rfl⟩ := List.mem_map.mp hd
    exact EvT.is (et_test (ev_ge (i := p.2 + 1) (j := S.patience) (by walk_at "ev") (by walk_at "ev"))) rfl
  · obtain ⟨p, hp, rfl⟩ := List.mem_map.mp hd
    exact EvE.is (ev_v env rfl) rfl
  rw [imAll_ints hys] at hla
  exact k a la v H2 (x1.trans x2) ha hv hla
end
end CB

/-! ## KB5 -/
set_option Elab.async false
set_option linter.all false
set_option maxRecDepth 100000
set_option maxHeartbeats 4000000
namespace CB
open PySem PySem.Spec L2
local macro_rules | `(tactic| walk_at "ev1") => `(tactic| (first
  | exact ev_i | exact ev_b | exact ev_n | exact ev_s | exact ev_v (by assumption) rfl | exact ea_n
  | refine' ea_c ?_ ?_ | with_reducible refine' ev_ixT ?_ ?_ ?_ | with_reducible refine' ev_ixTl ?_ ?_ ?_
  | with_reducible refine' ev_add ?_ ?_ | with_reducible refine' ev_sub ?_ ?_
  | with_reducible refine' ev_lt ?_ ?_ | with_reducible refine' ev_le ?_ ?_ | with_reducible refine' ev_gt ?_ ?_ | with_reducible refine' ev_ge ?_ ?_
  | with_reducible refine' ev_eqI ?_ ?_ | with_reducible refine' ev_neI ?_ ?_ | with_reducible refine' ev_eqS ?_ ?_
  | with_reducible refine' ev_isN ?_ | with_reducible refine' ev_notN ?_ | with_reducible refine' ev_chain ?_ ?_ ?_ | with_reducible refine' ev_neg ?_
  | with_reducible refine' is_ii ?_ | with_reducible refine' is_ib ?_ | with_reducible refine' is_bb ?_ | with_reducible refine' is_ss ?_ | with_reducible refine' is_tt ?_
  | with_reducible refine' ev_andV ?_ ?_ | with_reducible refine' ev_orV ?_ ?_ | with_reducible refine' ev_notV ?_
  | with_reducible refine' ev_lenT ?_ | with_reducible refine' ev_min ?_ ?_ | with_reducible refine' ev_max ?_ ?_
  | with_reducible refine' et_test ?_ | with_reducible refine' et_B ?_ | with_reducible refine' et_not ?_ | with_reducible refine' et_and ?_ ?_ | with_reducible refine' et_or ?_ ?_ | exact et_yes
  | with_reducible refine' eo_some ?_ | exact eo_none | (with_reducible intro _) | rfl))
local macro_rules | `(tactic| walk_at "ev") => `(tactic| repeat' walk_at "ev1")
local macro_rules | `(tactic| walk_at "sq") => `(tactic| try dsimp only [tSeq, tNext])
local macro_rules | `(tactic| walk_at "cx") => `(tactic| try dsimp only [cxOf, Cx.nox, Cx.wish])

local macro_rules | `(tactic| walk_at "ev1") => `(tactic| with_reducible refine' ev_whole ?_ ?_ ?_)
local macro_rules | `(tactic| walk_at "ev1") => `(tactic| with_reducible refine' ev_count ?_)
local macro_rules | `(tactic| walk_at "ev1") => `(tactic| with_reducible refine' ev_tok ?_)
local macro_rules | `(tactic| walk_at "ev1") => `(tactic| with_reducible refine' ev_rest ?_)
section
variable {P : Program} {w : World} {K : Fg} {mg : Str → Option Value} {base : Heap}
abbrev s_entered : Stmt := top 35
theorem sc_entered : FnScope ["setting", "state", "counts", "queue", "refused", "free", "left", "many", "let"] ["setting", "state", "counts"] (defScope s_entered) := ⟨rfl, rfl, rfl, by decide +kernel, rfl, by decide +kernel, by decide +kernel⟩
/-- (the queue behind the coming, how many were refused) -/
def spEntered (K : Fg) : Sp := fun vs H Q _ => ∃ (S : Setg) (t : Stt) (cs : List Int) (lc : Addr) (v1 v2 : V), vs = [v1, v2, .ref lc] ∧ Im K H v1 (encS S) ∧ Im K H v2 (encT t) ∧ H lc = some (.lst (cs.map V.int)) ∧ S.Ok ∧ t.Ok S ∧ (∀ n, n ∈ cs → 0 ≤ n) ∧ cs.length ≤ 1000 ∧
  ∀ a la v H', Same H H' → H' a = some (.tup [v, .ref la]) → Im K H' v (encQ (entN cs t.queue (freeM S t) cs.length).1) → H' la = some (.lst ((entN cs t.queue (freeM S t) cs.length).2.1.map V.int)) → Q (.ref a) H'
theorem entN_s (l : List Int) (q : List (Int × Int)) (f0 : Int) (i : Nat) : entN l q f0 (i + 1) = entStep i (entN l q f0 i) (l.getD i 0) := rfl
theorem rep_enc (n : Nat) (i : Int) : (List.replicate n [PyData.tuple [.int i, .int 0]]).flatten = (List.replicate n (i, (0 : Int))).map encP := by
  induction n with
  | zero => rfl
  | succ n ih =>
    rw [List.replicate_succ, List.flatten_cons, ih, List.replicate_succ]
    rfl
theorem d_entered (B : Bn K mg) (F : FnP K mg "entered" s_entered) : Df P w K mg base 1 "entered" ["setting", "state", "counts"] (spEntered K) := by
  refine df_of F sc_entered (fun vs H Q E h => by obtain ⟨_, _, _, _, _, _, e, _⟩ := h; rw [e]; rfl) (fun _ _ _ _ _ _ us hl => match us, hl with | [_, _, _], _ => rfl) fun f cdv A outer s H vs Q E hr h => ?_
  refine ⟨_, (pss_cons (ps_par (i := 3) (j := 4) rfl sc_entered.nd rfl rfl (by decide) rfl rfl (pa_cons (pe_ix ix_tup (pv 1) pe_int (fun _ _ => rfl)) (pa_cons (pe_lst pa_nil) pa_nil)) (by rfl))
  (pss_cons (ps_set (i := 5) sc_entered.nd rfl (by first | exact Or.inl rfl | exact Or.inr rfl) (pe_ifExp (pt_cmpR op_eq (pe_ix ix_tup (pv 1) pe_int (fun _ _ => rfl)) pe_int (nomark _)) (pe_op op_sub (pe_op op_sub (pe_ix ix_tup (pv 0) pe_int (fun _ _ => rfl)) (pe_ix ix_tup (pv 1) pe_int (fun _ _ => rfl))) (pe_callB c_len rfl B.len bt_len (pa_cons (pv 3) pa_nil))) pe_int))
  (pss_cons (ps_for PassesOwn.never rfl (pi_enum rfl B.enumerate (pa_cons (pv 2) pa_nil)) (pg_tup rfl (pgs_cons (pg_name (i := 6) sc_entered.nd rfl (by first | exact Or.inl rfl | exact Or.inr rfl)) (pgs_cons (pg_name (i := 7) sc_entered.nd rfl (by first | exact Or.inl rfl | exact Or.inr rfl)) pgs_nil))) (pss_cons (ps_set (i := 8) sc_entered.nd rfl (by first | exact Or.inl rfl | exact Or.inr rfl) (pe_callB (c_min rfl) rfl B.min bt_min (pa_cons (pv 7) (pa_cons (pv 5) pa_nil))))
  (pss_cons (ps_set (i := 5) sc_entered.nd rfl (by first | exact Or.inl rfl | exact Or.inr rfl) (pe_op op_sub (pv 5) (pv 8)))
  (pss_cons (ps_set (i := 3) sc_entered.nd rfl (by first | exact Or.inl rfl | exact Or.inr rfl) (pe_op op_catA (pv 3) (pe_op op_mulT (pe_tup (pa_cons (pe_tup (pa_cons (pv 6) (pa_cons pe_int pa_nil))) pa_nil)) (pv 8))))
  (pss_one (ps_expr (pe_bm PySem.F.plainAttrs_list PySem.F.slot_list_append PySem.F.type_list_append mt_append (pv 4) (pa_cons (pe_op op_sub (pv 7) (pv 8)) pa_nil))))))))
  (pss_one (ps_ret (pe_tup (pa_cons (pv 3) (pa_cons (pv 4) pa_nil)))))))), ?_⟩
  obtain ⟨S, t, cs, lc, v1, v2, rfl, i1, i2, hlc, ok, tk, hcs, hcl, k⟩ := h
  have env : EnvD K H _ _ := env_start (N := ["setting", "state", "counts", "queue", "refused", "free", "left", "many", "let"]) (es := [.im (encS S), .im (encT t), .rf lc]) (.cons i1 (.cons i2 (.cons rfl .nil)))
  walk_at "cx"
  walk_at "sq"
  obtain ⟨f1, f2⟩ := freeM_nn tk
  have r2 := ok.r2
  have w2 := ok.w2
  refine st_par2L (en := .im (encQ t.queue)) env (by walk_at "ev") (el_lst (ds := []) ea_n (by decide)) fun la xs s1 H1 x1 nla hla hxs env => ?_
  cases hxs
  have nlc : lc ≠ la := ne_of_none hlc nla
  walk_at "sq"
  refine st_set env (en := .im (.int (freeM S t))) (ev_if (b := decide (t.door = 0)) (et_test (ev_eqI (by walk_at "ev") ev_i)) (fun h => ?_) (fun h => ?_)) fun _ H2 x2 _ env => ?_
  · refine EvE.is (ev_sub (i := S.room - t.dead) (by walk_at "ev") (ev_lenT (ds := t.queue.map encP) (ev_v env rfl))) ?_
    unfold freeM
    rw [if_pos (of_decide_eq_true h), List.length_map]
  · refine EvE.is ev_i ?_
    unfold freeM
    rw [if_neg (of_decide_eq_false h)]
  walk_at "sq"
  refine st_forE (a := lc) (xs := cs.map V.int) (ev_v env rfl)
    (fun i s' H' => Same H H' ∧ H' la = some (.lst ((entN cs t.queue (freeM S t) i).2.1.map V.int)) ∧
      EnvD K H' s' [some (.im (encS S)), some (.im (encT t)), some (.rf lc), some (.im (encQ (entN cs t.queue (freeM S t) i).1)), some (.rf la), some (.im (.int (entN cs t.queue (freeM S t) i).2.2)), none, none, none])
    (fun H3 x3 => ⟨(x1.trans x2).trans x3, x3 la _ (x2 la _ hla), env.mono (tk_of x3)⟩) (fun i s' H' p => p.1.seq (SqL.of hlc)) ?_ ?_
  · intro i x s' H' T hx ⟨p1, p2, env⟩ hT
    rw [List.getElem?_map] at hx
    cases e : cs[i]? with
    | none => rw [e] at hx; cases hx
    | some m =>
      rw [e] at hx
      obtain rfl : V.int m = x := Option.some.inj hx
      have em : cs.getD i 0 = m := by rw [List.getD_eq_getElem?_getD, e]; rfl
      have xT := same_new (o := .tup [.int (i : Nat), .int m]) hT
      have nT : la ≠ T := ne_of_none p2 hT
      refine g_unpack (es := [.im (.int (i : Nat)), .im (.int m)]) (is := [6, 7]) (SqT.of upd_same) (.cons (.int _) (.cons (.int _) .nil)) rfl rfl (env.mono (tk_of xT)) fun s2 env => ?_
      dsimp only [unpackE, List.set] at env
      obtain ⟨b1, b2, b3, b4, b5⟩ := entN_inv (q0 := t.queue) hcs f1 i
      have p2' := xT la _ p2
      walk_at "sq"
      rw [entN_s, em]
      have hm : 0 ≤ m := hcs m (List.mem_of_getElem? e)
      generalize hc : entN cs t.queue (freeM S t) i = c at *
      obtain ⟨q', rf', fr'⟩ := c
      dsimp only at b1 b2 b3 b4 b5 p2'
      have hi : i < cs.length := (List.getElem?_eq_some_iff.mp e).1
      have eC : entStep i (q', rf', fr') m = (q' ++ List.replicate (min m fr').toNat ((i : Int), (0 : Int)), rf' ++ [m - min m fr'], fr' - min m fr') := rfl
      refine st_set env (en := .im (.int (min m fr'))) (by walk_at "ev") fun _ H3 x3 _ env => ?_
      walk_at "sq"
      refine st_set env (en := .im (.int (fr' - min m fr'))) (by walk_at "ev") fun _ H4 x4 _ env => ?_
      walk_at "sq"
      refine st_set env (en := .im (encQ (q' ++ List.replicate (min m fr').toNat ((i : Int), (0 : Int))))) (EvE.is (ev_cat (ds := q'.map encP) (ev_v env rfl) (ev_mulT (k := min m fr') (ev_tup1 (ev_tup2 (e1 := .int (i : Nat)) (ev_v env rfl) ev_i)) (ev_v env rfl) (by simp) (by omega) (by omega) ?_) ?_) ?_) fun _ H5 x5 _ env => ?_
      · show 1 * (min m fr').toNat ≤ 1000000
        omega
      · rw [rep_enc, List.length_map, List.length_map, List.length_replicate, sizeLine_eq]
        omega
      · rw [rep_enc, encQ, List.map_append]
      walk_at "sq"
      have x345 := (x3.trans x4).trans x5
      have hl5 := x345 la _ p2'
      refine st_app hl5 (ev_v env rfl) (en := .im (.int (m - min m fr'))) (by walk_at "ev") (by rw [List.length_map, sizeLine_eq]; show rf'.length < _; omega) fun v H6 x6 r => ?_
      obtain rfl := im_int r
      have hl6 := x6 la _ hl5
      have x6' : Same H H6 := ((p1.trans xT).trans x345).trans x6
      have env := env.mono ((tk_of x6).trans (tk_lst (u := .lst (rf'.map V.int ++ [V.int (m - min m fr')])) hl6))
      refine ⟨same_upd nla x6', ?_, ?_⟩
      · rw [eC, upd_same]
        simp
      · rw [eC]
        exact env.weak rfl fun j e he => by
          match j with
          | 0 | 1 | 2 | 3 | 4 | 5 => exact he
          | 6 | 7 | 8 => cases he
  · rintro s' H' ⟨p1, p2, env⟩
    rw [List.length_map] at p2 env
    walk_at "sq"
    refine st_retT (es := [.im (encQ (entN cs t.queue (freeM S t) cs.length).1), .rf la]) (by walk_at "ev") (by show 2 ≤ sizeLine; decide) fun a vs H5 x5 ha hvs => ?_
    obtain ⟨v, w', e, r1, r2⟩ := enAll2 hvs
    rw [e, show w' = .ref la from r2] at ha
    exact k a la v H5 (p1.trans x5) ha r1 (x5 la _ p2)
end
end CB

/-! ## KB6 -/
set_option Elab.async false
set_option linter.all false
set_option maxRecDepth 100000
set_option maxHeartbeats 4000000
namespace CB
open PySem PySem.Spec L2
local macro_rules | `(tactic| walk_at "ev1") => `(tactic| (first
  | exact ev_i | exact ev_b | exact ev_n | exact ev_s | exact ev_v (by assumption) rfl | exact ea_n
  | refine' ea_c ?_ ?_ | with_reducible refine' ev_ixT ?_ ?_ ?_ | with_reducible refine' ev_ixTl ?_ ?_ ?_
  | with_reducible refine' ev_add ?_ ?_ | with_reducible refine' ev_sub ?_ ?_
  | with_reducible refine' ev_lt ?_ ?_ | with_reducible refine' ev_le ?_ ?_ | with_reducible refine' ev_gt ?_ ?_ | with_reducible refine' ev_ge ?_ ?_
  | with_reducible refine' ev_eqI ?_ ?_ | with_reducible refine' ev_neI ?_ ?_ | with_reducible refine' ev_eqS ?_ ?_
  | with_reducible refine' ev_isN ?_ | with_reducible refine' ev_notN ?_ | with_reducible refine' ev_chain ?_ ?_ ?_ | with_reducible refine' ev_neg ?_
  | with_reducible refine' is_ii ?_ | with_reducible refine' is_ib ?_ | with_reducible refine' is_bb ?_ | with_reducible refine' is_ss ?_ | with_reducible refine' is_tt ?_
  | with_reducible refine' ev_andV ?_ ?_ | with_reducible refine' ev_orV ?_ ?_ | with_reducible refine' ev_notV ?_
  | with_reducible refine' ev_lenT ?_ | with_reducible refine' ev_min ?_ ?_ | with_reducible refine' ev_max ?_ ?_
  | with_reducible refine' et_test ?_ | with_reducible refine' et_B ?_ | with_reducible refine' et_not ?_ | with_reducible refine' et_and ?_ ?_ | with_reducible refine' et_or ?_ ?_ | exact et_yes
  | with_reducible refine' eo_some ?_ | exact eo_none | (with_reducible intro _) | rfl))
local macro_rules | `(tactic| walk_at "ev") => `(tactic| repeat' walk_at "ev1")
local macro_rules | `(tactic| walk_at "sq") => `(tactic| try dsimp only [tSeq, tNext])
local macro_rules | `(tactic| walk_at "cx") => `(tactic| try dsimp only [cxOf, Cx.nox, Cx.wish])

local macro_rules | `(tactic| walk_at "ev1") => `(tactic| with_reducible refine' ev_whole ?_ ?_ ?_)
local macro_rules | `(tactic| walk_at "ev1") => `(tactic| with_reducible refine' ev_count ?_)
local macro_rules | `(tactic| walk_at "ev1") => `(tactic| with_reducible refine' ev_tok ?_)
local macro_rules | `(tactic| walk_at "ev1") => `(tactic| with_reducible refine' ev_rest ?_)
section
variable {P : Program} {w : World} {K : Fg} {mg : Str → Option Value} {base : Heap}
theorem st_callG {s : L2.St} {H : Hp} {sp : Sp} {g : TG} {ta : TA} {es : List En} {D : Ends} {E : XK} (h : EvA K s H ta es) (k : ∀ vs H1, Same H H1 → EnAll K H1 es vs → sp vs H1 (fun x H2 => g x s H2 D.nx) E) : tAsg (tCall sp [] E ta) g D s H :=
  h H (Same.refl _) _ fun vs H1 x r => by
    rw [List.append_nil]
    exact k vs H1 x r
theorem ev_cnt {s : L2.St} {H : Hp} {ta tb : TE} {a : Addr} {ns : List Int} {k : Int} (hl : SqL K H a (ns.map V.int)) (ha : EvE K s H ta (.rf a)) (hb : EvE K s H tb (.im (.int k))) : EvE K s H (tBM K "list" (rCntI K) ta (tCons tb tNil)) (.im (.int ((ns.count k : Nat) : Int))) := fun H1 x1 Q q =>
  ha H1 x1 _ fun v H2 x2 r => by
    obtain rfl : v = .ref a := r
    refine ⟨Or.inl ⟨rfl, _, (x1.trans x2).seq hl⟩, ?_⟩
    refine hb H2 (x1.trans x2) _ fun y H3 x3 ry => ?_
    rw [im_int ry]
    exact ⟨a, ns, k, rfl, rfl, ((x1.trans x2).trans x3).seq hl, q _ H3 (x2.trans x3) (.int _)⟩
theorem el_slL {s : L2.St} {H : Hp} {te : TE} {tl th : TO} {a : Addr} {xs : List V} {ds es : List PyData} {lo hi : Option Int} (hl : SqL K H a xs) (hx : ImAll K H xs ds) (h : EvE K s H te (.rf a)) (h1 : EvO K s H tl lo) (h2 : EvO K s H th hi)
    (he : es = (ds.drop (HT.sIx ds.length 0 lo)).take (HT.sIx ds.length ds.length hi - HT.sIx ds.length 0 lo)) : EvL K s H (tSl (rSlL K) te tl th) es := fun H1 x1 Q q =>
  h H1 x1 _ fun v H2 x2 r => h1 H2 (x1.trans x2) _ fun H3 x3 => h2 H3 ((x1.trans x2).trans x3) _ fun H4 x4 => by
    have x04 := ((x1.trans x2).trans x3).trans x4
    refine ⟨a, xs, r, x04.seq hl, fun p hp => ?_⟩
    have xn := same_new (o := .lst (cutV xs lo hi)) hp
    refine q p _ _ (((x2.trans x3).trans x4).trans xn) (((x2.trans x3).trans x4).free hp) upd_same ?_
    unfold cutV
    rw [he, ← imAll_len hx]
    exact (imAll_take _ (imAll_drop _ hx)).mono (tk_of (x04.trans xn))
def encTold (r : Told) : PyData := .tuple [.int r.came, .int r.answered, .int r.wasted, .int r.refused, .int r.gave, .int r.lost, encT r.next]
def R_step : List PyData → PyData → Prop := fun ds d => ∃ (S : Setg) (t : Stt) (fr : Int), ds = [encS S, encT t, .int fr] ∧ (S.Ok ∧ t.Ok S ∧ 0 ≤ fr) ∧ d = encTold (stepM S t fr)
abbrev s_step : Stmt := top 39
theorem sc_step : FnScope ["setting", "state", "fresh", "counts", "tokens", "lost", "queue", "refused", "answered", "wasted", "gave_up", "failed", "dead", "later", "then", "left", "many"] ["setting", "state", "fresh"] (defScope s_step) := ⟨rfl, rfl, rfl, by decide +kernel, rfl, by decide +kernel, by decide +kernel⟩
theorem failed_eq (gv rf : List Int) : (enumD (rf.map .int)).map (fun d => match d with | .tuple [.int i, .int m] => PyData.int (m + ((gv.count i : Nat) : Int)) | _ => .none) = (failedM gv rf).map .int := by
  unfold enumD failedM
  refine List.ext_getElem (by simp) fun i h1 h2 => ?_
  simp
theorem mem_enumD {rf : List Int} {d : PyData} (h : d ∈ enumD (rf.map .int)) : ∃ (i : Nat) (m : Int), d = .tuple [.int (i : Nat), .int m] := by
  unfold enumD at h
  obtain ⟨i, hi, rfl⟩ := List.mem_iff_getElem.mp h
  exact ⟨i, rf[i]'(by simpa using hi), by simp⟩
theorem d_step (B : Bn K mg) (F_coming : Df P w K mg base 1 "coming" ["setting", "state", "fresh"] (spComing K)) (F_entered : Df P w K mg base 1 "entered" ["setting", "state", "counts"] (spEntered K)) (F_served : Df P w K mg base 1 "served" ["setting", "dead", "queue"] (spD K R_served))
    (F_aged : Df P w K mg base 1 "aged" ["setting", "queue"] (spAged K)) (F_shut_then : Df P w K mg base 1 "shut_then" ["setting", "door", "failed"] (spD K R_shut)) (F_most_tokens : Df P w K mg base 1 "most_tokens" ["setting"] (spD K R_tok)) (F : FnP K mg "step" s_step) : Df P w K mg base 2 "step" ["setting", "state", "fresh"] (spD K R_step) := by
  refine df_of F sc_step (spD_len fun ds d h => by obtain ⟨_, _, _, e, _⟩ := h; rw [e]; rfl) (fun _ _ _ _ _ _ us hl => match us, hl with | [_, _, _], _ => rfl) fun f cdv A outer s H vs Q E hr h => ?_
  refine ⟨_, (pss_cons (ps_asg (pe_df F_coming (hr.mono (by decide)) rfl (pa_cons (pv 0) (pa_cons (pv 1) (pa_cons (pv 2) pa_nil)))) (pg_tup rfl (pgs_cons (pg_name (i := 3) sc_step.nd rfl (by first | exact Or.inl rfl | exact Or.inr rfl)) (pgs_cons (pg_name (i := 4) sc_step.nd rfl (by first | exact Or.inl rfl | exact Or.inr rfl)) (pgs_cons (pg_name (i := 5) sc_step.nd rfl (by first | exact Or.inl rfl | exact Or.inr rfl)) pgs_nil)))))
  (pss_cons (ps_asg (pe_df F_entered (hr.mono (by decide)) rfl (pa_cons (pv 0) (pa_cons (pv 1) (pa_cons (pv 3) pa_nil)))) (pg_tup rfl (pgs_cons (pg_name (i := 6) sc_step.nd rfl (by first | exact Or.inl rfl | exact Or.inr rfl)) (pgs_cons (pg_name (i := 7) sc_step.nd rfl (by first | exact Or.inl rfl | exact Or.inr rfl)) pgs_nil))))
  (pss_cons (ps_asg (pe_df F_served (hr.mono (by decide)) rfl (pa_cons (pv 0) (pa_cons (pe_ix ix_tup (pv 1) pe_int (fun _ _ => rfl)) (pa_cons (pv 6) pa_nil)))) (pg_tup rfl (pgs_cons (pg_name (i := 8) sc_step.nd rfl (by first | exact Or.inl rfl | exact Or.inr rfl)) (pgs_cons (pg_name (i := 9) sc_step.nd rfl (by first | exact Or.inl rfl | exact Or.inr rfl)) (pgs_cons (pg_name (i := 6) sc_step.nd rfl (by first | exact Or.inl rfl | exact Or.inr rfl)) pgs_nil)))))
  (pss_cons (ps_asg (pe_df F_aged (hr.mono (by decide)) rfl (pa_cons (pv 0) (pa_cons (pv 6) pa_nil))) (pg_tup rfl (pgs_cons (pg_name (i := 6) sc_step.nd rfl (by first | exact Or.inl rfl | exact Or.inr rfl)) (pgs_cons (pg_name (i := 10) sc_step.nd rfl (by first | exact Or.inl rfl | exact Or.inr rfl)) pgs_nil))))
  (pss_cons (ps_setLc (i := 11) (own := [("left", 15), ("many", 16)]) rfl sc_step.nd rfl rfl (sw_true rfl rfl rfl (by decide +kernel)) (pi_enum rfl B.enumerate (pa_cons (pv 7) pa_nil)) (blkOk_by (own := [("left", 15), ("many", 16)]) (N := ["setting", "state", "fresh", "counts", "tokens", "lost", "queue", "refused", "answered", "wasted", "gave_up", "failed", "dead", "later", "then", "left", "many"]) (sc := defScope s_step) (by decide +kernel)) (fun _ _ _ _ _ => (pg_tupK K (by rfl) (n := 2) rfl (pgs_cons (pg_name (i := 15) sc_step.nd rfl (by first | exact Or.inl rfl | exact Or.inr rfl) (by first | exact .inr rfl | exact .inl rfl)) (pgs_cons (pg_name (i := 16) sc_step.nd rfl (by first | exact Or.inl rfl | exact Or.inr rfl) (by first | exact .inr rfl | exact .inl rfl)) pgs_nil)))) (fun _ _ _ _ _ => pts_nil) (fun _ _ _ _ _ => (pe_op op_add (pv 16) (pe_ofK K (by rfl) (fun K => tBM K "list" (rCntI K) _ _) (pe_bm PySem.F.plainAttrs_list PySem.F.slot_list_count PySem.F.type_list_count mt_lcount (pv 10) (pa_cons (pv 15) pa_nil))))))
  (pss_cons (ps_set (i := 12) sc_step.nd rfl (by first | exact Or.inl rfl | exact Or.inr rfl) (pe_op op_add (pe_op op_sub (pe_ix ix_tup (pv 1) pe_int (fun _ _ => rfl)) (pv 9)) (pe_ifExp (pt_val (pe_ix ix_tup (pv 0) pe_int (fun _ _ => rfl))) (pe_callB c_len rfl B.len bt_len (pa_cons (pv 10) pa_nil)) pe_int)))
  (pss_cons (ps_set (i := 4) sc_step.nd rfl (by first | exact Or.inl rfl | exact Or.inr rfl) (pe_callB (c_min rfl) rfl B.min bt_min (pa_cons (pe_df F_most_tokens (hr.mono (by decide)) rfl (pa_cons (pv 0) pa_nil)) (pa_cons (pe_op op_add (pv 4) (pv 8)) pa_nil))))
  (pss_cons (ps_set (i := 13) sc_step.nd rfl (by first | exact Or.inl rfl | exact Or.inr rfl) (pe_op op_catA (pe_slice sl_tupA (pe_ix ix_tup (pv 1) pe_int (fun _ _ => rfl)) (po_some pe_int) po_none) (pe_tup (pa_cons (pe_callTy c_tup rfl B.tuple bt_tuple (pa_cons (pe_slice sl_list (pv 11) (po_some pe_int) po_none) pa_nil)) pa_nil))))
  (pss_cons (ps_set (i := 14) sc_step.nd rfl (by first | exact Or.inl rfl | exact Or.inr rfl) (pe_tup (pa_cons (pv 12) (pa_cons (pv 6) (pa_cons (pv 13) (pa_cons (pv 4) (pa_cons (pe_df F_shut_then (hr.mono (by decide)) rfl (pa_cons (pv 0) (pa_cons (pe_ix ix_tup (pv 1) pe_int (fun _ _ => rfl)) (pa_cons (pe_callB (c_sum rfl) rfl B.sum bt_sum (pa_cons (pv 11) pa_nil)) pa_nil)))) pa_nil)))))))
  (pss_one (ps_ret (pe_tup (pa_cons (pe_callB (c_sum rfl) rfl B.sum bt_sum (pa_cons (pv 3) pa_nil)) (pa_cons (pv 8) (pa_cons (pv 9) (pa_cons (pe_callB (c_sum rfl) rfl B.sum bt_sum (pa_cons (pv 7) pa_nil)) (pa_cons (pe_callB c_len rfl B.len bt_len (pa_cons (pv 10) pa_nil)) (pa_cons (pe_op op_add (pv 5) (pe_ix ix_list (pv 11) pe_int (fun _ _ => rfl))) (pa_cons (pv 14) pa_nil))))))))))))))))))), ?_⟩
  obtain ⟨ds, d, him, ⟨S, t, fr, rfl, ⟨ok, tk, hfr⟩, rfl⟩, k⟩ := h
  have env := env_d (N := ["setting", "state", "fresh", "counts", "tokens", "lost", "queue", "refused", "answered", "wasted", "gave_up", "failed", "dead", "later", "then", "left", "many"]) him
  try simp only [unpackE, unpackD, wipeD, unT, List.map_cons, List.map_nil, List.length_cons, List.length_nil, List.cons_append, List.nil_append, List.replicate_succ, List.replicate_zero, List.set_cons_succ, List.set_cons_zero, Nat.reduceAdd, Nat.reduceSub] at env
  walk_at "cx"
  walk_at "sq"
  obtain ⟨f1, f2⟩ := freeM_nn tk
  have r2 := ok.r2
  have w2 := ok.w2
  have hll := tk.ll
  have ht2 := ok.t2
  have ht1 := ok.t1
  -- coming
  refine st_callG (es := [.im (encS S), .im (encT t), .im (.int fr)]) (by walk_at "ev") fun vs1 H1 x1 r1 => ⟨S, t, fr, enAll_im (ds := [encS S, encT t, .int fr]) r1, ok, tk, fun a lc H2 x2 ha hlc => ?_⟩
  have x12 := x1.trans x2
  refine g_unpack (is := [3, 4, 5]) (es := [.rf lc, .im (.int (comeN S t.later t.tokens t.later.length).2.1), .im (.int (comeN S t.later t.tokens t.later.length).2.2)]) (SqT.of ha) (.cons rfl (.cons (.int _) (.cons (.int _) .nil))) rfl rfl (env.mono (tk_of x12)) fun s2 env => ?_
  try simp only [unpackE, unpackD, wipeD, unT, List.map_cons, List.map_nil, List.length_cons, List.length_nil, List.cons_append, List.nil_append, List.replicate_succ, List.replicate_zero, List.set_cons_succ, List.set_cons_zero, Nat.reduceAdd, Nat.reduceSub] at env
  walk_at "sq"
  obtain ⟨c1, c2, c3, c4⟩ := comeN_nn (S := S) tk.l0 tk.k0 t.later.length
  have c5 := comeN_len S t.later t.tokens t.later.length
  generalize ecs : (comeN S t.later t.tokens t.later.length).1 ++ [fr] = cs at *
  have hcs : ∀ n, n ∈ cs → 0 ≤ n := fun n hn => by
    rw [← ecs] at hn
    rcases List.mem_append.mp hn with z | z
    · exact c1 n z
    · rw [List.mem_singleton.mp z]; exact hfr
  have hcl : (cs.length : Int) = S.tries := by
    rw [← ecs, List.length_append, c5]
    show ((t.later.length + 1 : Nat) : Int) = S.tries
    omega
  -- entered
  refine st_callG (es := [.im (encS S), .im (encT t), .rf lc]) (by walk_at "ev") fun vs2 H3 x3 r3 => ?_
  obtain ⟨v1, v2, v3, rfl, y1, y2, y3⟩ := enAll3 r3
  obtain rfl : v3 = .ref lc := y3
  refine ⟨S, t, cs, lc, v1, v2, rfl, y1, y2, x3 lc _ hlc, ok, tk, hcs, by omega, fun a2 lr v H4 x4 ha2 hv hlr => ?_⟩
  have x34 := x3.trans x4
  obtain ⟨b1, b2, b3, b4, b5⟩ := entN_inv (q0 := t.queue) hcs f1 cs.length
  generalize een : entN cs t.queue (freeM S t) cs.length = en at *
  obtain ⟨q1, rf, fr1⟩ := en
  dsimp only at b1 b2 b3 b4 b5 hv hlr
  refine g_unpack (is := [6, 7]) (es := [.im (encQ q1), .rf lr]) (SqT.of ha2) (.cons hv (.cons rfl .nil)) rfl rfl (env.mono (tk_of x34)) fun s4 env => ?_
  try simp only [unpackE, unpackD, wipeD, unT, List.map_cons, List.map_nil, List.length_cons, List.length_nil, List.cons_append, List.nil_append, List.replicate_succ, List.replicate_zero, List.set_cons_succ, List.set_cons_zero, Nat.reduceAdd, Nat.reduceSub] at env
  walk_at "sq"
  -- served
  generalize esv : servedM S t.dead q1 = sv at *
  refine st_unpack (is := [8, 9, 6]) (n := 3) (ds := [.int sv.1, .int sv.2.1, encQ sv.2.2]) env (EvE.is (ev_served (ev_v env rfl) (by walk_at "ev") (ev_v env rfl) ok tk.d0) (by rw [esv]; rfl)) rfl rfl fun s5 H5 x5 env => ?_
  try simp only [unpackE, unpackD, wipeD, unT, List.map_cons, List.map_nil, List.length_cons, List.length_nil, List.cons_append, List.nil_append, List.replicate_succ, List.replicate_zero, List.set_cons_succ, List.set_cons_zero, Nat.reduceAdd, Nat.reduceSub] at env
  walk_at "sq"
  have hsq : sv.2.2.length ≤ 1000 := by
    rw [← esv]
    unfold servedM
    split
    · show (q1.take _).length ≤ 1000
      rw [List.length_take]
      omega
    · show (q1.drop _).length ≤ 1000
      rw [List.length_drop]
      omega
  -- aged
  refine st_callG (es := [.im (encS S), .im (encQ sv.2.2)]) (by walk_at "ev") fun vs3 H6 x6 r6 => ⟨S, sv.2.2, enAll_im (ds := [encS S, encQ sv.2.2]) r6, hsq, fun a3 lg v' H7 x7 ha3 hv' hlg => ?_⟩
  refine g_unpack (is := [6, 10]) (es := [.im (encQ (stayM S sv.2.2)), .rf lg]) (SqT.of ha3) (.cons hv' (.cons rfl .nil)) rfl rfl (env.mono (tk_of (x6.trans x7))) fun s6 env => ?_
  try simp only [unpackE, unpackD, wipeD, unT, List.map_cons, List.map_nil, List.length_cons, List.length_nil, List.cons_append, List.nil_append, List.replicate_succ, List.replicate_zero, List.set_cons_succ, List.set_cons_zero, Nat.reduceAdd, Nat.reduceSub] at env
  walk_at "sq"
  generalize egv : gaveM S sv.2.2 = gv at *
  have hlr7 := (x5.trans (x6.trans x7)) lr _ hlr
  -- failed
  refine st_setL env (EvL.is (el_lcM (is := [15, 16]) unT (fun d => match d with | .tuple [.int i, .int m] => PyData.int (m + ((gv.count i : Nat) : Int)) | _ => .none) env (ei_enum (a := lr) (SqL.of hlr7) (ints_imAll rf) (ev_v env rfl)) ?_ rfl (fun d hd => ?_) fun d hd s8 H8 x8 env => ?_) (failed_eq gv rf)) fun lf xs H8 x8 nlf hlf hxf env => ?_
  try simp only [unpackE, unpackD, wipeD, unT, List.map_cons, List.map_nil, List.length_cons, List.length_nil, List.cons_append, List.nil_append, List.replicate_succ, List.replicate_zero, List.set_cons_succ, List.set_cons_zero, Nat.reduceAdd, Nat.reduceSub] at env
  · unfold enumD
    rw [List.length_mapIdx, List.length_map, sizeLine_eq]
    omega
  · obtain ⟨i, m, rfl⟩ := mem_enumD hd
    exact ⟨rfl, rfl⟩
  · obtain ⟨i, m, rfl⟩ := mem_enumD hd
    try simp only [unpackE, unpackD, wipeD, unT, List.map_cons, List.map_nil, List.length_cons, List.length_nil, List.cons_append, List.nil_append, List.replicate_succ, List.replicate_zero, List.set_cons_succ, List.set_cons_zero, Nat.reduceAdd, Nat.reduceSub] at env
    exact ev_add (ev_v env rfl) (ev_cnt (SqL.of (x8 lg _ hlg)) (ev_v env rfl) (ev_v env rfl))
  obtain rfl := imAll_ints hxf
  walk_at "sq"
  have hlg8 := x8 lg _ hlg
  -- dead
  refine st_set env (en := .im (.int (t.dead - sv.2.1 + (if S.dead = true then (gv.length : Int) else 0)))) (ev_add (i := t.dead - sv.2.1) (by walk_at "ev") (ev_if (b := S.dead) (by walk_at "ev") (fun h => ?_) (fun h => ?_))) fun _ H9 x9 _ env => ?_
  try simp only [unpackE, unpackD, wipeD, unT, List.map_cons, List.map_nil, List.length_cons, List.length_nil, List.cons_append, List.nil_append, List.replicate_succ, List.replicate_zero, List.set_cons_succ, List.set_cons_zero, Nat.reduceAdd, Nat.reduceSub] at env
  · rw [if_pos h]
    exact EvE.is (ev_lenL (SqL.of hlg8) (ev_v env rfl)) (by rw [List.length_map])
  · rw [if_neg (by rw [h]; exact Bool.false_ne_true)]
    exact ev_i
  walk_at "sq"
  -- tokens
  refine st_set env (en := .im (.int (min S.tok ((comeN S t.later t.tokens t.later.length).2.1 + sv.1)))) (by walk_at "ev") fun _ H10 x10 _ env => ?_
  try simp only [unpackE, unpackD, wipeD, unT, List.map_cons, List.map_nil, List.length_cons, List.length_nil, List.cons_append, List.nil_append, List.replicate_succ, List.replicate_zero, List.set_cons_succ, List.set_cons_zero, Nat.reduceAdd, Nat.reduceSub] at env
  walk_at "sq"
  have hlf10 := (x9.trans x10) lf _ hlf
  -- later
  refine st_set env (en := .im (.tuple [encI ((failedM gv rf).drop 1)])) (EvE.is (ev_cat (ds := []) (ev_slT (ds := [encI t.later]) (es := []) (by walk_at "ev") (eo_some ev_i) eo_none (cut_1 [encI t.later])) (ev_tup1 (ev_tupL (el_slL (es := ((failedM gv rf).map .int).drop 1) (SqL.of hlf10) (ints_imAll _) (ev_v env rfl) (eo_some ev_i) eo_none (cut_1 _)))) (by show 1 ≤ sizeLine; decide)) (by rw [encI, List.map_drop]; rfl)) fun _ H11 x11 _ env => ?_
  try simp only [unpackE, unpackD, wipeD, unT, List.map_cons, List.map_nil, List.length_cons, List.length_nil, List.cons_append, List.nil_append, List.replicate_succ, List.replicate_zero, List.set_cons_succ, List.set_cons_zero, Nat.reduceAdd, Nat.reduceSub] at env
  walk_at "sq"
  have hlf11 := x11 lf _ hlf10
  -- then
  refine st_set env (en := .im (encT (stepM S t fr).next)) (EvE.is (ev_tup (ds := [_, _, _, _, _]) (ea_c (ev_v env rfl) (ea_c (ev_v env rfl) (ea_c (ev_v env rfl) (ea_c (ev_v env rfl) (ea_c (ev_shut (ev_v env rfl) (by walk_at "ev") (ev_sumR (SqL.of hlf11) (ev_v env rfl))) ea_n))))) (by show 5 ≤ sizeLine; decide)) ?_) fun _ H12 x12' _ env => ?_
  try simp only [unpackE, unpackD, wipeD, unT, List.map_cons, List.map_nil, List.length_cons, List.length_nil, List.cons_append, List.nil_append, List.replicate_succ, List.replicate_zero, List.set_cons_succ, List.set_cons_zero, Nat.reduceAdd, Nat.reduceSub] at env
  · unfold stepM
    dsimp only
    rw [ecs, een]
    dsimp only
    rw [esv, egv]
    rfl
  walk_at "sq"
  have x_all := ((((x8.trans x9).trans x10).trans x11).trans x12')
  have hlc12 := ((x34.trans x5).trans ((x6.trans x7).trans x_all)) lc _ hlc
  have hlr12 := x_all lr _ hlr7
  have hlg12 := x_all lg _ hlg
  have hlf12 := x12' lf _ hlf11
  have hfl : (failedM gv rf).length = cs.length := by
    unfold failedM
    rw [List.length_mapIdx, b4]
  refine st_retD (EvE.is (ev_tup (ds := [_, _, _, _, _, _, _]) (ea_c (ev_sumR (SqL.of hlc12) (ev_v env rfl)) (ea_c (ev_v env rfl) (ea_c (ev_v env rfl) (ea_c (ev_sumR (SqL.of hlr12) (ev_v env rfl)) (ea_c (ev_lenL (SqL.of hlg12) (ev_v env rfl)) (ea_c (ev_add (ev_v env rfl) (ev_ixL (n := 0) (d := .int ((failedM gv rf).getD 0 0)) (SqL.of hlf12) (ints_imAll _) (ev_v env rfl) ev_i ?_)) (ea_c (ev_v env rfl) ea_n))))))) (by show 7 ≤ sizeLine; decide)) ?_) fun v H13 x13 r => k v H13 ((((x12.trans x34).trans x5).trans ((x6.trans x7).trans x_all)).trans x13) r
  · have h0 : 0 < (failedM gv rf).length := by omega
    rw [List.getElem?_map, List.getD_eq_getElem?_getD, List.getElem?_eq_getElem h0]
    rfl
  · unfold stepM encTold
    dsimp only
    rw [ecs, een]
    dsimp only
    rw [esv, egv, List.length_map]
theorem ev_step {s : L2.St} {H : Hp} {ta tb tc : TE} {S : Setg} {t : Stt} {fr : Int} {E : XK} (h1 : EvE K s H ta (.im (encS S))) (h2 : EvE K s H tb (.im (encT t))) (h3 : EvE K s H tc (.im (.int fr))) (ok : S.Ok) (tk : t.Ok S) (hf : 0 ≤ fr) :
    EvE K s H (tCall (spD K R_step) [] E (tCons ta (tCons tb (tCons tc tNil)))) (.im (encTold (stepM S t fr))) := ev_callD (ds := [encS S, encT t, .int fr]) (ea_c h1 (ea_c h2 (ea_c h3 ea_n))) rfl ⟨S, t, fr, rfl, ⟨ok, tk, hf⟩, rfl⟩
end
end CB

/-! ## KB7 -/
set_option Elab.async false
set_option linter.all false
set_option maxRecDepth 100000
set_option maxHeartbeats 4000000
/-! Rows of beats: is_row, steps, need_all, state_behind, are_numbers, need_most. -/
namespace CB
open PySem PySem.Spec L2
local macro_rules | `(tactic| walk_at "ev1") => `(tactic| (first
  | exact ev_i | exact ev_b | exact ev_n | exact ev_s | exact ev_v (by assumption) rfl | exact ea_n
  | refine' ea_c ?_ ?_ | with_reducible refine' ev_ixT ?_ ?_ ?_ | with_reducible refine' ev_ixTl ?_ ?_ ?_
  | with_reducible refine' ev_add ?_ ?_ | with_reducible refine' ev_sub ?_ ?_
  | with_reducible refine' ev_lt ?_ ?_ | with_reducible refine' ev_le ?_ ?_ | with_reducible refine' ev_gt ?_ ?_ | with_reducible refine' ev_ge ?_ ?_
  | with_reducible refine' ev_eqI ?_ ?_ | with_reducible refine' ev_neI ?_ ?_ | with_reducible refine' ev_eqS ?_ ?_
  | with_reducible refine' ev_isN ?_ | with_reducible refine' ev_notN ?_ | with_reducible refine' ev_chain ?_ ?_ ?_ | with_reducible refine' ev_neg ?_
  | with_reducible refine' is_ii ?_ | with_reducible refine' is_ib ?_ | with_reducible refine' is_bb ?_ | with_reducible refine' is_ss ?_ | with_reducible refine' is_tt ?_
  | with_reducible refine' ev_andV ?_ ?_ | with_reducible refine' ev_orV ?_ ?_ | with_reducible refine' ev_notV ?_
  | with_reducible refine' ev_lenT ?_ | with_reducible refine' ev_min ?_ ?_ | with_reducible refine' ev_max ?_ ?_
  | with_reducible refine' et_test ?_ | with_reducible refine' et_B ?_ | with_reducible refine' et_not ?_ | with_reducible refine' et_and ?_ ?_ | with_reducible refine' et_or ?_ ?_ | exact et_yes
  | with_reducible refine' eo_some ?_ | exact eo_none | (with_reducible intro _) | rfl))
local macro_rules | `(tactic| walk_at "ev") => `(tactic| repeat' walk_at "ev1")
local macro_rules | `(tactic| walk_at "sq") => `(tactic| try dsimp only [tSeq, tNext])
local macro_rules | `(tactic| walk_at "cx") => `(tactic| try dsimp only [cxOf, Cx.nox, Cx.wish])

local macro_rules | `(tactic| walk_at "ev1") => `(tactic| with_reducible refine' ev_whole ?_ ?_ ?_)
section
variable {P : Program} {w : World} {K : Fg} {mg : Str → Option Value} {base : Heap}
abbrev s_is_row : Stmt := top 40
theorem sc_is_row : FnScope ["thing", "one"] ["thing"] (defScope s_is_row) := ⟨rfl, rfl, rfl, by decide +kernel, rfl, by decide +kernel, by decide +kernel⟩
def R_row : List PyData → PyData → Prop := fun ds d => ∃ (r : List Int), ds = [encI r] ∧ ((∀ n, n ∈ r → 0 ≤ n ∧ n ≤ 999) ∧ r.length ≤ 200) ∧ d = .bool true
theorem d_is_row (B : Bn K mg) (F_is_whole : Df P w K mg base 1 "is_whole" ["thing", "low", "high"] (spD K R_whole)) (F : FnP K mg "is_row" s_is_row) : Df P w K mg base 2 "is_row" ["thing"] (spD K R_row) := by
  refine df_of F sc_is_row (spD_len fun ds d h => by obtain ⟨_, e, _⟩ := h; rw [e]; rfl) (fun _ _ _ _ _ _ us hl => match us, hl with | [_], _ => rfl) fun f cdv A outer s H vs Q E hr h => ?_
  refine ⟨_, (pss_one (ps_ret (pe_and (pe_callB call_isi rfl B.isinstance bt_isinstance (pa_cons (pv 0) (pa_cons (pe_bltn (v := .ty "tuple") rfl B.tuple bt_tuple rfl) pa_nil))) (pe_one (pe_callB (c_all rfl) rfl B.all bt_all (pa_cons (pe_lc (own := [("one", 1)]) rfl sc_is_row.nd (pi_tup (pv 0)) (blkOk_by (own := [("one", 1)]) (N := ["thing", "one"]) (sc := defScope s_is_row) (by decide +kernel)) (fun _ _ _ _ _ => (pg_name (i := 1) sc_is_row.nd rfl (by first | exact Or.inl rfl | exact Or.inr rfl) (by first | exact .inr rfl | exact .inl rfl))) (fun _ _ _ _ _ => pts_nil) (fun _ _ _ _ _ => (pe_df F_is_whole (hr.mono (by decide)) rfl (pa_cons (pv 1) (pa_cons pe_int (pa_cons (pe_gi B.g_MOST_FRESH rfl) pa_nil)))))) pa_nil)))))), ?_⟩
  obtain ⟨ds, d, him, ⟨r, rfl, ⟨r1, r2⟩, rfl⟩, k⟩ := h
  have env := env_d (N := ["thing", "one"]) him
  try simp only [unpackE, unpackD, wipeD, unT, List.map_cons, List.map_nil, List.length_cons, List.length_nil, List.cons_append, List.nil_append, List.replicate_succ, List.replicate_zero, List.set_cons_succ, List.set_cons_zero, Nat.reduceAdd, Nat.reduceSub] at env
  walk_at "cx"
  walk_at "sq"
  refine st_retD (EvE.is (ev_andV (b := true) (is_tt (ds := r.map .int) (ev_v env rfl)) fun _ => ev_allL (bs := r.map fun _ => true) (b := true) (EvL.is (el_lc1 (fun _ => .bool true) env (ei_tup (ds := r.map .int) (ev_v env rfl)) (by rw [sizeLine_eq, List.length_map]; omega) fun d hd s4 H4 x4 env => ?_) (by simp)) (allMap fun _ _ => rfl)) (by rfl)) fun v H6 x6 r => k v H6 x6 r
  obtain ⟨n, hn, rfl⟩ := List.mem_map.mp hd
  obtain ⟨h0, h1⟩ := r1 n hn
  exact EvE.is (by walk_at "ev") (by simp [h0, h1])
theorem ev_row {s : L2.St} {H : Hp} {ta : TE} {r : List Int} {E : XK} (h1 : EvE K s H ta (.im (encI r))) (h : (∀ n, n ∈ r → 0 ≤ n ∧ n ≤ 999) ∧ r.length ≤ 200) :
    EvE K s H (tCall (spD K R_row) [] E (tCons ta tNil)) (.im (.bool true)) := ev_callD (ds := [encI r]) (ea_c h1 ea_n) rfl ⟨r, rfl, h, rfl⟩
abbrev s_are_numbers : Stmt := top 47
theorem sc_are_numbers : FnScope ["thing", "most", "one"] ["thing", "most"] (defScope s_are_numbers) := ⟨rfl, rfl, rfl, by decide +kernel, rfl, by decide +kernel, by decide +kernel⟩
def R_numbers : List PyData → PyData → Prop := fun ds d => ∃ (r : List Int) (most : Int), ds = [encI r, .int most] ∧ ((∀ n, n ∈ r → 0 ≤ n ∧ n ≤ most) ∧ r.length ≤ 100000) ∧ d = .bool true
theorem d_are_numbers (B : Bn K mg) (F_is_whole : Df P w K mg base 1 "is_whole" ["thing", "low", "high"] (spD K R_whole)) (F : FnP K mg "are_numbers" s_are_numbers) : Df P w K mg base 2 "are_numbers" ["thing", "most"] (spD K R_numbers) := by
  refine df_of F sc_are_numbers (spD_len fun ds d h => by obtain ⟨_, _, e, _⟩ := h; rw [e]; rfl) (fun _ _ _ _ _ _ us hl => match us, hl with | [_, _], _ => rfl) fun f cdv A outer s H vs Q E hr h => ?_
  refine ⟨_, (pss_one (ps_ret (pe_and (pe_callB call_isi rfl B.isinstance bt_isinstance (pa_cons (pv 0) (pa_cons (pe_bltn (v := .ty "tuple") rfl B.tuple bt_tuple rfl) pa_nil))) (pe_one (pe_callB (c_all rfl) rfl B.all bt_all (pa_cons (pe_lc (own := [("one", 2)]) rfl sc_are_numbers.nd (pi_tup (pv 0)) (blkOk_by (own := [("one", 2)]) (N := ["thing", "most", "one"]) (sc := defScope s_are_numbers) (by decide +kernel)) (fun _ _ _ _ _ => (pg_name (i := 2) sc_are_numbers.nd rfl (by first | exact Or.inl rfl | exact Or.inr rfl) (by first | exact .inr rfl | exact .inl rfl))) (fun _ _ _ _ _ => pts_nil) (fun _ _ _ _ _ => (pe_df F_is_whole (hr.mono (by decide)) rfl (pa_cons (pv 2) (pa_cons pe_int (pa_cons (pv 1) pa_nil)))))) pa_nil)))))), ?_⟩
  obtain ⟨ds, d, him, ⟨r, most, rfl, ⟨r1, r2⟩, rfl⟩, k⟩ := h
  have env := env_d (N := ["thing", "most", "one"]) him
  try simp only [unpackE, unpackD, wipeD, unT, List.map_cons, List.map_nil, List.length_cons, List.length_nil, List.cons_append, List.nil_append, List.replicate_succ, List.replicate_zero, List.set_cons_succ, List.set_cons_zero, Nat.reduceAdd, Nat.reduceSub] at env
  walk_at "cx"
  walk_at "sq"
  refine st_retD (EvE.is (ev_andV (b := true) (is_tt (ds := r.map .int) (ev_v env rfl)) fun _ => ev_allL (bs := r.map fun _ => true) (b := true) (EvL.is (el_lc1 (fun _ => .bool true) env (ei_tup (ds := r.map .int) (ev_v env rfl)) (by rw [sizeLine_eq, List.length_map]; omega) fun d hd s4 H4 x4 env => ?_) (by simp)) (allMap fun _ _ => rfl)) (by rfl)) fun v H6 x6 r => k v H6 x6 r
  obtain ⟨n, hn, rfl⟩ := List.mem_map.mp hd
  obtain ⟨h0, h1⟩ := r1 n hn
  exact EvE.is (by walk_at "ev") (by simp [h0, h1])
theorem ev_numbers {s : L2.St} {H : Hp} {ta tb : TE} {r : List Int} {most : Int} {E : XK} (h1 : EvE K s H ta (.im (encI r))) (h2 : EvE K s H tb (.im (.int most))) (h : (∀ n, n ∈ r → 0 ≤ n ∧ n ≤ most) ∧ r.length ≤ 100000) :
    EvE K s H (tCall (spD K R_numbers) [] E (tCons ta (tCons tb tNil))) (.im (.bool true)) := ev_callD (ds := [encI r, .int most]) (ea_c h1 (ea_c h2 ea_n)) rfl ⟨r, most, rfl, h, rfl⟩
theorem take_s {r : List Int} {i : Nat} {n : Int} (h : r[i]? = some n) : r.take (i + 1) = r.take i ++ [n] := by
  rw [List.take_succ, h] <;> rfl
theorem toldsM_app (S : Setg) : ∀ (a b : List Int) (t : Stt), toldsM S t (a ++ b) = toldsM S t a ++ toldsM S (endM S t a) b
  | [], _, _ => rfl
  | x :: a, b, t => congrArg _ (toldsM_app S a b _)
theorem toldsM_len (S : Setg) : ∀ (a : List Int) (t : Stt), (toldsM S t a).length = a.length
  | [], _ => rfl
  | x :: a, t => congrArg Nat.succ (toldsM_len S a _)
theorem take_nn {r : List Int} (h : ∀ n, n ∈ r → 0 ≤ n) (i : Nat) : ∀ n, n ∈ r.take i → 0 ≤ n := fun n hn => h n (List.mem_of_mem_take hn)
abbrev s_state_behind : Stmt := top 50
theorem sc_state_behind : FnScope ["setting", "state", "row", "fresh"] ["setting", "state", "row"] (defScope s_state_behind) := ⟨rfl, rfl, rfl, by decide +kernel, rfl, by decide +kernel, by decide +kernel⟩
def R_behind : List PyData → PyData → Prop := fun ds d => ∃ (S : Setg) (t : Stt) (r : List Int), ds = [encS S, encT t, encI r] ∧ (S.Ok ∧ t.Ok S ∧ ∀ n, n ∈ r → 0 ≤ n) ∧ d = encT (endM S t r)
theorem d_state_behind (B : Bn K mg) (F_step : Df P w K mg base 2 "step" ["setting", "state", "fresh"] (spD K R_step)) (F : FnP K mg "state_behind" s_state_behind) : Df P w K mg base 3 "state_behind" ["setting", "state", "row"] (spD K R_behind) := by
  refine df_of F sc_state_behind (spD_len fun ds d h => by obtain ⟨_, _, _, e, _⟩ := h; rw [e]; rfl) (fun _ _ _ _ _ _ us hl => match us, hl with | [_, _, _], _ => rfl) fun f cdv A outer s H vs Q E hr h => ?_
  refine ⟨_, (pss_cons (ps_for PassesOwn.never rfl (pi_tup (pv 2)) (pg_name (i := 3) sc_state_behind.nd rfl (by first | exact Or.inl rfl | exact Or.inr rfl)) (pss_one (ps_set (i := 1) sc_state_behind.nd rfl (by first | exact Or.inl rfl | exact Or.inr rfl) (pe_ix ix_tup (pe_df F_step (hr.mono (by decide)) rfl (pa_cons (pv 0) (pa_cons (pv 1) (pa_cons (pv 3) pa_nil)))) (pe_un un_neg pe_int) (fun _ _ => rfl)))))
  (pss_one (ps_ret (pv 1)))), ?_⟩
  obtain ⟨ds, d, him, ⟨S, t, r, rfl, ⟨ok, tk, hr0⟩, rfl⟩, k⟩ := h
  have env := env_d (N := ["setting", "state", "row", "fresh"]) him
  try simp only [unpackE, unpackD, wipeD, unT, List.map_cons, List.map_nil, List.length_cons, List.length_nil, List.cons_append, List.nil_append, List.replicate_succ, List.replicate_zero, List.set_cons_succ, List.set_cons_zero, Nat.reduceAdd, Nat.reduceSub] at env
  walk_at "cx"
  walk_at "sq"
  refine st_forT (ds := r.map .int) (ev_v env rfl)
    (fun i s' H' => Same H H' ∧ EnvD K H' s' [some (.im (encS S)), some (.im (encT (endM S t (r.take i)))), some (.im (encI r)), none])
    (fun H2 x2 => ⟨x2, env.mono (tk_of x2)⟩) ?_ ?_
  · intro i d x s' H' hd hx ⟨p1, env⟩
    rw [List.getElem?_map] at hd
    cases e : r[i]? with
    | none => rw [e] at hd; cases hd
    | some m =>
      rw [e] at hd
      obtain rfl : PyData.int m = d := Option.some.inj hd
      have env := env.set (e := .im (.int m)) hx 3
      try simp only [unpackE, unpackD, wipeD, unT, List.map_cons, List.map_nil, List.length_cons, List.length_nil, List.cons_append, List.nil_append, List.replicate_succ, List.replicate_zero, List.set_cons_succ, List.set_cons_zero, Nat.reduceAdd, Nat.reduceSub] at env
      dsimp only [gName]
      walk_at "sq"
      have tk' := endM_ok ok tk (take_nn hr0 i)
      refine st_set env (en := .im (encT (endM S t (r.take (i + 1))))) (EvE.is (ev_ixTl (ds := [_, _, _, _, _, _, _]) (ev_step (ev_v env rfl) (ev_v env rfl) (ev_v env rfl) ok tk' (hr0 m (List.mem_of_getElem? e))) (by walk_at "ev") rfl) ?_) fun _ H2 x2 _ env => ?_
      · rw [take_s e, endM_app]
        rfl
      try simp only [unpackE, unpackD, wipeD, unT, List.map_cons, List.map_nil, List.length_cons, List.length_nil, List.cons_append, List.nil_append, List.replicate_succ, List.replicate_zero, List.set_cons_succ, List.set_cons_zero, Nat.reduceAdd, Nat.reduceSub] at env
      exact ⟨tk_of x2, p1.trans x2, env.weak rfl fun j e he => by
        match j with
        | 0 | 1 | 2 => exact he
        | 3 => cases he⟩
  · rintro s' H' ⟨p1, env⟩
    rw [List.length_map, List.take_length] at env
    walk_at "sq"
    exact st_retD (ev_v env rfl) fun v H6 x6 r => k v H6 (p1.trans x6) r
theorem ev_behind {s : L2.St} {H : Hp} {ta tb tc : TE} {S : Setg} {t : Stt} {r : List Int} {E : XK} (h1 : EvE K s H ta (.im (encS S))) (h2 : EvE K s H tb (.im (encT t))) (h3 : EvE K s H tc (.im (encI r))) (h : S.Ok ∧ t.Ok S ∧ ∀ n, n ∈ r → 0 ≤ n) :
    EvE K s H (tCall (spD K R_behind) [] E (tCons ta (tCons tb (tCons tc tNil)))) (.im (encT (endM S t r))) := ev_callD (ds := [encS S, encT t, encI r]) (ea_c h1 (ea_c h2 (ea_c h3 ea_n))) rfl ⟨S, t, r, rfl, h, rfl⟩
abbrev s_steps : Stmt := top 41
theorem sc_steps : FnScope ["setting", "state", "row", "found", "fresh"] ["setting", "state", "row"] (defScope s_steps) := ⟨rfl, rfl, rfl, by decide +kernel, rfl, by decide +kernel, by decide +kernel⟩
/-- a new list of what each beat told -/
def spSteps (K : Fg) : Sp := fun vs H Q _ => ∃ (S : Setg) (t : Stt) (r : List Int), ImAll K H vs [encS S, encT t, encI r] ∧ (S.Ok ∧ t.Ok S ∧ (∀ n, n ∈ r → 0 ≤ n) ∧ r.length ≤ 200) ∧
  ∀ la xs H', Same H H' → H la = none → H' la = some (.lst xs) → ImAll K H' xs ((toldsM S t r).map encTold) → Q (.ref la) H'
theorem d_steps (B : Bn K mg) (F_step : Df P w K mg base 2 "step" ["setting", "state", "fresh"] (spD K R_step)) (F : FnP K mg "steps" s_steps) : Df P w K mg base 3 "steps" ["setting", "state", "row"] (spSteps K) := by
  refine df_of F sc_steps (fun vs H Q E h => by obtain ⟨_, _, _, e, _⟩ := h; exact imAll_len e) (fun _ _ _ _ _ _ us hl => match us, hl with | [_, _, _], _ => rfl) fun f cdv A outer s H vs Q E hr h => ?_
  refine ⟨_, (pss_cons (ps_set (i := 3) sc_steps.nd rfl (by first | exact Or.inl rfl | exact Or.inr rfl) (pe_lst pa_nil))
  (pss_cons (ps_for PassesOwn.never rfl (pi_tup (pv 2)) (pg_name (i := 4) sc_steps.nd rfl (by first | exact Or.inl rfl | exact Or.inr rfl)) (pss_cons (ps_expr (pe_bm PySem.F.plainAttrs_list PySem.F.slot_list_append PySem.F.type_list_append mt_append (pv 3) (pa_cons (pe_df F_step (hr.mono (by decide)) rfl (pa_cons (pv 0) (pa_cons (pv 1) (pa_cons (pv 4) pa_nil)))) pa_nil)))
  (pss_one (ps_set (i := 1) sc_steps.nd rfl (by first | exact Or.inl rfl | exact Or.inr rfl) (pe_ix ix_tup (pe_ix ix_list (pv 3) (pe_un un_neg pe_int) (fun _ _ => rfl)) pe_int (fun _ _ => rfl))))))
  (pss_one (ps_ret (pv 3))))), ?_⟩
  obtain ⟨S, t, r, him, ⟨ok, tk, hr0, hr2⟩, k⟩ := h
  have env := env_d (N := ["setting", "state", "row", "found", "fresh"]) him
  try simp only [unpackE, unpackD, wipeD, unT, List.map_cons, List.map_nil, List.length_cons, List.length_nil, List.cons_append, List.nil_append, List.replicate_succ, List.replicate_zero, List.set_cons_succ, List.set_cons_zero, Nat.reduceAdd, Nat.reduceSub] at env
  walk_at "cx"
  walk_at "sq"
  refine st_setL env (el_lst (ds := []) ea_n (by decide)) fun la xs H1 x1 nla hla hxs env => ?_
  cases hxs
  try simp only [unpackE, unpackD, wipeD, unT, List.map_cons, List.map_nil, List.length_cons, List.length_nil, List.cons_append, List.nil_append, List.replicate_succ, List.replicate_zero, List.set_cons_succ, List.set_cons_zero, Nat.reduceAdd, Nat.reduceSub] at env
  walk_at "sq"
  refine st_forT (ds := r.map .int) (ev_v env rfl)
    (fun i s' H' => Same H H' ∧ (∃ xs, H' la = some (.lst xs) ∧ ImAll K H' xs ((toldsM S t (r.take i)).map encTold)) ∧ EnvD K H' s' [some (.im (encS S)), some (.im (encT (endM S t (r.take i)))), some (.im (encI r)), some (.rf la), none])
    (fun H2 x2 => ⟨x1.trans x2, ⟨[], x2 la _ hla, .nil⟩, env.mono (tk_of x2)⟩) ?_ ?_
  · intro i d x s' H' hd hx ⟨p1, ⟨xs, p2, p3⟩, env⟩
    rw [List.getElem?_map] at hd
    cases e : r[i]? with
    | none => rw [e] at hd; cases hd
    | some m =>
      rw [e] at hd
      obtain rfl : PyData.int m = d := Option.some.inj hd
      have env := env.set (e := .im (.int m)) hx 4
      try simp only [unpackE, unpackD, wipeD, unT, List.map_cons, List.map_nil, List.length_cons, List.length_nil, List.cons_append, List.nil_append, List.replicate_succ, List.replicate_zero, List.set_cons_succ, List.set_cons_zero, Nat.reduceAdd, Nat.reduceSub] at env
      dsimp only [gName]
      walk_at "sq"
      have tk' := endM_ok ok tk (take_nn hr0 i)
      have hi : i < r.length := (List.getElem?_eq_some_iff.mp e).1
      have hlen : xs.length = i := by
        rw [imAll_len p3, List.length_map, toldsM_len, List.length_take]
        omega
      refine st_app p2 (ev_v env rfl) (ev_step (ev_v env rfl) (ev_v env rfl) (ev_v env rfl) ok tk' (hr0 m (List.mem_of_getElem? e))) (by rw [hlen, sizeLine_eq]; omega) fun v H2 x2 rv => ?_
      walk_at "sq"
      have tk2 := tk_lst (u := .lst (xs ++ [v])) (x2 la _ p2)
      have env := env.mono ((tk_of x2).trans tk2)
      have hxs2 : ImAll K (upd H2 la (.lst (xs ++ [v]))) (xs ++ [v]) ((toldsM S t (r.take (i + 1))).map encTold) := by
        rw [take_s e, toldsM_app, List.map_append]
        exact imAll_app (p3.mono ((tk_of x2).trans tk2)) (.cons (Im.mono tk2 rv) .nil)
      refine st_set env (en := .im (encT (endM S t (r.take (i + 1))))) (EvE.is (ev_ixT (n := 6) (ds := [_, _, _, _, _, _, _]) (ev_ixLl (d := encTold (stepM S (endM S t (r.take i)) m)) (SqL.of upd_same) hxs2 (ev_v env rfl) (by walk_at "ev") ?_) ev_i rfl) ?_) fun _ H3 x3 _ env => ?_
      · rw [take_s e, toldsM_app, List.map_append]
        simp [toldsM]
      · rw [take_s e, endM_app]
        rfl
      try simp only [unpackE, unpackD, wipeD, unT, List.map_cons, List.map_nil, List.length_cons, List.length_nil, List.cons_append, List.nil_append, List.replicate_succ, List.replicate_zero, List.set_cons_succ, List.set_cons_zero, Nat.reduceAdd, Nat.reduceSub] at env
      refine ⟨((tk_of x2).trans tk2).trans (tk_of x3), (same_upd nla (p1.trans x2)).trans x3, ⟨_, x3 la _ upd_same, hxs2.mono (tk_of x3)⟩, env.weak rfl fun j e he => by
        match j with
        | 0 | 1 | 2 | 3 => exact he
        | 4 => cases he⟩
  · rintro s' H' ⟨p1, ⟨xs, p2, p3⟩, env⟩
    rw [List.length_map, List.take_length] at p3
    walk_at "sq"
    exact st_ret (en := .rf la) (ev_v env rfl) fun v H6 x6 r => by
      obtain rfl : v = .ref la := r
      exact k la xs H6 (p1.trans x6) nla (x6 la _ p2) (p3.mono (tk_of x6))


end
end CB

/-! ## KD1 -/
set_option Elab.async false
set_option linter.all false
set_option maxRecDepth 100000
set_option maxHeartbeats 2000000
/-! Data of ints and tuples alone: equal as Python's when equal. -/
namespace CB
open PySem
mutual
def itD : PyData → Bool
  | .int _ => true
  | .tuple xs => itDs xs
  | .none | .bool _ | .str _ | .list _ | .dict _ => false
def itDs : List PyData → Bool
  | [] => true
  | x :: xs => itD x && itDs xs
end
mutual
theorem it_lay : ∀ d : PyData, itD d = true → d.canLay0 = true
  | .int _, _ => by simp only [PyData.canLay0]
  | .tuple xs, h => by
    simp only [PyData.canLay0]
    exact its_lay xs (by simpa only [itD] using h)
  | .none, h | .bool _, h | .str _, h | .list _, h | .dict _, h => by simp [itD] at h
theorem its_lay : ∀ ds : List PyData, itDs ds = true → PyData.canLayAll0 ds = true
  | [], _ => by simp only [PyData.canLayAll0]
  | x :: xs, h => by
    simp only [itDs, Bool.and_eq_true] at h
    simp only [PyData.canLayAll0, it_lay x h.1, its_lay xs h.2, Bool.and_self]
end
mutual
theorem it_eqv : ∀ d e : PyData, itD d = true → itD e = true → (PyData.eqv d e = true ↔ d = e)
  | .int i, .int j, _, _ => by simp [PyData.eqv]
  | .tuple xs, .tuple ys, h, g => by
    simp only [itD] at h g
    simp only [PyData.eqv, PyData.tuple.injEq]
    exact its_eqv xs ys h g
  | .int _, .tuple _, _, _ => by simp [PyData.eqv]
  | .tuple _, .int _, _, _ => by simp [PyData.eqv]
  | .none, _, h, _ | .bool _, _, h, _ | .str _, _, h, _ | .list _, _, h, _ | .dict _, _, h, _ => by simp [itD] at h
  | .int _, .none, _, h | .int _, .bool _, _, h | .int _, .str _, _, h | .int _, .list _, _, h | .int _, .dict _, _, h => by simp [itD] at h
  | .tuple _, .none, _, h | .tuple _, .bool _, _, h | .tuple _, .str _, _, h | .tuple _, .list _, _, h | .tuple _, .dict _, _, h => by simp [itD] at h
theorem its_eqv : ∀ ds es : List PyData, itDs ds = true → itDs es = true → (PyData.eqvAll ds es = true ↔ ds = es)
  | [], [], _, _ => by simp [PyData.eqvAll]
  | [], _ :: _, _, _ => by simp [PyData.eqvAll]
  | _ :: _, [], _, _ => by simp [PyData.eqvAll]
  | x :: xs, y :: ys, h, g => by
    simp only [itDs, Bool.and_eq_true] at h g
    simp only [PyData.eqvAll, Bool.and_eq_true, List.cons.injEq]
    exact and_congr (it_eqv x y h.1 g.1) (its_eqv xs ys h.2 g.2)
end
theorem its_all : ∀ {ds : List PyData}, (∀ d, d ∈ ds → itD d = true) → itDs ds = true
  | [], _ => by simp only [itDs]
  | x :: xs, h => by
    simp only [itDs, h x List.mem_cons_self, its_all fun d hd => h d (List.mem_cons_of_mem _ hd), Bool.and_self]
theorem it_I (l : List Int) : itD (encI l) = true := by
  unfold encI
  simp only [itD]
  refine its_all fun d hd => ?_
  obtain ⟨n, _, rfl⟩ := List.mem_map.mp hd
  simp only [itD]
theorem it_Q (q : List (Int × Int)) : itD (encQ q) = true := by
  unfold encQ
  simp only [itD]
  refine its_all fun d hd => ?_
  obtain ⟨n, _, rfl⟩ := List.mem_map.mp hd
  simp only [encP, itD, itDs, Bool.and_self]
theorem it_T (t : Stt) : itD (encT t) = true := by
  unfold encT
  simp only [itD, itDs, it_Q, it_I, Bool.and_self]
theorem dep_all : ∀ {ds : List PyData} {n : Nat}, (∀ d, d ∈ ds → d.depth ≤ n) → PyData.depthAll ds ≤ n
  | [], n, _ => by simp only [PyData.depthAll]; omega
  | x :: xs, n, h => by
    have h1 := h x List.mem_cons_self
    have h2 := dep_all fun d hd => h d (List.mem_cons_of_mem _ hd)
    simp only [PyData.depthAll]
    omega
theorem dep_I (l : List Int) : (encI l).depth ≤ 1 := by
  unfold encI
  simp only [PyData.depth]
  have : PyData.depthAll (l.map PyData.int) ≤ 0 := dep_all fun d hd => by
    obtain ⟨n, _, rfl⟩ := List.mem_map.mp hd
    simp only [PyData.depth]
    omega
  omega
theorem dep_Q (q : List (Int × Int)) : (encQ q).depth ≤ 2 := by
  unfold encQ
  simp only [PyData.depth]
  have : PyData.depthAll (q.map encP) ≤ 1 := dep_all fun d hd => by
    obtain ⟨n, _, rfl⟩ := List.mem_map.mp hd
    simp only [encP, PyData.depth, PyData.depthAll]
    omega
  omega
theorem dep_T (t : Stt) : (encT t).depth ≤ 4 := by
  have h1 := dep_Q t.queue
  have h2 := dep_I t.later
  unfold encT
  simp only [PyData.depth, PyData.depthAll]
  omega
theorem sh_T (t : Stt) : SeqAt.shaped (encT t) = true := by
  have := dep_T t
  unfold SeqAt.shaped
  rw [it_lay _ (it_T t), Bool.true_and]
  exact decide_eq_true (by omega)
theorem sh_I (l : List Int) : SeqAt.shaped (encI l) = true := by
  have := dep_I l
  unfold SeqAt.shaped
  rw [it_lay _ (it_I l), Bool.true_and]
  exact decide_eq_true (by omega)
theorem ints_inj {a b : List Int} (h : a.map PyData.int = b.map PyData.int) : a = b := by
  have := List.map_inj_right (f := PyData.int) (l := a) (l' := b) (fun x y e => by cases e; rfl)
  exact this.mp h
theorem encI_inj {a b : List Int} (h : encI a = encI b) : a = b := by
  unfold encI at h
  exact ints_inj (PyData.tuple.inj h)
theorem encP_inj {a b : Int × Int} (h : encP a = encP b) : a = b := by
  unfold encP at h
  have h := PyData.tuple.inj h
  simp only [List.cons.injEq, PyData.int.injEq, and_true] at h
  exact Prod.ext h.1 h.2
theorem encQ_inj {a b : List (Int × Int)} (h : encQ a = encQ b) : a = b := by
  unfold encQ at h
  have := List.map_inj_right (f := encP) (l := a) (l' := b) (fun x y e => encP_inj e)
  exact this.mp (PyData.tuple.inj h)
theorem encT_inj {a b : Stt} (h : encT a = encT b) : a = b := by
  unfold encT at h
  have h := PyData.tuple.inj h
  simp only [List.cons.injEq, PyData.int.injEq, and_true, PyData.tuple.injEq] at h
  obtain ⟨h1, h2, h3, h4, h5⟩ := h
  cases a
  cases b
  dsimp only at *
  rw [h1, encQ_inj h2, encI_inj h3, h4, h5]
theorem eqv_T (a b : Stt) : PyData.eqv (encT a) (encT b) = decide (a = b) := by
  have := it_eqv _ _ (it_T a) (it_T b)
  rw [Bool.eq_iff_iff, this, decide_eq_true_iff]
  exact ⟨encT_inj, congrArg _⟩
end CB

/-! ## KB8 -/
set_option Elab.async false
set_option linter.all false
set_option maxRecDepth 100000
set_option maxHeartbeats 4000000
/-! need_all, need_most, totals. -/
namespace CB
open PySem PySem.Spec L2
open StX (tStar pa_star)
local macro_rules | `(tactic| walk_at "ev1") => `(tactic| (first
  | exact ev_i | exact ev_b | exact ev_n | exact ev_s | exact ev_v (by assumption) rfl | exact ea_n
  | refine' ea_c ?_ ?_ | with_reducible refine' ev_ixT ?_ ?_ ?_ | with_reducible refine' ev_ixTl ?_ ?_ ?_
  | with_reducible refine' ev_add ?_ ?_ | with_reducible refine' ev_sub ?_ ?_
  | with_reducible refine' ev_lt ?_ ?_ | with_reducible refine' ev_le ?_ ?_ | with_reducible refine' ev_gt ?_ ?_ | with_reducible refine' ev_ge ?_ ?_
  | with_reducible refine' ev_eqI ?_ ?_ | with_reducible refine' ev_neI ?_ ?_ | with_reducible refine' ev_eqS ?_ ?_
  | with_reducible refine' ev_isN ?_ | with_reducible refine' ev_notN ?_ | with_reducible refine' ev_chain ?_ ?_ ?_ | with_reducible refine' ev_neg ?_
  | with_reducible refine' is_ii ?_ | with_reducible refine' is_ib ?_ | with_reducible refine' is_bb ?_ | with_reducible refine' is_ss ?_ | with_reducible refine' is_tt ?_
  | with_reducible refine' ev_andV ?_ ?_ | with_reducible refine' ev_orV ?_ ?_ | with_reducible refine' ev_notV ?_
  | with_reducible refine' ev_lenT ?_ | with_reducible refine' ev_min ?_ ?_ | with_reducible refine' ev_max ?_ ?_
  | with_reducible refine' et_test ?_ | with_reducible refine' et_B ?_ | with_reducible refine' et_not ?_ | with_reducible refine' et_and ?_ ?_ | with_reducible refine' et_or ?_ ?_ | exact et_yes
  | with_reducible refine' eo_some ?_ | exact eo_none | (with_reducible intro _) | rfl))
local macro_rules | `(tactic| walk_at "ev") => `(tactic| repeat' walk_at "ev1")
local macro_rules | `(tactic| walk_at "sq") => `(tactic| try dsimp only [tSeq, tNext])
local macro_rules | `(tactic| walk_at "cx") => `(tactic| try dsimp only [cxOf, Cx.nox, Cx.wish])

local macro_rules | `(tactic| walk_at "ev1") => `(tactic| with_reducible refine' ev_whole ?_ ?_ ?_)
section
variable {P : Program} {w : World} {K : Fg} {mg : Str → Option Value} {base : Heap}
abbrev s_need_all : Stmt := top 42
theorem sc_need_all : FnScope ["setting", "state", "row"] ["setting", "state", "row"] (defScope s_need_all) := ⟨rfl, rfl, rfl, by decide +kernel, rfl, by decide +kernel, by decide +kernel⟩
def R_needAll : List PyData → PyData → Prop := fun ds d => ∃ (S : Setg) (t : Stt) (r : List Int), ds = [encS S, encT t, encI r] ∧ (S.Ok ∧ t.Ok S ∧ (∀ n, n ∈ r → 0 ≤ n ∧ n ≤ 999) ∧ r.length ≤ 200) ∧ d = .none
theorem d_need_all (B : Bn K mg) (F_need_setting : Df P w K mg base 4 "need_setting" ["setting"] (spD K R_needS)) (F_need_state : Df P w K mg base 4 "need_state" ["setting", "state"] (spD K R_needT)) (F_is_row : Df P w K mg base 2 "is_row" ["thing"] (spD K R_row)) (F : FnP K mg "need_all" s_need_all) : Df P w K mg base 5 "need_all" ["setting", "state", "row"] (spD K R_needAll) := by
  refine df_of F sc_need_all (spD_len fun ds d h => by obtain ⟨_, _, _, e, _⟩ := h; rw [e]; rfl) (fun _ _ _ _ _ _ us hl => match us, hl with | [_, _, _], _ => rfl) fun f cdv A outer s H vs Q E hr h => ?_
  refine ⟨_, (pss_cons (ps_expr (pe_df F_need_setting (hr.mono (by decide)) rfl (pa_cons (pv 0) pa_nil)))
  (pss_cons (ps_expr (pe_df F_need_state (hr.mono (by decide)) rfl (pa_cons (pv 0) (pa_cons (pv 1) pa_nil))))
  (pss_one (ps_if (PW.pt (pw_or (pt_not (pt_val (pe_df F_is_row (hr.mono (by decide)) rfl (pa_cons (pv 2) pa_nil)))) (pw_or1 (pt_cmpR op_gt (pe_callB c_len rfl B.len bt_len (pa_cons (pv 2) pa_nil)) (pe_gi B.g_LONGEST_ROW rfl) (nomark _))))) (pss_one ps_never) pss_nil)))), ?_⟩
  obtain ⟨ds, d, him, ⟨S, t, r, rfl, ⟨ok, tk, r1, r2⟩, rfl⟩, k⟩ := h
  have env := env_d (N := ["setting", "state", "row"]) him
  try simp only [unpackE, unpackD, wipeD, unT, List.map_cons, List.map_nil, List.length_cons, List.length_nil, List.cons_append, List.nil_append, List.replicate_succ, List.replicate_zero, List.set_cons_succ, List.set_cons_zero, Nat.reduceAdd, Nat.reduceSub] at env
  walk_at "cx"
  walk_at "sq"
  refine st_drop (ev_needS (ev_v env rfl) ok) fun H1 x1 => ?_
  have env := env.mono (tk_of x1)
  walk_at "sq"
  refine st_drop (ev_needT (ev_v env rfl) (ev_v env rfl) ok tk) fun H2 x2 => ?_
  have env := env.mono (tk_of x2)
  walk_at "sq"
  refine st_if env (b := false) (EvT.is (et_or (et_not (et_B (ev_row (ev_v env rfl) ⟨r1, r2⟩))) fun _ => et_test (ev_gt (ev_lenT (ds := r.map .int) (ev_v env rfl)) ev_i)) ?_) (fun h => by cases h) fun _ H3 x3 _ => k _ H3 ((x1.trans x2).trans x3) .non
  simp
  omega
theorem ev_needAll {s : L2.St} {H : Hp} {ta tb tc : TE} {S : Setg} {t : Stt} {r : List Int} {E : XK} (h1 : EvE K s H ta (.im (encS S))) (h2 : EvE K s H tb (.im (encT t))) (h3 : EvE K s H tc (.im (encI r))) (h : S.Ok ∧ t.Ok S ∧ (∀ n, n ∈ r → 0 ≤ n ∧ n ≤ 999) ∧ r.length ≤ 200) :
    EvE K s H (tCall (spD K R_needAll) [] E (tCons ta (tCons tb (tCons tc tNil)))) (.im .none) := ev_callD (ds := [encS S, encT t, encI r]) (ea_c h1 (ea_c h2 (ea_c h3 ea_n))) rfl ⟨S, t, r, rfl, h, rfl⟩
/-! ### a def with defaults -/
def FnPd (K : Fg) (mg : Str → Option Value) (x : Str) (st : Stmt) (dvs : List V) : Prop := ∃ f fd, mg x = some (.ref f) ∧ FunD K x x (defArgs st) (defBody st) (defScope st) dvs [] f fd
def Dfd (P : Program) (w : World) (K : Fg) (mg : Str → Option Value) (base : Heap) (k : Nat) (x : Str) (ps : List Str) (dvs : List V) (sp : Sp) : Prop :=
  ∃ f fd ds, mg x = some (.ref f) ∧ FnOk P w K mg base CX0 k f fd ps sp ∧ PySem.W.keepIn K (.ref f) = true ∧ Vals dvs ds ∧ Binds K fd ps ds
theorem dfd_of {k : Nat} {x : Str} {st : Stmt} {N ps : List Str} {dvs : List V} {sp : Sp} (F : FnPd K mg x st dvs) (n : Nat) (hd : dvs ≠ []) (hn : n + dvs.length = ps.length) (S : FnScope N ps (defScope st)) (len : ∀ vs H Q E, sp vs H Q E → vs.length = ps.length)
    (hb : ∀ (T : Addr) (kV doc pm : Value) (an : Option Addr) (cdv ct : Value) (us its : List Value), us.length = n → its.length = dvs.length →
      ∃ k, bindArgs (PySem.W.fnOf x x (defArgs st) (defBody st) (defScope st) (.ref T) kV doc pm an cdv ct) ⟨us, []⟩ = seqItems? (.ref T) >>= k ∧ k (some its.toArray) = pure (ps.zip (us ++ its)))
    (hbody : ∀ (f : Addr) (cdv : Value) (A : Around) (outer : List Env) (s : Shared) (H : Hp) (vs : List V) (Q : VK) (E : XK), Room k (A.deeper (PyProof.Rows.envOfC x (defScope st) s.heap.objs.size f cdv)) → sp vs H Q E →
      ∃ t, PSs (cxOf CX0 P w K mg base N x (defScope st) f cdv A outer s H E).nox (defBody st) t ∧ t { nx := fun _ H' => Q .non H', rt := Q } (L2.start N vs) H) : Dfd P w K mg base (k + 1) x ps dvs sp := by
  obtain ⟨f, fd, hm, F⟩ := F
  obtain ⟨ds, r, b⟩ := F.binds1 (ps := ps) n 0 hd hn hb
  refine ⟨f, fd, ds, hm, F.ok S len fun cdv A outer s H vs Q E hr h => ?_, F.kp, r, b⟩
  obtain ⟨t, h1, h2⟩ := hbody f cdv A outer s H vs Q E hr h
  exact ⟨t, PSs.nox h1, h2⟩
theorem pe_dfd {X : Cx} {k : Nat} {x : Str} {ps : List Str} {dvs : List V} {sp : Sp} {p pos : Pos} {e : Expr} {es : List Expr} {t : TA} (F : Dfd X.prog X.w X.K X.mg X.base k x ps dvs sp) (hr : Room k X.A) (hg : Gl X x) (ha : PA X (e :: es) t) (hdb : (x == ("__debug__" : Str)) = false := by decide)
    (he : starEach (e :: es) X.env = (false, eval e X.env) :: starEach es X.env := by rfl) (hpl : (backTo pos (starEach es X.env)).any (·.1) = false := by rfl) :
    PE X (.Call (.Name x p) (e :: es) [] pos) (tCall sp dvs E0 t) := by
  obtain ⟨f, fd, ds, hm, G, kp, hd, hb⟩ := F
  exact pe_call G hr hg hm kp hb hd pass0 ha hdb he hpl
abbrev s_need_most : Stmt := top 30
theorem sc_need_most : FnScope ["most", "steady"] ["most", "steady"] (defScope s_need_most) := ⟨rfl, rfl, rfl, by decide +kernel, rfl, by decide +kernel, by decide +kernel⟩
def R_needM : List PyData → PyData → Prop := fun ds d => ∃ (m : Int), ds = [.int m, .int 1] ∧ (1 ≤ m ∧ m ≤ 9) ∧ d = .none
theorem d_need_most (B : Bn K mg) (F_is_whole : Df P w K mg base 1 "is_whole" ["thing", "low", "high"] (spD K R_whole)) (F : FnPd K mg "need_most" s_need_most [V.int 1]) : Dfd P w K mg base 2 "need_most" ["most", "steady"] [V.int 1] (spD K R_needM) := by
  refine dfd_of F 1 (by simp) rfl sc_need_most (spD_len fun ds d h => by obtain ⟨_, e, _⟩ := h; rw [e]; rfl) (fun T kV doc pm an cdv ct us its h1 h2 => match us, h1, its, h2 with | [_], _, [_], _ => ⟨_, rfl, rfl⟩) fun f cdv A outer s H vs Q E hr h => ?_
  refine ⟨_, (pss_one (ps_if (pt_not (pt_val (pe_df F_is_whole (hr.mono (by decide)) rfl (pa_cons (pv 0) (pa_cons (pv 1) (pa_cons (pe_gi B.g_MOST_STEADY rfl) pa_nil)))))) (pss_one ps_never) pss_nil)), ?_⟩
  obtain ⟨ds, d, him, ⟨m, rfl, ⟨h1, h2⟩, rfl⟩, k⟩ := h
  have env := env_d (N := ["most", "steady"]) him
  try simp only [unpackE, unpackD, wipeD, unT, List.map_cons, List.map_nil, List.length_cons, List.length_nil, List.cons_append, List.nil_append, List.replicate_succ, List.replicate_zero, List.set_cons_succ, List.set_cons_zero, Nat.reduceAdd, Nat.reduceSub] at env
  walk_at "cx"
  walk_at "sq"
  exact st_if env (b := false) (EvT.is (et_not (et_B (by walk_at "ev"))) (by simp [h1, h2])) (fun h => by cases h) fun _ H3 x3 _ => k _ H3 x3 .non
theorem ev_needM {s : L2.St} {H : Hp} {ta : TE} {m : Int} {E : XK} (h1 : EvE K s H ta (.im (.int m))) (h : 1 ≤ m ∧ m ≤ 9) :
    EvE K s H (tCall (spD K R_needM) [V.int 1] E (tCons ta tNil)) (.im .none) := fun H1 x1 Q q =>
  h1 H1 x1 _ fun v H2 x2 rv => ⟨[.int m, .int 1], .none, .cons rv (.cons (.int 1) .nil), ⟨m, rfl, h, rfl⟩, fun v H3 x3 r => q v H3 (x2.trans x3) r⟩
/-! ### totals -/
theorem ev_neNil {s : L2.St} {H : Hp} {ta : TE} {a : Addr} {xs : List V} {ds : List PyData} (hl : SqL K H a xs) (hs : ImAll K H xs ds) (hsh : SeqAt.shaped (.list ds) = true) (ha : EvE K s H ta (.rf a)) : EvE K s H (tOp (rNeD K) ta (tLst tNil)) (.im (.bool (!ds.isEmpty))) := fun H1 x1 Q q =>
  ha H1 x1 _ fun v H2 x2 rv => el_lst (K := K) (ds := []) (s := s) (H := H2) ea_n (by decide) H2 (Same.refl _) _ fun p ys H3 x3 np hp hys => by
    cases hys
    obtain rfl : v = .ref a := rv
    have x03 := (x1.trans x2).trans x3
    refine ⟨.list ds, .list [], Dp.lst (x03.seq hl) (ImAll.dp (shaped_lays hsh) (hs.mono (tk_of x03))), Dp.lst (SqL.of hp) .nil, hsh, by rfl, q _ H3 (x2.trans x3) ?_⟩
    have : PyData.eqv (.list ds) (.list []) = ds.isEmpty := by
      cases ds <;> simp [PyData.eqv, PyData.eqvAll]
    rw [this]
    exact .bl _
theorem ea_star {s : L2.St} {H : Hp} {te : TE} {t : TA} {a : Addr} {xs : List V} {ds : List PyData} {es : List En} (hl : SqL K H a xs) (hs : ImAll K H xs ds) (ha : EvE K s H te (.rf a)) (hr : EvA K s H t es) : EvA K s H (tStar K te t) (ds.map .im ++ es) := fun H1 x1 Q q =>
  ha H1 x1 _ fun v H2 x2 rv => ⟨a, xs, rv, .inr ((x1.trans x2).seq hl), hr H2 (x1.trans x2) _ fun ys H3 x3 ry => q _ H3 (x2.trans x3) (by
    have z := imAll_en (hs.mono (tk_of ((x1.trans x2).trans x3)))
    clear q hs hl
    generalize ds.map En.im = l at z
    induction z with
    | nil => exact ry
    | cons h _ ih => exact .cons h ih)⟩
def atD (k : Nat) (d : PyData) : PyData := match d with
  | .tuple ds => ds.getD k .none
  | _ => .none
theorem EvA_is {s : L2.St} {H : Hp} {ta : TA} {e1 e2 : List En} (h : EvA K s H ta e1) (q : e1 = e2) : EvA K s H ta e2 := q ▸ h
theorem atD_told {k : Nat} (h : k < 6) (r : Told) : atD k (encTold r) = .int (r.get k) := by
  match k, h with
  | 0, _ | 1, _ | 2, _ | 3, _ | 4, _ | 5, _ => rfl
theorem at_told {k : Nat} (h : k < 6) (r : Told) : [PyData.int r.came, .int r.answered, .int r.wasted, .int r.refused, .int r.gave, .int r.lost, encT r.next][k]? = some (.int (r.get k)) := by
  match k, h with
  | 0, _ | 1, _ | 2, _ | 3, _ | 4, _ | 5, _ => rfl
theorem it_told (r : Told) : itD (encTold r) = true := by
  unfold encTold
  simp only [itD, itDs, it_T, Bool.and_self]
theorem dep_told (r : Told) : (encTold r).depth ≤ 5 := by
  have := dep_T r.next
  unfold encTold
  simp only [PyData.depth, PyData.depthAll]
  omega
theorem sh_tolds (l : List Told) : SeqAt.shaped (.list (l.map encTold)) = true := by
  have h1 : (PyData.list (l.map encTold)).depth ≤ 6 := by
    simp only [PyData.depth]
    have : PyData.depthAll (l.map encTold) ≤ 5 := dep_all fun d hd => by
      obtain ⟨r, _, rfl⟩ := List.mem_map.mp hd
      exact dep_told r
    omega
  have h2 : (PyData.list (l.map encTold)).canLay0 = true := by
    simp only [PyData.canLay0]
    exact its_lay _ (its_all fun d hd => by
      obtain ⟨r, _, rfl⟩ := List.mem_map.mp hd
      exact it_told r)
  unfold SeqAt.shaped
  rw [h2, Bool.true_and]
  exact decide_eq_true (by omega)
def sumsM (S : Setg) (t : Stt) (r : List Int) : List Int := (List.range 6).map fun k => sumM S k t r
abbrev s_totals : Stmt := top 43
theorem sc_totals : FnScope ["setting", "state", "row", "found", "sums", "at", "told"] ["setting", "state", "row"] (defScope s_totals) := ⟨rfl, rfl, rfl, by decide +kernel, rfl, by decide +kernel, by decide +kernel⟩
def R_totals : List PyData → PyData → Prop := fun ds d => ∃ (S : Setg) (t : Stt) (r : List Int), ds = [encS S, encT t, encI r] ∧ (S.Ok ∧ t.Ok S ∧ (∀ n, n ∈ r → 0 ≤ n ∧ n ≤ 999) ∧ r.length ≤ 200) ∧ d = .tuple ((sumsM S t r).map .int ++ [encT (endM S t r)])
theorem last_told (S : Setg) : ∀ (r : List Int) (t : Stt), r ≠ [] → ∃ x, (toldsM S t r).getLast? = some x ∧ x.next = endM S t r
  | [], _, h => absurd rfl h
  | [f], t, _ => ⟨_, rfl, rfl⟩
  | f :: g :: r, t, _ => by
    obtain ⟨x, h1, h2⟩ := last_told S (g :: r) (stepM S t f).next (by simp)
    refine ⟨x, ?_, h2⟩
    have : toldsM S t (f :: g :: r) = stepM S t f :: toldsM S (stepM S t f).next (g :: r) := rfl
    rw [this, List.getLast?_cons, h1]
    rfl
theorem d_totals (B : Bn K mg) (F_need_all : Df P w K mg base 5 "need_all" ["setting", "state", "row"] (spD K R_needAll)) (F_steps : Df P w K mg base 3 "steps" ["setting", "state", "row"] (spSteps K)) (F : FnP K mg "totals" s_totals) : Df P w K mg base 6 "totals" ["setting", "state", "row"] (spD K R_totals) := by
  refine df_of F sc_totals (spD_len fun ds d h => by obtain ⟨_, _, _, e, _⟩ := h; rw [e]; rfl) (fun _ _ _ _ _ _ us hl => match us, hl with | [_, _, _], _ => rfl) fun f cdv A outer s H vs Q E hr h => ?_
  refine ⟨_, (pss_cons (ps_expr (pe_df F_need_all (hr.mono (by decide)) rfl (pa_cons (pv 0) (pa_cons (pv 1) (pa_cons (pv 2) pa_nil)))))
  (pss_cons (ps_set (i := 3) sc_totals.nd rfl (by first | exact Or.inl rfl | exact Or.inr rfl) (pe_df F_steps (hr.mono (by decide)) rfl (pa_cons (pv 0) (pa_cons (pv 1) (pa_cons (pv 2) pa_nil)))))
  (pss_cons (ps_setLc (i := 4) (own := [("at", 5)]) rfl sc_totals.nd rfl rfl (sw_true rfl rfl rfl (by decide +kernel)) (pi_range1 rfl B.range (pa_cons pe_int pa_nil)) (blkOk_by (own := [("at", 5)]) (N := ["setting", "state", "row", "found", "sums", "at", "told"]) (sc := defScope s_totals) (by decide +kernel)) (fun _ _ _ _ _ => (pg_name (i := 5) sc_totals.nd rfl (by first | exact Or.inl rfl | exact Or.inr rfl) (by first | exact .inr rfl | exact .inl rfl))) (fun _ _ _ _ _ => pts_nil) (fun _ _ _ _ _ => (pe_callB (c_sumK K (by rfl) rfl) rfl B.sum bt_sum (pa_cons (pe_lc (own := [("told", 6)]) rfl sc_totals.nd (pi_listK K (by rfl) (pv 3)) (blkOk_by (own := [("told", 6)]) (by kernel_rfl)) (fun _ _ _ _ _ => (pg_name (i := 6) sc_totals.nd rfl (by first | exact Or.inl rfl | exact Or.inr rfl) (by first | exact .inr rfl | exact .inl rfl))) (fun _ _ _ _ _ => pts_nil) (fun _ _ _ _ _ => (pe_ix (ix_tupK K (by rfl)) (pv 6) (pv 5) (fun _ _ => rfl)))) pa_nil))))
  (pss_one (ps_ret (pe_tup (pa_star (pv 4) (pa_cons (pe_ifExp (pt_cmpR (op_neD hr.units) (pv 3) (pe_lst pa_nil) (nomark _)) (pe_ix ix_tup (pe_ix ix_list (pv 3) (pe_un un_neg pe_int) (fun _ _ => rfl)) pe_int (fun _ _ => rfl)) (pv 1)) pa_nil)))))))), ?_⟩
  obtain ⟨ds, d, him, ⟨S, t, r, rfl, ⟨ok, tk, r1, r2⟩, rfl⟩, k⟩ := h
  have env := env_d (N := ["setting", "state", "row", "found", "sums", "at", "told"]) him
  try simp only [unpackE, unpackD, wipeD, unT, List.map_cons, List.map_nil, List.length_cons, List.length_nil, List.cons_append, List.nil_append, List.replicate_succ, List.replicate_zero, List.set_cons_succ, List.set_cons_zero, Nat.reduceAdd, Nat.reduceSub] at env
  walk_at "cx"
  walk_at "sq"
  refine st_drop (ev_needAll (ev_v env rfl) (ev_v env rfl) (ev_v env rfl) ⟨ok, tk, r1, r2⟩) fun H1 x1 => ?_
  have env := env.mono (tk_of x1)
  walk_at "sq"
  refine st_callG (es := [.im (encS S), .im (encT t), .im (encI r)]) (by walk_at "ev") fun vs2 H2 x2 rv => ⟨S, t, r, enAll_im (ds := [encS S, encT t, encI r]) rv, ⟨ok, tk, fun n hn => (r1 n hn).1, r2⟩, fun la xs H3 x3 nla hla hxs => ?_⟩
  have env := (env.mono (tk_of (x2.trans x3))).set (e := .rf la) rfl 3
  try simp only [unpackE, unpackD, wipeD, unT, List.map_cons, List.map_nil, List.length_cons, List.length_nil, List.cons_append, List.nil_append, List.replicate_succ, List.replicate_zero, List.set_cons_succ, List.set_cons_zero, Nat.reduceAdd, Nat.reduceSub] at env
  dsimp only [gName]
  walk_at "sq"
  have hlen : (toldsM S t r).length = r.length := toldsM_len S r t
  refine st_setL env (EvL.is (el_lc1 (fun d => match d with | .int i => PyData.int (sumM S i.toNat t r) | _ => .none) env (ei_range (n := 6) (by walk_at "ev") (by decide) (by decide)) (by rw [sizeLine_eq, List.length_map, List.length_range]; decide) fun d hd s4 H4 x4 env => ?_) (show _ = (sumsM S t r).map .int by rfl)) fun ls ys H5 x5 nls hls hys env => ?_
  · obtain ⟨j, hj, rfl⟩ := List.mem_map.mp hd
    have hj : j < 6 := List.mem_range.mp hj
    try simp only [unpackE, unpackD, wipeD, unT, List.map_cons, List.map_nil, List.length_cons, List.length_nil, List.cons_append, List.nil_append, List.replicate_succ, List.replicate_zero, List.set_cons_succ, List.set_cons_zero, Nat.reduceAdd, Nat.reduceSub] at env
    refine EvE.is (ev_sumL (ns := (toldsM S t r).map (·.get j)) (EvL.is (el_lc1 (atD j) env (ei_list (SqL.of (x4 la _ hla)) (hxs.mono (tk_of x4)) (ev_v env rfl)) (by rw [List.length_map, hlen, sizeLine_eq]; omega) fun d hd s5 H5 x5 env => ?_) ?_)) ?_
    · obtain ⟨z, hz, rfl⟩ := List.mem_map.mp hd
      try simp only [unpackE, unpackD, wipeD, unT, List.map_cons, List.map_nil, List.length_cons, List.length_nil, List.cons_append, List.nil_append, List.replicate_succ, List.replicate_zero, List.set_cons_succ, List.set_cons_zero, Nat.reduceAdd, Nat.reduceSub] at env
      exact EvE.is (ev_ixT (n := j) (ev_v env rfl) (ev_v env rfl) (at_told hj z)) (by rw [atD_told hj])
    · rw [List.map_map, List.map_map]
      exact List.map_congr_left fun z _ => atD_told hj z
    · show _ = En.im (.int (sumM S (Int.toNat (j : Int)) t r))
      rw [Int.toNat_natCast]
      rfl
  try simp only [unpackE, unpackD, wipeD, unT, List.map_cons, List.map_nil, List.length_cons, List.length_nil, List.cons_append, List.nil_append, List.replicate_succ, List.replicate_zero, List.set_cons_succ, List.set_cons_zero, Nat.reduceAdd, Nat.reduceSub] at env
  walk_at "sq"
  refine st_retD (ev_tup (ds := (sumsM S t r).map .int ++ [encT (endM S t r)]) ?_ (by rw [List.length_append, List.length_map, sumsM, List.length_map, List.length_range]; show 7 ≤ sizeLine; decide)) fun v H6 x6 rv => k v H6 ((((x1.trans x2).trans x3).trans x5).trans x6) rv
  refine EvA_is (ea_star (SqL.of hls) hys (ev_v env rfl) (ea_c (ev_if (b := !((toldsM S t r).map encTold).isEmpty) (en := .im (encT (endM S t r))) (et_test (ev_neNil (SqL.of (x5 la _ hla)) (hxs.mono (tk_of x5)) (sh_tolds _) (ev_v env rfl))) (fun h => ?_) (fun h => ?_)) ea_n)) (by simp)
  · have hne : r ≠ [] := fun e => by rw [e] at h; simp [toldsM] at h
    obtain ⟨x, e1, e2⟩ := last_told S r t hne
    refine EvE.is (ev_ixT (n := 6) (ds := [_, _, _, _, _, _, _]) (ev_ixLl (d := encTold x) (SqL.of (x5 la _ hla)) (hxs.mono (tk_of x5)) (ev_v env rfl) (by walk_at "ev") ?_) ev_i rfl) (by rw [e2])
    rw [List.length_map, List.getElem?_map, ← List.getLast?_eq_getElem?, e1]
    rfl
  · have hne : r = [] := by
      have : (toldsM S t r).length = 0 := by
        have : (toldsM S t r) = [] := by simpa using h
        rw [this]; rfl
      exact List.eq_nil_of_length_eq_zero (by omega)
    exact EvE.is (ev_v env rfl) (by rw [hne]; rfl)
theorem ev_totals {s : L2.St} {H : Hp} {ta tb tc : TE} {S : Setg} {t : Stt} {r : List Int} {E : XK} (h1 : EvE K s H ta (.im (encS S))) (h2 : EvE K s H tb (.im (encT t))) (h3 : EvE K s H tc (.im (encI r))) (h : S.Ok ∧ t.Ok S ∧ (∀ n, n ∈ r → 0 ≤ n ∧ n ≤ 999) ∧ r.length ≤ 200) :
    EvE K s H (tCall (spD K R_totals) [] E (tCons ta (tCons tb (tCons tc tNil)))) (.im (.tuple ((sumsM S t r).map .int ++ [encT (endM S t r)]))) := ev_callD (ds := [encS S, encT t, encI r]) (ea_c h1 (ea_c h2 (ea_c h3 ea_n))) rfl ⟨S, t, r, rfl, h, rfl⟩
end
end CB

/-! ## KL6 -/
set_option Elab.async false
set_option linter.all false
set_option maxRecDepth 100000
set_option maxHeartbeats 2000000
/-! More readings: products, floors, lists written in their places, dicts of ints, while loops with a ghost. -/
namespace CB
open PySem PySem.Spec L2
theorem _root_.L2.Room.units1 {k : Nat} {A : Around} (h : Room k A) : A.units + 1 < cLine := by
  have := h.units
  omega
section
variable {K : Fg} {s : L2.St} {H : Hp} {c : Dn} {ta tb te tl tv to ti : TE} {tr : TA} {tt : TT} {en : En} {D : Ends} {d e : PyData} {ds es : List PyData} {i j : Int} {a l : Addr} {xs : List V}
theorem ev_mul (ha : EvE K s H ta (.im (.int i))) (hb : EvE K s H tb (.im (.int j))) (h : CMul i j) : EvE K s H (tOp (rI CMul fun i j => .int (i * j)) ta tb) (.im (.int (i * j))) :=
  ev_op2 ha hb fun x y H1 Q _ rx ry q => ⟨i, j, im_int rx, im_int ry, h, q _ H1 (Same.refl _) (.int _)⟩
theorem ev_mod (ha : EvE K s H ta (.im (.int i))) (hb : EvE K s H tb (.im (.int j))) (h : 0 < j) : EvE K s H (tOp (rI (fun _ j => 0 < j) fun i j => .int (i % j)) ta tb) (.im (.int (i % j))) :=
  ev_op2 ha hb fun x y H1 Q _ rx ry q => ⟨i, j, im_int rx, im_int ry, h, q _ H1 (Same.refl _) (.int _)⟩
theorem ev_fdiv (ha : EvE K s H ta (.im (.int i))) (hb : EvE K s H tb (.im (.int j))) (h : CDiv i j) : EvE K s H (tOp (rI CDiv fun i j => .int (i / j)) ta tb) (.im (.int (i / j))) :=
  ev_op2 ha hb fun x y H1 Q _ rx ry q => ⟨i, j, im_int rx, im_int ry, h, q _ H1 (Same.refl _) (.int _)⟩
theorem ev_pow (ha : EvE K s H ta (.im (.int i))) (hb : EvE K s H tb (.im (.int j))) (h : CPow i j) : EvE K s H (tOp (rI CPow fun i j => .int (i ^ j.toNat)) ta tb) (.im (.int (i ^ j.toNat))) :=
  ev_op2 ha hb fun x y H1 Q _ rx ry q => ⟨i, j, im_int rx, im_int ry, h, q _ H1 (Same.refl _) (.int _)⟩
/-- xs == [] -/
theorem ev_eqNil (hl : SqL K H a xs) (hs : ImAll K H xs ds) (hsh : SeqAt.shaped (.list ds) = true) (ha : EvE K s H ta (.rf a)) : EvE K s H (tOp (rEqD K) ta (tLst tNil)) (.im (.bool ds.isEmpty)) := fun H1 x1 Q q =>
  ha H1 x1 _ fun v H2 x2 rv => el_lst (K := K) (ds := []) (s := s) (H := H2) ea_n (by decide) H2 (Same.refl _) _ fun p ys H3 x3 np hp hys => by
    cases hys
    obtain rfl : v = .ref a := rv
    have x03 := (x1.trans x2).trans x3
    refine ⟨.list ds, .list [], Dp.lst (x03.seq hl) (ImAll.dp (shaped_lays hsh) (hs.mono (tk_of x03))), Dp.lst (SqL.of hp) .nil, hsh, by rfl, q _ H3 (x2.trans x3) ?_⟩
    have : PyData.eqv (.list ds) (.list []) = ds.isEmpty := by
      cases ds <;> simp [PyData.eqv, PyData.eqvAll]
    rw [this]
    exact .bl _
/-- [x] * k -/
theorem el_rep (h : EvL K s H tl ds) (hb : EvE K s H tb (.im (.int j))) (h1 : -(2 ^ 63) ≤ j) (h2 : j < 2 ^ 63) (hz : ds.length * j.toNat ≤ sizeLine) : EvL K s H (tOp rRep tl tb) (List.replicate j.toNat ds).flatten := fun H1 x1 Q q =>
  h H1 x1 _ fun p xs H2 x2 np hp hx => hb H2 (x1.trans x2) _ fun v H3 x3 rv => by
    refine ⟨p, j, xs, rfl, im_int rv, x3 p _ hp, h1, h2, by rw [imAll_len hx]; exact hz, fun p2 hp2 => ?_⟩
    have xn := same_new (o := .lst (List.replicate j.toNat xs).flatten) hp2
    exact q p2 _ _ ((x2.trans x3).trans xn) ((x2.trans x3).free hp2) upd_same (imAll_rep (hx.mono (tk_of (x3.trans xn))) _)
/-- xs + ys, both new -/
theorem el_catLL (h : EvL K s H ta ds) (hb : EvL K s H tb es) (hz : ds.length + es.length ≤ sizeLine) : EvL K s H (tOp rCat ta tb) (ds ++ es) := fun H1 x1 Q q =>
  h H1 x1 _ fun p xs H2 x2 np hp hx => hb H2 (x1.trans x2) _ fun p' ys H3 x3 np' hp' hy => by
    refine ⟨p, p', xs, ys, rfl, rfl, x3 p _ hp, hp', by rw [imAll_len hx, imAll_len hy]; exact hz, fun p2 hp2 => ?_⟩
    have xn := same_new (o := .lst (xs ++ ys)) hp2
    exact q p2 _ _ ((x2.trans x3).trans xn) ((x2.trans x3).free hp2) upd_same (imAll_app (hx.mono (tk_of (x3.trans xn))) (hy.mono (tk_of xn)))
theorem imAll_rev {vs : List V} {ds : List PyData} (h : ImAll K H vs ds) : ImAll K H vs.reverse ds.reverse := by
  induction vs generalizing ds with
  | nil => cases h; exact .nil
  | cons v vs ih =>
    cases h with
    | cons a t =>
      rw [List.reverse_cons, List.reverse_cons]
      exact imAll_app (ih t) (.cons a .nil)
theorem imAll_set {vs : List V} {ds : List PyData} {v : V} {d : PyData} (h : ImAll K H vs ds) (r : Im K H v d) : ∀ n : Nat, ImAll K H (vs.set n v) (ds.set n d) := by
  induction vs generalizing ds with
  | nil => cases h; exact fun _ => .nil
  | cons w vs ih =>
    cases h with
    | cons a t =>
      intro n
      cases n with
      | zero => exact .cons r t
      | succ n => exact .cons a (ih t n)
/-- xs[::-1] -/
theorem el_rev (hl : SqL K H a xs) (hs : ImAll K H xs ds) (ha : EvE K s H te (.rf a)) : EvL K s H (tRevL K te) ds.reverse := fun H1 x1 Q q =>
  ha H1 x1 _ fun v H2 x2 rv => by
    have x02 := x1.trans x2
    refine ⟨a, xs, rv, x02.seq hl, fun p hp => ?_⟩
    have xn := same_new (o := .lst xs.reverse) hp
    exact q p _ _ (x2.trans xn) (x2.free hp) upd_same (imAll_rev (hs.mono (tk_of (x02.trans xn))))
theorem ixN_of {n m : Nat} (h : m < n) : ixN n (m : Int) = some m := by
  unfold ixN
  rw [if_pos (by omega), if_pos (by omega)]
  simp
/-- l[i] = e -/
theorem st_setix {n : Nat} (hl : H l = some (.lst xs)) (hv : EvE K s H tv en) (ho : EvE K s H to (.rf l)) (hi : EvE K s H ti (.im (.int (n : Int)))) (hn : n < xs.length)
    (k : ∀ v H1, Same H H1 → EnOk K H1 en v → D.nx s (upd H1 l (.lst (xs.set n v)))) : tAsg tv (gSub to ti rSetL) D s H :=
  hv H (Same.refl _) _ fun v H1 x1 rv => ho H1 x1 _ fun o H2 x2 ro => hi H2 (x1.trans x2) _ fun y H3 x3 ry => by
    have x03 := (x1.trans x2).trans x3
    exact ⟨l, xs, n, n, ro, im_int ry, x03 l _ hl, ixN_of hn, k v H3 x03 (rv.mono (tk_of (x2.trans x3)))⟩
/-- a, b = a new list, data -/
theorem st_parLD {i j : Nat} (env : EnvD K H s c) (h1 : EvL K s H tl ds) (h2 : EvE K s H te en) (k : ∀ la xs s' H1, Same H H1 → H la = none → H1 la = some (.lst xs) → ImAll K H1 xs ds → EnvD K H1 s' ((c.set i (some (.rf la))).set j (some en)) → D.nx s' H1) : tPar i j (tCons tl (tCons te tNil)) D s H :=
  h1 H (Same.refl _) _ fun la xs H1 x1 n hl hx => h2 H1 x1 _ fun v H2 x2 r =>
    ⟨.ref la, v, rfl, k la xs _ H2 (x1.trans x2) n (x2 la _ hl) (hx.mono (tk_of x2)) (((env.mono (tk_of (x1.trans x2))).set (e := .rf la) rfl i).set r j)⟩
/-- a, b = data, a new dict -/
theorem st_parDD {i j : Nat} (env : EnvD K H s c) (h1 : EvE K s H te en) (k : ∀ la s' H1, Same H H1 → H la = none → H1 la = some (.dK []) → EnvD K H1 s' ((c.set i (some en)).set j (some (.rf la))) → D.nx s' H1) : tPar i j (tCons te (tCons tDNewK tNil)) D s H :=
  h1 H (Same.refl _) _ fun v H1 x1 r p hp => by
    have xn := same_new (o := .dK []) hp
    exact ⟨v, .ref p, rfl, k p _ _ (x1.trans xn) (x1.free hp) upd_same (((env.mono (tk_of (x1.trans xn))).set (r.mono (tk_of xn)) i).set (e := .rf p) rfl j)⟩
/-- while, with a ghost -/
theorem st_whileG {α : Type} {tbd : TS} (Pv : α → L2.St → Hp → Prop) (mu : α → Nat) (test : α → Bool) (a0 : α) (h0 : Pv a0 s H) (ht : ∀ a s' H', Pv a s' H' → EvT K s' H' tt (test a))
    (hst : ∀ a s' H' H2, Pv a s' H' → Same H' H2 → Pv a s' H2)
    (hs : ∀ a s' H', Pv a s' H' → test a = true → tbd { D with nx := fun s3 H3 => ∃ a', mu a' < mu a ∧ Pv a' s3 H3, ct := fun s3 H3 => ∃ a', mu a' < mu a ∧ Pv a' s3 H3, bk := D.nx } s' H')
    (hd : ∀ a s' H', Pv a s' H' → test a = false → D.nx s' H') : tWhile tt tbd D s H := by
  refine ⟨fun m s' H' => ∃ a, m = mu a ∧ Pv a s' H', ⟨_, a0, rfl, h0⟩, ?_⟩
  rintro m s' H' ⟨a, rfl, p⟩
  refine ht a s' H' p H' (Same.refl _) _ fun H2 x2 => ?_
  have p2 := hst a s' H' H2 p x2
  cases e : test a with
  | true =>
    refine iteT ⟨fun s3 H3 => ∃ a', mu a' < mu a ∧ Pv a' s3 H3, fun s3 H3 ⟨a', z, p'⟩ => ⟨mu a', z, a', rfl, p'⟩, ?_⟩
    exact hs a s' H2 p2 e
  | false => exact iteF (hd a s' H2 p2 e)
/-! ### dicts whose keys are ints -/
def kvI (c : List Nat) : List (Key × V) := c.mapIdx fun (i v : Nat) => (.inl (v : Int), V.int (i : Nat))
theorem kvI_len (c : List Nat) : (kvI c).length = c.length := List.length_mapIdx
theorem kvI_get {c : List Nat} {v : Nat} : valV (kvI c) (.inl (v : Int)) = (c.idxOf? v).map fun i => V.int (i : Nat) := by
  unfold kvI
  have key : ∀ (c : List Nat) (k : Nat), valV (c.mapIdx fun (i v : Nat) => ((.inl (v : Int) : Key), V.int ((i + k : Nat) : Int))) (.inl (v : Int)) = (c.idxOf? v).map fun i => V.int ((i + k : Nat) : Int) := by
    intro c
    induction c with
    | nil => intro k; rfl
    | cons b c ih =>
      intro k
      rw [List.mapIdx_cons, List.idxOf?_cons]
      by_cases e : b = v
      · subst e
        rw [valV_pos rfl, if_pos (by simp)]
        rfl
      · rw [valV_neg (fun q => e (by have := Sum.inl.inj q; omega)), if_neg (by simpa using e)]
        have := ih (k + 1)
        rw [Option.map_map]
        have e2 : (fun (i v : Nat) => ((.inl (v : Int) : Key), V.int ((i + 1 + k : Nat) : Int))) = fun (i : Nat) (v : Nat) => ((.inl (v : Int) : Key), V.int ((i + (k + 1) : Nat) : Int)) := by
          funext i v
          rw [Nat.add_assoc, Nat.add_comm 1 k]
        have e3 : ((fun i => V.int ((i + k : Nat) : Int)) ∘ fun x => x + 1) = fun i : Nat => V.int ((i + (k + 1) : Nat) : Int) := by
          funext i
          show V.int ((i + 1 + k : Nat) : Int) = _
          rw [Nat.add_assoc, Nat.add_comm 1 k]
        rw [e2, e3]
        exact this
  exact key c 0
theorem kvI_none {c : List Nat} {v : Nat} (h : v ∉ c) : valV (kvI c) (.inl (v : Int)) = none := by
  rw [kvI_get, List.idxOf?_eq_none_iff.mpr h]
  rfl
theorem kvI_put {c : List Nat} {v : Nat} (h : v ∉ c) : putK (kvI c) (.inl (v : Int)) (V.int (c.length : Nat)) = kvI (c ++ [v]) := by
  unfold putK
  rw [valV_any, kvI_none h]
  unfold kvI
  rw [List.mapIdx_append]
  simp
theorem ev_dnot {c : List Nat} {v : Nat} (hd : H a = some (.dK (kvI c))) (hy : EvE K s H te (.im (.int (v : Int)))) (ha : EvE K s H ta (.rf a)) : EvE K s H (tDNotIn te ta) (.im (.bool (decide (v ∉ c)))) := fun H1 x1 Q q =>
  hy H1 x1 _ fun y H2 x2 ry => ha H2 (x1.trans x2) _ fun x H3 x3 rx => by
    have hd3 := x3 a _ (x2 a _ (x1 a _ hd))
    refine ⟨a, valV (kvI c) (.inl (v : Int)), rx, .inl ⟨kvI c, .inl (v : Int), Or.inl hd3, im_int ry, rfl⟩, ?_⟩
    have e : (!(valV (kvI c) (.inl (v : Int))).isSome) = decide (v ∉ c) := by
      by_cases h : v ∈ c
      · rw [kvI_get]
        cases e : c.idxOf? v with
        | none => exact absurd h (List.idxOf?_eq_none_iff.mp e)
        | some i => simp [h]
      · rw [kvI_none h]
        simp [h]
    rw [e]
    exact q _ H3 (x2.trans x3) (.bl _)
theorem ev_dix {c : List Nat} {v n : Nat} (hd : H a = some (.dK (kvI c))) (hn : c.idxOf? v = some n) (ha : EvE K s H ta (.rf a)) (hy : EvE K s H te (.im (.int (v : Int)))) : EvE K s H (tDGet ta te) (.im (.int (n : Int))) := fun H1 x1 Q q =>
  ha H1 x1 _ fun x H2 x2 rx => hy H2 (x1.trans x2) _ fun y H3 x3 ry => by
    have hd3 := x3 a _ (x2 a _ (x1 a _ hd))
    refine ⟨a, V.int (n : Int), rx, .inl ⟨kvI c, .inl (v : Int), Or.inl hd3, im_int ry, by rw [kvI_get, hn]; rfl⟩, q _ H3 (x2.trans x3) (.int _)⟩
theorem ev_lenD {kvs : List (Key × V)} (hd : H a = some (.dK kvs)) (ha : EvE K s H ta (.rf a)) : EvE K s H (tCB (fun xs H Q => ∃ a kvs, xs = [V.ref a] ∧ H a = some (.dK kvs) ∧ Q (.int kvs.length) H) (tCons ta tNil)) (.im (.int (kvs.length : Int))) :=
  ev_cb (ea_c ha ea_n) fun vs H1 Q e0 r q => by
    obtain ⟨v, e1, r1⟩ := enAll1 r
    exact ⟨a, kvs, by rw [e1, show v = .ref a from r1], e0 a _ hd, q _ H1 (Same.refl _) (.int _)⟩
/-- d[v] = len(d), v a new key -/
theorem st_dput {c' : List Nat} {v : Nat} (hd : H a = some (.dK (kvI c'))) (hv : EvE K s H tv (.im (.int (c'.length : Int)))) (ha : EvE K s H ta (.rf a)) (hy : EvE K s H te (.im (.int (v : Int)))) (hn : v ∉ c') (hz : c'.length < sizeLine)
    (k : ∀ H1, Same H H1 → H1 a = some (.dK (kvI c')) → D.nx s (upd H1 a (.dK (kvI (c' ++ [v]))))) : sDPut ta te tv D s H :=
  hv H (Same.refl _) _ fun w H1 x1 rw' => ha H1 x1 _ fun x H2 x2 rx => hy H2 (x1.trans x2) _ fun y H3 x3 ry => by
    have x03 := (x1.trans x2).trans x3
    refine ⟨a, _, rx, .inl ⟨kvI c', .inl (v : Int), x03 a _ hd, im_int ry, by rw [kvI_len]; exact hz, rfl⟩, ?_⟩
    rw [im_int rw', kvI_put hn]
    exact k H3 x03 (x03 a _ hd)
end
end CB

/-! ## KR2 -/
set_option Elab.async false
set_option linter.all false
set_option maxRecDepth 100000
set_option maxHeartbeats 4000000
/-! sum of a tuple of ints -/
namespace CB
open PySem PySem.Spec PyProof.Rows L2
theorem tup_kept {s : Shared} {l : Addr} {h' : Heap} (hk : ∀ b o, b ∉ [s.heap.objs.size] → (s.heap.push { cls := .type "tuple_iterator", data := .fields #[.ref l, .int 0 0] }).get? b = some o → h'.get? b = some o) :
    ∀ b o, s.heap.get? b = some o → h'.get? b = some o := fun b o e => by
  refine hk b o (fun hm => ?_) (Heap.get?_push_of_some _ e)
  rcases List.mem_cons.mp hm with e1 | hm
  · exact absurd (e1 ▸ Heap.lt_size e) (Nat.lt_irrefl _)
  · cases hm
theorem sum_tupG {prog : Program} {w : World} {A : Around} {E : Value → Shared → Prop} {s : Shared} {l : Addr} {xs : Array (Int × Tok)} {Q : Value → Shared → Prop} (hh : A.handled = none) (hl : s.heap.IsTuple l (intItems xs))
    (h : ∀ h' tk t', (∀ b o, s.heap.get? b = some o → h'.get? b = some o) → Q (.int (preSum (numAt xs) xs.size) t') { s with heap := h', toks := tk }) :
    wpAny (model prog w) A (call (.builtin "sum") [.ref l]) Q E s := by
  have hlt : l < s.heap.objs.size := by obtain ⟨_, e, _⟩ := hl; exact Heap.lt_size e
  refine call_sum_walkG (wpAny_pyIter_tuple hl ?_)
  refine ⟨_, _, _, _, _, _, numAt xs, rfl, Walks.tuple (A := A.in1) hh _ l (Nat.ne_of_lt hlt) (intItems xs), ⟨⟨_, Heap.get?_push_size _ rfl, rfl, rfl⟩, hl.push _⟩, fun b hb => ?_, (fun _ _ => intItems_at), fun h' tk t' hk => ?_⟩
  · show b < (s.heap.push _).objs.size
    rw [Heap.size_push]
    rcases List.mem_cons.mp hb with rfl | hb
    · exact Nat.lt_succ_self _
    · rcases List.mem_cons.mp hb with rfl | hb
      · exact Nat.lt_succ_of_lt hlt
      · cases hb
  · have := h h' tk t' (tup_kept hk)
    simpa [intItems] using this
def rSumT (K : Fg) : List V → Hp → VK → Prop := fun vs H Q => ∃ (a : Addr) (ns : List Int), vs = [V.ref a] ∧ SqT K H a (ns.map V.int) ∧ Q (.int ns.sum) H
theorem c_sumT {X : Cx} (hc : X.calm = true) : CallR X (.builtin "sum") (rSumT X.K) := by
  intro pins s σ H vs us Q I r h
  obtain ⟨a, ns, rfl, hs, q⟩ := h
  obtain ⟨its, rv, hl, _⟩ := I.tuple hs
  rw [Vals.ref1 r]
  have hi := rv.ints
  obtain ⟨xs, e⟩ := hi.allInts.items
  have hn : numsOf (intItems xs).toList = ns := by rw [← e]; exact hi.numsOf
  rw [nums_intItems] at hn
  rw [e] at hl
  refine sum_tupG (I.ok.hd hc) hl fun h' tk t' hk => ?_
  rw [preSum_eq, List.take_of_length_le (by simp), hn]
  exact ⟨.int _, H, I.kept hk, ⟨_, rfl⟩, q⟩
theorem ev_sumT {K : Fg} {s : L2.St} {H : Hp} {ta : TE} {ns : List Int} (ha : EvE K s H ta (.im (.tuple (ns.map .int)))) : EvE K s H (tCB (rSumT K) (tCons ta tNil)) (.im (.int ns.sum)) :=
  ev_cb (ea_c ha ea_n) fun vs H1 Q _ r q => by
    obtain ⟨v, e1, r1⟩ := enAll1 r
    obtain ⟨a, xs, e2, e3, e4⟩ := im_tup r1
    rw [imAll_ints e4] at e3
    exact ⟨a, ns, by rw [e1, e2], e3, q _ H1 (Same.refl _) (.int _)⟩
end CB

/-! ## KB9 -/
set_option Elab.async false
set_option linter.all false
set_option maxRecDepth 100000
set_option maxHeartbeats 4000000
/-! divisor, is_price, is_fraction, round_among. -/
namespace CB
open PySem PySem.Spec L2
local macro_rules | `(tactic| walk_at "ev1") => `(tactic| (first
  | exact ev_i | exact ev_b | exact ev_n | exact ev_s | exact ev_v (by assumption) rfl | exact ea_n
  | refine' ea_c ?_ ?_ | with_reducible refine' ev_ixT ?_ ?_ ?_ | with_reducible refine' ev_ixTl ?_ ?_ ?_
  | with_reducible refine' ev_add ?_ ?_ | with_reducible refine' ev_sub ?_ ?_
  | with_reducible refine' ev_lt ?_ ?_ | with_reducible refine' ev_le ?_ ?_ | with_reducible refine' ev_gt ?_ ?_ | with_reducible refine' ev_ge ?_ ?_
  | with_reducible refine' ev_eqI ?_ ?_ | with_reducible refine' ev_neI ?_ ?_ | with_reducible refine' ev_eqS ?_ ?_
  | with_reducible refine' ev_isN ?_ | with_reducible refine' ev_notN ?_ | with_reducible refine' ev_chain ?_ ?_ ?_ | with_reducible refine' ev_neg ?_
  | with_reducible refine' is_ii ?_ | with_reducible refine' is_ib ?_ | with_reducible refine' is_bb ?_ | with_reducible refine' is_ss ?_ | with_reducible refine' is_tt ?_
  | with_reducible refine' ev_andV ?_ ?_ | with_reducible refine' ev_orV ?_ ?_ | with_reducible refine' ev_notV ?_
  | with_reducible refine' ev_lenT ?_ | with_reducible refine' ev_min ?_ ?_ | with_reducible refine' ev_max ?_ ?_
  | with_reducible refine' et_test ?_ | with_reducible refine' et_B ?_ | with_reducible refine' et_not ?_ | with_reducible refine' et_and ?_ ?_ | with_reducible refine' et_or ?_ ?_ | exact et_yes
  | with_reducible refine' eo_some ?_ | exact eo_none | (with_reducible intro _) | rfl))
local macro_rules | `(tactic| walk_at "ev") => `(tactic| repeat' walk_at "ev1")
local macro_rules | `(tactic| walk_at "sq") => `(tactic| try dsimp only [tSeq, tNext])
local macro_rules | `(tactic| walk_at "cx") => `(tactic| try dsimp only [cxOf, Cx.nox, Cx.wish])

local macro_rules | `(tactic| walk_at "ev1") => `(tactic| with_reducible refine' ev_whole ?_ ?_ ?_)
section
variable {P : Program} {w : World} {K : Fg} {mg : Str → Option Value} {base : Heap}
abbrev s_divisor : Stmt := top 54
theorem sc_divisor : FnScope ["one", "other"] ["one", "other"] (defScope s_divisor) := ⟨rfl, rfl, rfl, by decide +kernel, rfl, by decide +kernel, by decide +kernel⟩
def R_div : List PyData → PyData → Prop := fun ds d => ∃ a b : Nat, ds = [.int (a : Int), .int (b : Int)] ∧ d = .int (Nat.gcd a b : Nat)
theorem d_divisor (F : FnP K mg "divisor" s_divisor) : Df P w K mg base 1 "divisor" ["one", "other"] (spD K R_div) := by
  refine df_of F sc_divisor (spD_len fun ds d h => by obtain ⟨_, _, e, _⟩ := h; rw [e]; rfl) (fun _ _ _ _ _ _ us hl => match us, hl with | [_, _], _ => rfl) fun f cdv A outer s H vs Q E hr h => ?_
  refine ⟨_, (pss_cons (ps_while PassesOwn.never (pt_cmpR op_ne (pv 1) pe_int (nomark _)) (pss_one (ps_par (i := 0) (j := 1) rfl sc_divisor.nd rfl rfl (by decide) rfl rfl (pa_cons (pv 1) (pa_cons (pe_op op_mod (pv 0) (pv 1)) pa_nil)) (by rfl))))
  (pss_one (ps_ret (pv 0)))), ?_⟩
  obtain ⟨ds, d, him, ⟨a, b, rfl, rfl⟩, k⟩ := h
  have env := env_d (N := ["one", "other"]) him
  try simp only [unpackE, unpackD, wipeD, unT, List.map_cons, List.map_nil, List.length_cons, List.length_nil, List.cons_append, List.nil_append, List.replicate_succ, List.replicate_zero, List.set_cons_succ, List.set_cons_zero, Nat.reduceAdd, Nat.reduceSub] at env
  walk_at "cx"
  walk_at "sq"
  refine st_whileG (K := K) (α := Nat × Nat) (fun p s' H' => Same H H' ∧ Nat.gcd p.1 p.2 = Nat.gcd a b ∧ EnvD K H' s' [some (.im (.int (p.1 : Int))), some (.im (.int (p.2 : Int)))]) (fun p => p.2) (fun p => decide (p.2 ≠ 0)) (a, b) ⟨Same.refl _, rfl, env⟩ ?_ ?_ ?_ ?_
  · rintro ⟨x, y⟩ s' H' ⟨_, _, env⟩
    refine EvT.is (et_test (ev_neI (ev_v env rfl) ev_i)) ?_
    simp
  · rintro ⟨x, y⟩ s' H' H2 ⟨x1, e, env⟩ x2
    exact ⟨x1.trans x2, e, env.mono (tk_of x2)⟩
  · rintro ⟨x, y⟩ s' H' ⟨x1, e, env⟩ ht
    have hy : y ≠ 0 := of_decide_eq_true ht
    refine st_par (e1 := .im (.int (y : Int))) (e2 := .im (.int ((x % y : Nat) : Int))) env (ea_c (ev_v env rfl) (ea_c (EvE.is (ev_mod (ev_v env rfl) (ev_v env rfl) (by omega)) (by rw [Int.natCast_emod])) ea_n)) fun s2 H2 x2 env => ?_
    try simp only [unpackE, unpackD, wipeD, unT, List.map_cons, List.map_nil, List.length_cons, List.length_nil, List.cons_append, List.nil_append, List.replicate_succ, List.replicate_zero, List.set_cons_succ, List.set_cons_zero, Nat.reduceAdd, Nat.reduceSub] at env
    refine ⟨(y, x % y), Nat.mod_lt _ (Nat.pos_of_ne_zero hy), x1.trans x2, ?_, env⟩
    show Nat.gcd y (x % y) = _
    rw [← e, Nat.gcd_comm y, ← Nat.gcd_rec, Nat.gcd_comm]
  · rintro ⟨x, y⟩ s' H' ⟨x1, e, env⟩ ht
    have hy : y = 0 := by
      have := of_decide_eq_false ht
      exact Decidable.of_not_not this
    subst hy
    walk_at "sq"
    refine st_retD (EvE.is (ev_v env rfl) ?_) fun v H2 x2 r => k v H2 (x1.trans x2) r
    have e : Nat.gcd x 0 = _ := e
    rw [Nat.gcd_zero_right] at e
    rw [e]
theorem ev_div {s : L2.St} {H : Hp} {ta tb : TE} {a b : Int} {E : XK} (h1 : EvE K s H ta (.im (.int a))) (h2 : EvE K s H tb (.im (.int b))) (ha : 0 ≤ a) (hb : 0 ≤ b) :
    EvE K s H (tCall (spD K R_div) [] E (tCons ta (tCons tb tNil))) (.im (.int (Int.gcd a b : Nat))) := by
  obtain ⟨m, rfl⟩ := Int.eq_ofNat_of_zero_le ha
  obtain ⟨n, rfl⟩ := Int.eq_ofNat_of_zero_le hb
  exact ev_callD (ds := [.int (m : Int), .int (n : Int)]) (ea_c h1 (ea_c h2 ea_n)) rfl ⟨m, n, rfl, rfl⟩
abbrev s_is_price : Stmt := top 62
theorem sc_is_price : FnScope ["thing"] ["thing"] (defScope s_is_price) := ⟨rfl, rfl, rfl, by decide +kernel, rfl, by decide +kernel, by decide +kernel⟩
def R_price : List PyData → PyData → Prop := fun ds d => ∃ a : Int, ds = [.int a] ∧ d = .bool true
theorem d_is_price (B : Bn K mg) (F : FnP K mg "is_price" s_is_price) : Df P w K mg base 1 "is_price" ["thing"] (spD K R_price) := by
  refine df_of F sc_is_price (spD_len fun ds d h => by obtain ⟨_, e, _⟩ := h; rw [e]; rfl) (fun _ _ _ _ _ _ us hl => match us, hl with | [_], _ => rfl) fun f cdv A outer s H vs Q E hr h => ?_
  refine ⟨_, (pss_one (ps_ret (pe_and (pe_callB call_isi rfl B.isinstance bt_isinstance (pa_cons (pv 0) (pa_cons (pe_bltn (v := .ty "int") rfl B.int bt_int rfl) pa_nil))) (pe_one (pe_not (pe_callB call_isi rfl B.isinstance bt_isinstance (pa_cons (pv 0) (pa_cons (pe_bltn (v := .ty "bool") rfl B.bool bt_bool rfl) pa_nil)))))))), ?_⟩
  obtain ⟨ds, d, him, ⟨a, rfl, rfl⟩, k⟩ := h
  have env := env_d (N := ["thing"]) him
  try simp only [unpackE, unpackD, wipeD, unT, List.map_cons, List.map_nil, List.length_cons, List.length_nil, List.cons_append, List.nil_append, List.replicate_succ, List.replicate_zero, List.set_cons_succ, List.set_cons_zero, Nat.reduceAdd, Nat.reduceSub] at env
  walk_at "cx"
  walk_at "sq"
  exact st_retD (EvE.is (e2 := .im (.bool true)) (by walk_at "ev") (by rfl)) fun v H2 x2 r => k v H2 x2 r
abbrev s_is_fraction : Stmt := top 61
theorem sc_is_fraction : FnScope ["thing", "one"] ["thing"] (defScope s_is_fraction) := ⟨rfl, rfl, rfl, by decide +kernel, rfl, by decide +kernel, by decide +kernel⟩
def R_fraction : List PyData → PyData → Prop := fun ds d => ∃ p q : Int, ds = [.tuple [.int p, .int q]] ∧ (0 ≤ p ∧ 1 ≤ q ∧ Int.gcd p q = 1) ∧ d = .bool true
theorem d_is_fraction (B : Bn K mg) (F_divisor : Df P w K mg base 1 "divisor" ["one", "other"] (spD K R_div)) (F : FnP K mg "is_fraction" s_is_fraction) : Df P w K mg base 2 "is_fraction" ["thing"] (spD K R_fraction) := by
  refine df_of F sc_is_fraction (spD_len fun ds d h => by obtain ⟨_, _, e, _⟩ := h; rw [e]; rfl) (fun _ _ _ _ _ _ us hl => match us, hl with | [_], _ => rfl) fun f cdv A outer s H vs Q E hr h => ?_
  refine ⟨_, (pss_cons (ps_if (PW.pt (pw_or (pt_not (pt_val (pe_callB call_isi rfl B.isinstance bt_isinstance (pa_cons (pv 0) (pa_cons (pe_bltn (v := .ty "tuple") rfl B.tuple bt_tuple rfl) pa_nil))))) (pw_or1 (pt_cmpR op_ne (pe_callB c_len rfl B.len bt_len (pa_cons (pv 0) pa_nil)) pe_int (nomark _))))) (pss_one (ps_ret pe_bl)) pss_nil)
  (pss_cons (ps_if (pt_not (pt_val (pe_callB (c_all rfl) rfl B.all bt_all (pa_cons (pe_lc (own := [("one", 1)]) rfl sc_is_fraction.nd (pi_tup (pv 0)) (blkOk_by (own := [("one", 1)]) (N := ["thing", "one"]) (sc := defScope s_is_fraction) (by decide +kernel)) (fun _ _ _ _ _ => (pg_name (i := 1) sc_is_fraction.nd rfl (by first | exact Or.inl rfl | exact Or.inr rfl) (by first | exact .inr rfl | exact .inl rfl))) (fun _ _ _ _ _ => pts_nil) (fun _ _ _ _ _ => (pe_and (pe_callB (call_isiK K (by rfl)) rfl B.isinstance bt_isinstance (pa_cons (pv 1) (pa_cons (pe_bltn (v := .ty "int") rfl B.int bt_int rfl) pa_nil))) (pe_one (pe_not (pe_callB (call_isiK K (by rfl)) rfl B.isinstance bt_isinstance (pa_cons (pv 1) (pa_cons (pe_bltn (v := .ty "bool") rfl B.bool bt_bool rfl) pa_nil)))))))) pa_nil)))) (pss_one (ps_ret pe_bl)) pss_nil)
  (pss_one (ps_ret (pe_and (pe_cmpR op_ge (pe_ix ix_tup (pv 0) pe_int (fun _ _ => rfl)) pe_int (nomark _)) (pe_and (pe_cmpR op_ge (pe_ix ix_tup (pv 0) pe_int (fun _ _ => rfl)) pe_int (nomark _)) (pe_one (pe_cmpR op_eq (pe_df F_divisor (hr.mono (by decide)) rfl (pa_cons (pe_ix ix_tup (pv 0) pe_int (fun _ _ => rfl)) (pa_cons (pe_ix ix_tup (pv 0) pe_int (fun _ _ => rfl)) pa_nil))) pe_int (nomark _))))))))), ?_⟩
  obtain ⟨ds, d, him, ⟨p, q, rfl, ⟨p0, q1, g1⟩, rfl⟩, k⟩ := h
  have env := env_d (N := ["thing", "one"]) him
  try simp only [unpackE, unpackD, wipeD, unT, List.map_cons, List.map_nil, List.length_cons, List.length_nil, List.cons_append, List.nil_append, List.replicate_succ, List.replicate_zero, List.set_cons_succ, List.set_cons_zero, Nat.reduceAdd, Nat.reduceSub] at env
  walk_at "cx"
  walk_at "sq"
  refine st_if env (b := false) (EvT.is (by walk_at "ev") (by rfl)) (fun h => by cases h) fun _ H1 x1 env => ?_
  walk_at "sq"
  refine st_if env (b := false) (EvT.is (et_not (et_B (ev_allL (bs := [true, true]) (b := true) (EvL.is (el_lc1 (fun _ => .bool true) env (ei_tup (ds := [.int p, .int q]) (ev_v env rfl)) (show 2 < sizeLine by decide) fun d hd s4 H4 x4 env => ?_) (by rfl)) rfl))) rfl) (fun h => by cases h) fun _ H2 x2 env => ?_
  · try simp only [unpackE, unpackD, wipeD, unT, List.map_cons, List.map_nil, List.length_cons, List.length_nil, List.cons_append, List.nil_append, List.replicate_succ, List.replicate_zero, List.set_cons_succ, List.set_cons_zero, Nat.reduceAdd, Nat.reduceSub] at env
    have : ∃ n, d = .int n := by
      rcases List.mem_cons.mp hd with e | hd
      · exact ⟨_, e⟩
      · exact ⟨_, List.mem_singleton.mp hd⟩
    obtain ⟨n, rfl⟩ := this
    exact EvE.is (by walk_at "ev") (by rfl)
  walk_at "sq"
  refine st_retD (EvE.is (ev_andV (ev_ge (by walk_at "ev") (by walk_at "ev")) fun _ => ev_andV (ev_ge (ev_ixT (n := 1) (ds := [.int p, .int q]) (d := .int q) (ev_v env rfl) ev_i rfl) ev_i) fun _ => ev_eqI (ev_div (ev_ixT (n := 0) (ds := [.int p, .int q]) (d := .int p) (ev_v env rfl) ev_i rfl) (ev_ixT (n := 1) (ds := [.int p, .int q]) (d := .int q) (ev_v env rfl) ev_i rfl) p0 (by omega)) ev_i) ?_) fun v H3 x3 r => k v H3 ((x1.trans x2).trans x3) r
  simp [p0, g1]
  omega
theorem ev_fraction {s : L2.St} {H : Hp} {ta : TE} {p q : Int} {E : XK} (h1 : EvE K s H ta (.im (.tuple [.int p, .int q]))) (h : 0 ≤ p ∧ 1 ≤ q ∧ Int.gcd p q = 1) :
    EvE K s H (tCall (spD K R_fraction) [] E (tCons ta tNil)) (.im (.bool true)) := ev_callD (ds := [.tuple [.int p, .int q]]) (ea_c h1 ea_n) rfl ⟨p, q, rfl, h, rfl⟩
end
end CB

/-! ## KB10 -/
set_option Elab.async false
set_option linter.all false
set_option maxRecDepth 100000
set_option maxHeartbeats 4000000
/-! round_among. -/
namespace CB
open PySem PySem.Spec L2
local macro_rules | `(tactic| walk_at "ev1") => `(tactic| (first
  | exact ev_i | exact ev_b | exact ev_n | exact ev_s | exact ev_v (by assumption) rfl | exact ea_n
  | refine' ea_c ?_ ?_ | with_reducible refine' ev_ixT ?_ ?_ ?_ | with_reducible refine' ev_ixTl ?_ ?_ ?_
  | with_reducible refine' ev_add ?_ ?_ | with_reducible refine' ev_sub ?_ ?_
  | with_reducible refine' ev_lt ?_ ?_ | with_reducible refine' ev_le ?_ ?_ | with_reducible refine' ev_gt ?_ ?_ | with_reducible refine' ev_ge ?_ ?_
  | with_reducible refine' ev_eqI ?_ ?_ | with_reducible refine' ev_neI ?_ ?_ | with_reducible refine' ev_eqS ?_ ?_
  | with_reducible refine' ev_isN ?_ | with_reducible refine' ev_notN ?_ | with_reducible refine' ev_chain ?_ ?_ ?_ | with_reducible refine' ev_neg ?_
  | with_reducible refine' is_ii ?_ | with_reducible refine' is_ib ?_ | with_reducible refine' is_bb ?_ | with_reducible refine' is_ss ?_ | with_reducible refine' is_tt ?_
  | with_reducible refine' ev_andV ?_ ?_ | with_reducible refine' ev_orV ?_ ?_ | with_reducible refine' ev_notV ?_
  | with_reducible refine' ev_lenT ?_ | with_reducible refine' ev_min ?_ ?_ | with_reducible refine' ev_max ?_ ?_
  | with_reducible refine' et_test ?_ | with_reducible refine' et_B ?_ | with_reducible refine' et_not ?_ | with_reducible refine' et_and ?_ ?_ | with_reducible refine' et_or ?_ ?_ | exact et_yes
  | with_reducible refine' eo_some ?_ | exact eo_none | (with_reducible intro _) | rfl))
local macro_rules | `(tactic| walk_at "ev") => `(tactic| repeat' walk_at "ev1")
local macro_rules | `(tactic| walk_at "sq") => `(tactic| try dsimp only [tSeq, tNext])
local macro_rules | `(tactic| walk_at "cx") => `(tactic| try dsimp only [cxOf, Cx.nox, Cx.wish])

section
variable {P : Program} {w : World} {K : Fg} {mg : Str → Option Value} {base : Heap}
def encON : Option Nat → PyData
  | none => .none
  | some n => .int (n : Int)
def encSt : Option (Nat × Nat) → PyData
  | none => .none
  | some (a, k) => .tuple [.int (a : Int), .int (k : Int)]
def snA (sn : List (Option Nat)) (v : Nat) : Option Nat := sn.getD v none
theorem sn_set {p : List (Option Nat)} {v u : Nat} {x : Option Nat} (h : v < p.length) : snA (p.set v x) u = if u = v then x else snA p u := by
  unfold snA
  rw [List.getD_eq_getElem?_getD, List.getD_eq_getElem?_getD, List.getElem?_set]
  by_cases e : v = u
  · rw [if_pos e, if_pos (by omega), if_pos e.symm]
    rfl
  · rw [if_neg e, if_neg fun q => e q.symm]
theorem sn_get {p : List (Option Nat)} {v : Nat} (h : v < p.length) : (p.map encON)[v]? = some (encON (snA p v)) := by
  unfold snA
  rw [List.getElem?_map, List.getD_eq_getElem?_getD, List.getElem?_eq_getElem h]
  rfl
theorem st_get' {p : BF.St} {v : Nat} (h : v < p.length) : (p.map encSt)[v]? = some (encSt (BF.stA p v)) := by
  rw [List.getElem?_map, BF.st_get h]
  rfl
theorem isNone_ON (o : Option Nat) : isNone (.im (encON o)) = o.isNone := by cases o <;> rfl
theorem isNone_St (o : Option (Nat × Nat)) : isNone (.im (encSt o)) = o.isNone := by
  cases o with
  | none => rfl
  | some p => obtain ⟨a, k⟩ := p; rfl
abbrev s_round_among : Stmt := top 55
theorem sc_round_among : FnScope ["steps", "seen", "begin", "at", "numbers", "here", "number", "row"] ["steps"] (defScope s_round_among) := ⟨rfl, rfl, rfl, by decide +kernel, rfl, by decide +kernel, by decide +kernel⟩
def spRound (K : Fg) : Sp := fun vs H Q _ => ∃ (ls : Addr) (xs : List V) (st : BF.St), vs = [.ref ls] ∧ H ls = some (.lst xs) ∧ ImAll K H xs (st.map encSt) ∧ (∀ v u k, BF.stA st v = some (u, k) → u < st.length) ∧ st.length ≤ 2000 ∧
  ((∀ v, v < st.length → ∃ l, BF.FinN st l v) → ∀ H', Same H H' → Q .non H') ∧ (∀ a ks v H', Same H H' → BF.Pth st a a ks → ks.length ≤ st.length → a < st.length → Im K H' v (.tuple [.int (a : Int), encI (toI ks.reverse)]) → Q v H')
theorem toI_snoc (ks : List Nat) (k : Nat) : (toI (ks ++ [k])).map PyData.int = (toI ks).map PyData.int ++ [.int (k : Int)] := by
  unfold toI
  simp
theorem sh_ints (l : List Int) : SeqAt.shaped (.list (l.map .int)) = true := by
  have h1 : (PyData.list (l.map .int)).depth ≤ 1 := by
    simp only [PyData.depth]
    have : PyData.depthAll (l.map PyData.int) ≤ 0 := dep_all fun d hd => by
      obtain ⟨n, _, rfl⟩ := List.mem_map.mp hd
      simp only [PyData.depth]
      omega
    omega
  have h2 : (PyData.list (l.map .int)).canLay0 = true := by
    simp only [PyData.canLay0]
    exact its_lay _ (its_all fun d hd => by
      obtain ⟨n, _, rfl⟩ := List.mem_map.mp hd
      simp only [itD])
  unfold SeqAt.shaped
  rw [h2, Bool.true_and]
  exact decide_eq_true (by omega)
theorem d_round_among (B : Bn K mg) (F : FnP K mg "round_among" s_round_among) : Df P w K mg base 1 "round_among" ["steps"] (spRound K) := by
  refine df_of F sc_round_among (fun vs H Q E h => by obtain ⟨_, _, _, e, _⟩ := h; rw [e]; rfl) (fun _ _ _ _ _ _ us hl => match us, hl with | [_], _ => rfl) fun f cdv A outer s H vs Q E hr h => ?_
  refine ⟨_, (pss_cons (ps_setLc (i := 1) (own := [("row", 7)]) rfl sc_round_among.nd rfl rfl (sw_true rfl rfl rfl (by decide +kernel)) (pi_list (pv 0)) (blkOk_by (own := [("row", 7)]) (N := ["steps", "seen", "begin", "at", "numbers", "here", "number", "row"]) (sc := defScope s_round_among) (by decide +kernel)) (fun _ _ _ _ _ => (pg_name (i := 7) sc_round_among.nd rfl (by first | exact Or.inl rfl | exact Or.inr rfl) (by first | exact .inr rfl | exact .inl rfl))) (fun _ _ _ _ _ => pts_nil) (fun _ _ _ _ _ => pe_non))
  (pss_cons (ps_for PassesOwn.never rfl (pi_range1 rfl B.range (pa_cons (pe_callB c_len rfl B.len bt_len (pa_cons (pv 0) pa_nil)) pa_nil)) (pg_name (i := 2) sc_round_among.nd rfl (by first | exact Or.inl rfl | exact Or.inr rfl)) (pss_cons (ps_set (i := 3) sc_round_among.nd rfl (by first | exact Or.inl rfl | exact Or.inr rfl) (pv 2))
  (pss_cons (ps_while PassesOwn.never (PW.pt (pw_and (pt_cmpR o_isN (pe_ix ix_list (pv 1) (pv 3) (fun _ _ => rfl)) pe_non (nomark _)) (pw_and1 (pt_cmpR o_notN (pe_ix ix_list (pv 0) (pv 3) (fun _ _ => rfl)) pe_non (nomark _))))) (pss_cons (ps_asg (pv 2) (pg_sub (pv 1) (pv 3) set_list))
  (pss_one (ps_set (i := 3) sc_round_among.nd rfl (by first | exact Or.inl rfl | exact Or.inr rfl) (pe_ix ix_tup (pe_ix ix_list (pv 0) (pv 3) (fun _ _ => rfl)) pe_int (fun _ _ => rfl))))))
  (pss_one (ps_if (PW.pt (pw_and (pt_cmpR (op_eqD hr.units) (pe_ix ix_list (pv 1) (pv 3) (fun _ _ => rfl)) (pv 2) (nomark _)) (pw_and1 (pt_cmpR o_notN (pe_ix ix_list (pv 0) (pv 3) (fun _ _ => rfl)) pe_non (nomark _))))) (pss_cons (ps_par (i := 4) (j := 5) rfl sc_round_among.nd rfl rfl (by decide) rfl rfl (pa_cons (pe_lst pa_nil) (pa_cons (pv 3) pa_nil)) (by rfl))
  (pss_cons (ps_while PassesOwn.never (PW.pt (pw_or (pt_cmpR (op_eqD hr.units) (pv 4) (pe_lst pa_nil) (nomark _)) (pw_or1 (pt_cmpR op_ne (pv 5) (pv 3) (nomark _))))) (pss_cons (ps_asg (pe_ix ix_list (pv 0) (pv 5) (fun _ _ => rfl)) (pg_tup rfl (pgs_cons (pg_name (i := 5) sc_round_among.nd rfl (by first | exact Or.inl rfl | exact Or.inr rfl)) (pgs_cons (pg_name (i := 6) sc_round_among.nd rfl (by first | exact Or.inl rfl | exact Or.inr rfl)) pgs_nil))))
  (pss_one (ps_expr (pe_bm PySem.F.plainAttrs_list PySem.F.slot_list_append PySem.F.type_list_append mt_append (pv 4) (pa_cons (pv 6) pa_nil))))))
  (pss_one (ps_ret (pe_tup (pa_cons (pv 3) (pa_cons (pe_callTy c_tup rfl B.tuple bt_tuple (pa_cons (pe_revL (pv 4)) pa_nil)) pa_nil))))))) pss_nil)))))
  (pss_one (ps_ret pe_non)))), ?_⟩
  obtain ⟨ls, xs, st, rfl, hls, hxs, hst, hlen, kN, kR⟩ := h
  have env : EnvD K H _ _ := env_start (N := ["steps", "seen", "begin", "at", "numbers", "here", "number", "row"]) (es := [.rf ls]) (.cons rfl .nil)
  try simp only [unpackE, unpackD, wipeD, unT, List.map_cons, List.map_nil, List.length_cons, List.length_nil, List.cons_append, List.nil_append, List.replicate_succ, List.replicate_zero, List.set_cons_succ, List.set_cons_zero, Nat.reduceAdd, Nat.reduceSub] at env
  walk_at "cx"
  walk_at "sq"
  have hxl : xs.length = st.length := by rw [imAll_len hxs, List.length_map]
  refine st_setL env (EvL.is (el_lc1 (fun _ => .none) env (ei_list (SqL.of hls) hxs (ev_v env rfl)) (by rw [List.length_map, sizeLine_eq]; omega) fun d hd s4 H4 x4 env => ev_n) (show _ = (List.replicate st.length none).map encON by
    rw [List.map_replicate]
    refine List.eq_replicate_iff.mpr ⟨by simp, fun b hb => ?_⟩
    obtain ⟨_, _, rfl⟩ := List.mem_map.mp hb
    rfl)) fun lsn ys0 H1 x1 nls hlsn hys0 env => ?_
  try simp only [unpackE, unpackD, wipeD, unT, List.map_cons, List.map_nil, List.length_cons, List.length_nil, List.cons_append, List.nil_append, List.replicate_succ, List.replicate_zero, List.set_cons_succ, List.set_cons_zero, Nat.reduceAdd, Nat.reduceSub] at env
  walk_at "sq"
  have st0 : ∀ v, snA (List.replicate st.length none) v = none := fun v => by
    unfold snA
    rw [List.getD_eq_getElem?_getD, List.getElem?_replicate]
    split <;> rfl
  refine st_forR (K := K) (n := (st.length : Int)) (by rw [← hxl]; exact ea_c (ev_lenL (SqL.of (x1 ls _ hls)) (ev_v env rfl)) ea_n) (by omega) (by omega)
    (fun j s' H' => Same H H' ∧ ∃ sn : List (Option Nat), (∃ ys, H' lsn = some (.lst ys) ∧ ImAll K H' ys (sn.map encON)) ∧ sn.length = st.length ∧ (∀ v, snA sn v ≠ none → ∃ l, BF.FinN st l v) ∧ (∀ v z, snA sn v = some z → z < j) ∧ (∀ v, v < j → ∃ l, BF.FinN st l v) ∧ EnvD K H' s' [some (.rf ls), some (.rf lsn), none, none, none, none, none, none])
    (fun H2 x2 => ⟨x1.trans x2, _, ⟨ys0, x2 lsn _ hlsn, hys0.mono (tk_of x2)⟩, List.length_replicate, fun v h => absurd (st0 v) h, (fun v z h => by rw [st0] at h; cases h), fun v h => absurd h (Nat.not_lt_zero _), env.mono (tk_of x2)⟩) ?_ ?_
  · rintro j s' H' hj ⟨p1, sn, ⟨ys, hy1, hy2⟩, hsl, hsf, hsz, hsb, env⟩
    have hj : j < st.length := by omega
    have env := env.set (e := .im (.int (j : Int))) (.int _) 2
    try simp only [unpackE, unpackD, wipeD, unT, List.map_cons, List.map_nil, List.length_cons, List.length_nil, List.cons_append, List.nil_append, List.replicate_succ, List.replicate_zero, List.set_cons_succ, List.set_cons_zero, Nat.reduceAdd, Nat.reduceSub] at env
    dsimp only [gName]
    walk_at "sq"
    refine st_set env (en := .im (.int (j : Int))) (ev_v env rfl) fun _ H2 x2 _ env => ?_
    try simp only [unpackE, unpackD, wipeD, unT, List.map_cons, List.map_nil, List.length_cons, List.length_nil, List.cons_append, List.nil_append, List.replicate_succ, List.replicate_zero, List.set_cons_succ, List.set_cons_zero, Nat.reduceAdd, Nat.reduceSub] at env
    walk_at "sq"
    refine st_whileG (K := K) (α := List Nat × Nat) (fun p s' H' => Same H H' ∧ BF.Chn st j p.1 p.2 ∧ p.2 < st.length ∧ p.1.Nodup ∧ (∀ x, x ∈ p.1 → x < st.length ∧ snA sn x = none) ∧
        (∃ sn' : List (Option Nat), (∃ ys, H' lsn = some (.lst ys) ∧ ImAll K H' ys (sn'.map encON)) ∧ sn'.length = st.length ∧ ∀ v, snA sn' v = if v ∈ p.1 then some j else snA sn v) ∧
        EnvD K H' s' [some (.rf ls), some (.rf lsn), some (.im (.int (j : Int))), some (.im (.int (p.2 : Int))), none, none, none, none])
      (fun p => st.length - p.1.length) (fun p => decide (p.2 ∉ p.1 ∧ snA sn p.2 = none ∧ BF.stA st p.2 ≠ none)) ([], j)
      ⟨p1.trans x2, .nil, hj, List.nodup_nil, (fun x hx => by cases hx), ⟨sn, ⟨ys, x2 lsn _ hy1, hy2.mono (tk_of x2)⟩, hsl, fun v => (if_neg (by simp)).symm⟩, env.weak rfl fun i e he => by
        match i with
        | 0 | 1 | 2 | 3 => exact he
        | 4 | 5 | 6 | 7 => cases he⟩ ?_ ?_ ?_ ?_
    · rintro ⟨c, a⟩ s' H' ⟨q1, q2, q3, q4, q5, ⟨sn', ⟨zs, z1, z2⟩, q6, q7⟩, env⟩
      have q3 : a < st.length := q3
      refine EvT.is (et_and (et_test (ev_isN (ev_ixL (n := a) (SqL.of z1) z2 (ev_v env rfl) (ev_v env rfl) (sn_get (by omega))))) fun _ => et_test (ev_notN (ev_ixL (n := a) (SqL.of (q1 ls _ hls)) (hxs.mono (tk_of q1)) (ev_v env rfl) (ev_v env rfl) (st_get' q3)))) ?_
      rw [isNone_ON, isNone_St, q7]
      dsimp only
      by_cases ha : a ∈ c
      · simp [ha]
      · rw [if_neg ha]
        cases snA sn a <;> cases BF.stA st a <;> simp [ha]
    · rintro ⟨c, a⟩ s' H' H2 ⟨q1, q2, q3, q4, q5, ⟨sn', ⟨zs, z1, z2⟩, q6, q7⟩, env⟩ x2
      exact ⟨q1.trans x2, q2, q3, q4, q5, ⟨sn', ⟨zs, x2 lsn _ z1, z2.mono (tk_of x2)⟩, q6, q7⟩, env.mono (tk_of x2)⟩
    · rintro ⟨c, a⟩ s' H' ⟨q1, q2, q3, q4, q5, ⟨sn', ⟨zs, z1, z2⟩, q6, q7⟩, env⟩ ht
      obtain ⟨t1, t2, t3⟩ := of_decide_eq_true ht
      have q2 : BF.Chn st j c a := q2
      have q3 : a < st.length := q3
      have q4 : c.Nodup := q4
      have q5 : ∀ x, x ∈ c → x < st.length ∧ snA sn x = none := q5
      have t1 : a ∉ c := t1
      have t2 : snA sn a = none := t2
      have t3 : BF.stA st a ≠ none := t3
      obtain ⟨⟨x, k⟩, ex⟩ : ∃ p, BF.stA st a = some p := Option.ne_none_iff_exists'.mp t3
      have hzl : zs.length = st.length := by rw [imAll_len z2, List.length_map, q6]
      refine st_setix (n := a) (en := .im (.int (j : Int))) z1 (ev_v env rfl) (ev_v env rfl) (ev_v env rfl) (by omega) fun v H3 x3 rv => ?_
      have tk3 := tk_lst (u := .lst (zs.set a v)) (x3 lsn _ z1)
      have env := env.mono ((tk_of x3).trans tk3)
      have s3 : Same H (upd H3 lsn (.lst (zs.set a v))) := same_upd nls (q1.trans x3)
      walk_at "sq"
      refine st_set env (en := .im (.int (x : Int))) (ev_ixT (n := 0) (ds := [_, .int (k : Int)]) (ev_ixL (n := a) (SqL.of (s3 ls _ hls)) (hxs.mono (tk_of s3)) (ev_v env rfl) (ev_v env rfl) (by rw [st_get' q3, ex]; rfl)) ev_i rfl) fun _ H4 x4 _ env => ?_
      try simp only [unpackE, unpackD, wipeD, unT, List.map_cons, List.map_nil, List.length_cons, List.length_nil, List.cons_append, List.nil_append, List.replicate_succ, List.replicate_zero, List.set_cons_succ, List.set_cons_zero, Nat.reduceAdd, Nat.reduceSub] at env
      have nd : (c ++ [a]).Nodup := List.nodup_append.mpr ⟨q4, by simp, fun y hy z hz e => by
        rw [List.mem_singleton.mp hz] at e
        exact t1 (e ▸ hy)⟩
      have lt : ∀ y, y ∈ c ++ [a] → y < st.length := fun y hy => by
        rcases List.mem_append.mp hy with z | z
        · exact (q5 y z).1
        · rw [List.mem_singleton.mp z]; exact q3
      have hcl := BF.nodup_lt st.length _ nd lt
      rw [List.length_append] at hcl
      refine ⟨(c ++ [a], x), ?_, s3.trans x4, q2.snoc ex, hst _ _ _ ex, nd, fun y hy => ⟨lt y hy, ?_⟩, ⟨sn'.set a (some j), ⟨_, x4 lsn _ upd_same, ?_⟩, by rw [List.length_set]; exact q6, fun v' => ?_⟩, env⟩
      · show st.length - (c ++ [a]).length < st.length - c.length
        rw [List.length_append]
        have : [a].length = 1 := rfl
        omega
      · rcases List.mem_append.mp hy with z | z
        · exact (q5 y z).2
        · rw [List.mem_singleton.mp z]; exact t2
      · have := imAll_set (z2.mono ((tk_of x3).trans tk3)) (Im.mono tk3 rv) a
        rw [List.map_set]
        exact this.mono (tk_of x4)
      · rw [sn_set (by omega), q7]
        by_cases e : v' = a
        · rw [if_pos e, if_pos (List.mem_append_right _ (by rw [e]; simp))]
        · rw [if_neg e]
          have : v' ∈ c ++ [a] ↔ v' ∈ c := by simp [e]
          simp only [this]
    · rintro ⟨c, a⟩ s' H' ⟨q1, q2, q3, q4, q5, ⟨sn', ⟨zs, z1, z2⟩, q6, q7⟩, env⟩ ht
      have ht := of_decide_eq_false ht
      have q2 : BF.Chn st j c a := q2
      have q3 : a < st.length := q3
      have q4 : c.Nodup := q4
      have q5 : ∀ x, x ∈ c → x < st.length ∧ snA sn x = none := q5
      have q7 : ∀ v, snA sn' v = if v ∈ c then some j else snA sn v := q7
      have ht : ¬ (a ∉ c ∧ snA sn a = none ∧ BF.stA st a ≠ none) := ht
      have eb : PyData.eqv (encON (snA sn' a)) (.int (j : Int)) = decide (a ∈ c) := by
        rw [q7]
        by_cases ha : a ∈ c
        · simp [ha, encON, PyData.eqv]
        · rw [if_neg ha, decide_eq_false ha]
          cases e : snA sn a with
          | none => rfl
          | some z =>
            have := hsz a z e
            simp [encON, PyData.eqv]
            omega
      have shON : ∀ o, SeqAt.shaped (encON o) = true := fun o => by cases o <;> rfl
      walk_at "sq"
      refine st_if env (b := decide (a ∈ c) && !(BF.stA st a).isNone) (EvT.is (et_and (et_test (ev_eqD (ev_ixL (n := a) (SqL.of z1) z2 (ev_v env rfl) (ev_v env rfl) (sn_get (by omega))) (ev_v env rfl) (shON _) rfl)) fun _ => et_test (ev_notN (ev_ixL (n := a) (SqL.of (q1 ls _ hls)) (hxs.mono (tk_of q1)) (ev_v env rfl) (ev_v env rfl) (st_get' q3)))) (by rw [isNone_St, eb])) (fun h => ?_) (fun h => ?_)
      · intro H3 x3 env
        simp only [Bool.and_eq_true, decide_eq_true_eq, Bool.not_eq_true'] at h
        obtain ⟨h1, h2⟩ := h
        obtain ⟨c1, c2, ec, hc⟩ := q2.cut h1
        have ndc : (a :: c2).Nodup := q4.sublist (by rw [ec]; exact List.sublist_append_right _ _)
        have hcl := BF.nodup_lt st.length _ ndc fun y hy => (q5 y (by rw [ec]; exact List.mem_append_right _ hy)).1
        have q13 := q1.trans x3
        walk_at "sq"
        refine st_parLD (ds := []) env (el_lst (ds := []) ea_n (by decide)) (ev_v env rfl) fun ln ws s4 H4 x4 nln hln hws env => ?_
        cases hws
        try simp only [unpackE, unpackD, wipeD, unT, List.map_cons, List.map_nil, List.length_cons, List.length_nil, List.cons_append, List.nil_append, List.replicate_succ, List.replicate_zero, List.set_cons_succ, List.set_cons_zero, Nat.reduceAdd, Nat.reduceSub] at env
        walk_at "sq"
        have q14 := q13.trans x4
        have nH : H ln = none := q13.free nln
        refine st_whileG (K := K) (α := List Nat × Nat × List Nat) (fun p s' H' => Same H H' ∧ (∃ ws, H' ln = some (.lst ws) ∧ ImAll K H' ws ((toI p.1).map .int)) ∧ (p.1 = [] ∧ p.2.1 = a ∧ p.2.2 ≠ [] ∨ BF.Pth st a p.2.1 p.1 ∧ a ∉ p.2.2) ∧ BF.Chn st p.2.1 p.2.2 a ∧ p.2.2.Nodup ∧ p.2.1 < st.length ∧ p.1.length + p.2.2.length ≤ st.length ∧
            EnvD K H' s' [some (.rf ls), some (.rf lsn), some (.im (.int (j : Int))), some (.im (.int (a : Int))), some (.rf ln), some (.im (.int (p.2.1 : Int))), none, none])
          (fun p => p.2.2.length) (fun p => p.1.isEmpty || decide (p.2.1 ≠ a)) ([], a, a :: c2)
          ⟨q14, ⟨[], hln, .nil⟩, Or.inl ⟨rfl, rfl, by simp⟩, hc, ndc, q3, by show 0 + (a :: c2).length ≤ _; omega, env⟩ ?_ ?_ ?_ ?_
        · rintro ⟨ks, here, rest⟩ s' H' ⟨r1, ⟨ws, w1, w2⟩, r3, r4, r5, r6, r7, env⟩
          refine EvT.is (et_or (et_test (ev_eqNil (SqL.of w1) w2 (sh_ints _) (ev_v env rfl))) fun _ => et_test (ev_neI (ev_v env rfl) (ev_v env rfl))) ?_
          dsimp only
          have : (!decide ((here : Int) = (a : Int))) = decide (here ≠ a) := by
            by_cases e : here = a
            · simp [e]
            · have e2 : ¬ ((here : Int) = (a : Int)) := by omega
              simp [e, e2]
          cases ks with
          | nil => rfl
          | cons k ks => exact this
        · rintro ⟨ks, here, rest⟩ s' H' H2 ⟨r1, ⟨ws, w1, w2⟩, r3, r4, r5, r6, r7, env⟩ x2
          exact ⟨r1.trans x2, ⟨ws, x2 ln _ w1, w2.mono (tk_of x2)⟩, r3, r4, r5, r6, r7, env.mono (tk_of x2)⟩
        · rintro ⟨ks, here, rest⟩ s' H' ⟨r1, ⟨ws, w1, w2⟩, r3, r4, r5, r6, r7, env⟩ ht
          have r3 : ks = [] ∧ here = a ∧ rest ≠ [] ∨ BF.Pth st a here ks ∧ a ∉ rest := r3
          have r4 : BF.Chn st here rest a := r4
          have r5 : rest.Nodup := r5
          have r6 : here < st.length := r6
          have r7 : ks.length + rest.length ≤ st.length := r7
          have ht : (ks.isEmpty || decide (here ≠ a)) = true := ht
          cases r4 with
          | nil =>
            exfalso
            rcases r3 with ⟨_, _, z⟩ | ⟨z, _⟩
            · exact z rfl
            · cases z <;> simp at ht
          | @cons _ x k _ rest' ex t =>
            have hx := hst _ _ _ ex
            refine st_unpack (is := [5, 6]) (n := 2) (ds := [.int (x : Int), .int (k : Int)]) env (ev_ixL (n := here) (SqL.of (r1 ls _ hls)) (hxs.mono (tk_of r1)) (ev_v env rfl) (ev_v env rfl) (by rw [st_get' r6, ex]; rfl)) rfl rfl fun s5 H5 x5 env => ?_
            try simp only [unpackE, unpackD, wipeD, unT, List.map_cons, List.map_nil, List.length_cons, List.length_nil, List.cons_append, List.nil_append, List.replicate_succ, List.replicate_zero, List.set_cons_succ, List.set_cons_zero, Nat.reduceAdd, Nat.reduceSub] at env
            walk_at "sq"
            have hwl : ws.length = ks.length := by rw [imAll_len w2, List.length_map]; unfold toI; rw [List.length_map]
            refine st_app (x5 ln _ w1) (ev_v env rfl) (en := .im (.int (k : Int))) (ev_v env rfl) (by rw [sizeLine_eq]; rw [List.length_cons] at r7; omega) fun v H6 x6 rv => ?_
            have tk6 := tk_lst (u := .lst (ws ++ [v])) (x6 ln _ (x5 ln _ w1))
            have env := env.mono ((tk_of x6).trans tk6)
            rw [List.nodup_cons] at r5
            refine ⟨(ks ++ [k], x, rest'), ?_, same_upd nH ((r1.trans x5).trans x6), ⟨_, upd_same, ?_⟩, Or.inr ⟨?_, ?_⟩, t, r5.2, hx, ?_, env.weak rfl fun i e he => by
              match i with
              | 0 | 1 | 2 | 3 | 4 | 5 => exact he
              | 6 | 7 => cases he⟩
            · show rest'.length < (here :: rest').length
              rw [List.length_cons]; omega
            · show ImAll K _ _ ((toI (ks ++ [k])).map PyData.int)
              rw [toI_snoc]
              exact imAll_app (w2.mono (((tk_of x5).trans (tk_of x6)).trans tk6)) (.cons (Im.mono tk6 rv) .nil)
            · show BF.Pth st a x (ks ++ [k])
              rcases r3 with ⟨e1, e2, _⟩ | ⟨z, _⟩
              · subst e1 e2
                exact .one ex
              · exact z.snoc ex
            · show a ∉ rest'
              rcases r3 with ⟨e1, e2, _⟩ | ⟨_, z⟩
              · subst e2
                exact r5.1
              · exact fun h => z (List.mem_cons_of_mem _ h)
            · show (ks ++ [k]).length + rest'.length ≤ st.length
              rw [List.length_append]
              rw [List.length_cons] at r7
              have : [k].length = 1 := rfl
              omega
        · rintro ⟨ks, here, rest⟩ s' H' ⟨r1, ⟨ws, w1, w2⟩, r3, r4, r5, r6, r7, env⟩ ht
          have r3 : ks = [] ∧ here = a ∧ rest ≠ [] ∨ BF.Pth st a here ks ∧ a ∉ rest := r3
          have r7 : ks.length + rest.length ≤ st.length := r7
          have ht : (ks.isEmpty || decide (here ≠ a)) = false := ht
          simp only [Bool.or_eq_false_iff, decide_eq_false_iff_not, Decidable.not_not] at ht
          obtain ⟨t1, rfl⟩ := ht
          walk_at "sq"
          refine st_retD (ev_tup2 (e1 := .int (here : Int)) (e2 := encI (toI ks.reverse)) (ev_v env rfl) (EvE.is (ev_tupL (el_rev (SqL.of w1) w2 (ev_v env rfl))) ?_)) fun v H5 x5 rv => ?_
          · unfold encI toI
            rw [List.map_reverse, List.map_reverse]
          · rcases r3 with ⟨e1, _⟩ | ⟨z, _⟩
            · subst e1
              cases t1
            · exact kR here ks v H5 (r1.trans x5) z (by omega) q3 rv
      · intro H3 x3 env
        have fa : ∃ l, BF.FinN st l a := by
          cases e : BF.stA st a with
          | none => exact ⟨0, .root e⟩
          | some p =>
            have ha : a ∉ c := fun hc => by
              rw [e] at h
              simp [hc] at h
            refine hsf a fun hn => ht ⟨ha, hn, by rw [e]; simp⟩
        obtain ⟨f1, f2⟩ := q2.fin fa
        refine ⟨q1.trans x3, sn', ⟨zs, x3 lsn _ z1, z2.mono (tk_of x3)⟩, q6, fun v hv => ?_, fun v z hv => ?_, fun v hv => ?_, env.weak rfl fun i e he => by
          match i with
          | 0 | 1 => exact he
          | 2 | 3 | 4 | 5 | 6 | 7 => cases he⟩
        · rw [q7] at hv
          by_cases hc : v ∈ c
          · exact f1 v hc
          · rw [if_neg hc] at hv
            exact hsf v hv
        · rw [q7] at hv
          by_cases hc : v ∈ c
          · rw [if_pos hc] at hv
            cases hv
            omega
          · rw [if_neg hc] at hv
            have := hsz v z hv
            omega
        · by_cases e : v = j
          · rw [e]; exact f2
          · exact hsb v (by omega)
  · rintro s' H' ⟨p1, sn, _, _, _, _, hsb, env⟩
    walk_at "sq"
    exact st_retD (K := K) (s := s') ev_n fun v H2 x2 r => by
      rw [im_non r]
      exact kN (fun v hv => hsb v (by omega)) H2 (p1.trans x2)
end
end CB

/-! ## KL7 -/
set_option Elab.async false
set_option linter.all false
set_option maxRecDepth 100000
set_option maxHeartbeats 2000000
/-! The graph as an object. -/
namespace CB
open PySem PySem.Spec L2
/-- a method of the class at C -/
def FnM (K : Fg) (C : Addr) (m q : Str) (st : Stmt) : Prop := ∃ f fd, Meth K C m f ∧ FunD K m q (defArgs st) (defBody st) (defScope st) [] [] f fd
def DfM (P : Program) (w : World) (K : Fg) (mg : Str → Option Value) (base : Heap) (k : Nat) (C : Addr) (m : Str) (ps : List Str) (sp : Sp) : Prop := ∃ f fd, Meth K C m f ∧ FnOk P w K mg base CX0 k f fd ps sp ∧ Binds K fd ps []
theorem dfm_of {P : Program} {w : World} {K : Fg} {mg : Str → Option Value} {base : Heap} {k : Nat} {C : Addr} {m q : Str} {st : Stmt} {N ps : List Str} {sp : Sp} (F : FnM K C m q st) (S : FnScope N ps (defScope st)) (len : ∀ vs H Q E, sp vs H Q E → vs.length = ps.length)
    (hb : ∀ (kV doc pm : Value) (an : Option Addr) (cdv ct : Value) (us : List Value), us.length = ps.length → bindArgs (PySem.W.fnOf m q (defArgs st) (defBody st) (defScope st) .none kV doc pm an cdv ct) ⟨us, []⟩ = pure (ps.zip us))
    (hbody : ∀ (f : Addr) (cdv : Value) (A : Around) (outer : List Env) (s : Shared) (H : Hp) (vs : List V) (Q : VK) (E : XK), Room k (A.deeper (PyProof.Rows.envOfC q (defScope st) s.heap.objs.size f cdv)) → sp vs H Q E →
      ∃ t, PSs (cxOf CX0 P w K mg base N q (defScope st) f cdv A outer s H E).nox (defBody st) t ∧ t { nx := fun _ H' => Q .non H', rt := Q } (L2.start N vs) H) : DfM P w K mg base (k + 1) C m ps sp := by
  obtain ⟨f, fd, hm, F⟩ := F
  refine ⟨f, fd, hm, F.ok S len fun cdv A outer s H vs Q E hr h => ?_, F.bindsN hb⟩
  obtain ⟨t, h1, h2⟩ := hbody f cdv A outer s H vs Q E hr h
  exact ⟨t, PSs.nox h1, h2⟩
theorem pe_dfm {X : Cx} {k : Nat} {C : Addr} {m : Str} {ps : List Str} {sp : Sp} {o e : Expr} {es : List Expr} {ta : TE} {t : TA} {apos pos : Pos} {pl : Sem Bool} (F : DfM X.prog X.w X.K X.mg X.base k C m ps sp) (c : Cls X.K C) (hr : Room k X.A) (he : PE X o ta) (ha : PA X (e :: es) t)
    (hst : starEach (e :: es) X.env = (false, eval e X.env) :: starEach es X.env := by rfl) (hpl : (backTo pos (starEach es X.env)).any (·.1) = false := by rfl)
    (ht : eval (.Call (.Attribute o m apos) (e :: es) [] pos) X.env = (do
      let ov ← eval o X.env
      standAt apos.atName
      let (f, first) ← holding [ov] (getMethod ov m pl)
      callWith pos f first (backTo pos (starEach (e :: es) X.env)) (backToKw pos (keywordEach [] X.env))) := by rfl) :
    PE X (.Call (.Attribute o m apos) (e :: es) [] pos) (tMeth C m sp [] E0 ta t) := by
  obtain ⟨f, fd, hm, G, hb⟩ := F
  exact pe_meth he c hm G hr hb .nil pass0 ha hst hpl ht
structure GrC (K : Fg) (C : Addr) : Prop where
  cls : Cls K C
  nodes : NoAttr K C "nodes"
  edges : NoAttr K C "edges"
  before : NoAttr K C "before"
/-- a list of lists of data -/
def RowsAt (K : Fg) (H : Hp) (rs : List Addr) (ed : List (List PyData)) : Prop := rs.length = ed.length ∧ ∀ (i : Nat) (r : Addr) (row : List PyData), rs[i]? = some r → ed[i]? = some row → ∃ xs, H r = some (.lst xs) ∧ ImAll K H xs row
/-- the graph at g, its three lists -/
structure GObj (K : Fg) (H : Hp) (C g : Addr) (nd : List PyData) (ed : List (List PyData)) (bf : List PyData) where
  dx : Addr
  fs : List (Str × V)
  ln : Addr
  le : Addr
  lb : Addr
  ns : List V
  rs : List Addr
  bs : List V
  at_ : H g = some (.ins C dx fs)
  fn : fs.lookup ("nodes" : Str) = some (V.ref ln)
  fe : fs.lookup ("edges" : Str) = some (V.ref le)
  fb : fs.lookup ("before" : Str) = some (V.ref lb)
  fm : fs.lookup ("row_to" : Str) = none
  hn : H ln = some (.lst ns)
  he : H le = some (.lst (rs.map V.ref))
  hb : H lb = some (.lst bs)
  en : ImAll K H ns nd
  ee : RowsAt K H rs ed
  eb : ImAll K H bs bf
section
variable {K : Fg} {s : L2.St} {H H' : Hp} {ta tb tc : TE} {C g : Addr} {nd bf : List PyData} {ed : List (List PyData)}
theorem RowsAt.mono {rs : List Addr} (h : RowsAt K H rs ed) (x : Same H H') : RowsAt K H' rs ed := ⟨h.1, fun i r row e1 e2 => by
  obtain ⟨xs, a, b⟩ := h.2 i r row e1 e2
  exact ⟨xs, x r _ a, b.mono (tk_of x)⟩⟩
def GObj.mono (h : GObj K H C g nd ed bf) (x : Same H H') : GObj K H' C g nd ed bf :=
  ⟨h.dx, h.fs, h.ln, h.le, h.lb, h.ns, h.rs, h.bs, x _ _ h.at_, h.fn, h.fe, h.fb, h.fm, x _ _ h.hn, x _ _ h.he, x _ _ h.hb, h.en.mono (tk_of x), h.ee.mono x, h.eb.mono (tk_of x)⟩
theorem ev_fld {f : Str} {dx a : Addr} {fs : List (Str × V)} (c : Cls K C) (n : NoAttr K C f) (h : H g = some (.ins C dx fs)) (l : fs.lookup f = some (.ref a)) (ha : EvE K s H ta (.rf g)) : EvE K s H (tFld K ta f) (.rf a) := fun H1 x1 Q q =>
  ha H1 x1 _ fun v H2 x2 rv => ⟨g, C, dx, fs, .ref a, rv, x2 _ _ (x1 _ _ h), c, n, l, q _ H2 x2 rfl⟩
variable (G : GObj K H C g nd ed bf) (c : GrC K C)
include G c
theorem ev_edges (ha : EvE K s H ta (.rf g)) : EvE K s H (tFld K ta "edges") (.rf G.le) := ev_fld c.cls c.edges G.at_ G.fe ha
theorem ev_before (ha : EvE K s H ta (.rf g)) : EvE K s H (tFld K ta "before") (.rf G.lb) := ev_fld c.cls c.before G.at_ G.fb ha
theorem ev_nodes (ha : EvE K s H ta (.rf g)) : EvE K s H (tFld K ta "nodes") (.rf G.ln) := ev_fld c.cls c.nodes G.at_ G.fn ha
/-- graph.edges[i][k] -/
theorem ev_edge {i k : Nat} {row : List PyData} {d : PyData} (ha : EvE K s H ta (.rf g)) (hi : EvE K s H tb (.im (.int (i : Int)))) (hk : EvE K s H tc (.im (.int (k : Int)))) (e1 : ed[i]? = some row) (e2 : row[k]? = some d) :
    EvE K s H (tOp (rIxL K) (tOp (rIxL K) (tFld K ta "edges") tb) tc) (.im d) := by
  have hl : i < G.rs.length := by rw [G.ee.1]; exact (List.getElem?_eq_some_iff.mp e1).1
  obtain ⟨xs, h1, h2⟩ := G.ee.2 i G.rs[i] row (List.getElem?_eq_getElem hl) e1
  refine ev_ixL (n := k) (SqL.of h1) h2 (ev_ixLr (n := i) (SqL.of G.he) (ev_edges G c ha) hi ?_) hk e2
  rw [List.getElem?_map, List.getElem?_eq_getElem hl]
  rfl
end
/-! ### the graph of states -/
def encB : Option (Nat × Nat) → PyData
  | none => .none
  | some (a, k) => .tuple [.int (a : Int), .int (k : Int)]
def rowD (S : Setg) (m place : Nat) (G : Gr) (v : Nat) : List PyData := (List.range (m + 1)).map fun k => .tuple [.int (G.told S place v k), .int (G.nx v k : Nat)]
def edgesD (S : Setg) (m place : Nat) (G : Gr) : List (List PyData) := (List.range G.nodes.length).map (rowD S m place G)
abbrev GAt (K : Fg) (H : Hp) (C g : Addr) (S : Setg) (m place : Nat) (G : Gr) : Type := GObj K H C g (G.nodes.map encT) (edgesD S m place G) (G.bef.map encB)
section
variable {S : Setg} {m place : Nat} {G : Gr}
theorem edgesD_get {v : Nat} (h : v < G.nodes.length) : (edgesD S m place G)[v]? = some (rowD S m place G v) := by
  unfold edgesD
  rw [List.getElem?_map, List.getElem?_range h]
  rfl
theorem rowD_get {v k : Nat} (h : k ≤ m) : (rowD S m place G v)[k]? = some (.tuple [.int (G.told S place v k), .int (G.nx v k : Nat)]) := by
  unfold rowD
  rw [List.getElem?_map, List.getElem?_range (by omega)]
  rfl
end
end CB

/-! ## KB11 -/
set_option Elab.async false
set_option linter.all false
set_option maxRecDepth 100000
set_option maxHeartbeats 4000000
/-! quotient, full_round, Graph.row_to. -/
namespace CB
open PySem PySem.Spec L2
local macro_rules | `(tactic| walk_at "ev1") => `(tactic| (first
  | exact ev_i | exact ev_b | exact ev_n | exact ev_s | exact ev_v (by assumption) rfl | exact ea_n
  | refine' ea_c ?_ ?_ | with_reducible refine' ev_ixT ?_ ?_ ?_ | with_reducible refine' ev_ixTl ?_ ?_ ?_
  | with_reducible refine' ev_add ?_ ?_ | with_reducible refine' ev_sub ?_ ?_
  | with_reducible refine' ev_lt ?_ ?_ | with_reducible refine' ev_le ?_ ?_ | with_reducible refine' ev_gt ?_ ?_ | with_reducible refine' ev_ge ?_ ?_
  | with_reducible refine' ev_eqI ?_ ?_ | with_reducible refine' ev_neI ?_ ?_ | with_reducible refine' ev_eqS ?_ ?_
  | with_reducible refine' ev_isN ?_ | with_reducible refine' ev_notN ?_ | with_reducible refine' ev_chain ?_ ?_ ?_ | with_reducible refine' ev_neg ?_
  | with_reducible refine' is_ii ?_ | with_reducible refine' is_ib ?_ | with_reducible refine' is_bb ?_ | with_reducible refine' is_ss ?_ | with_reducible refine' is_tt ?_
  | with_reducible refine' ev_andV ?_ ?_ | with_reducible refine' ev_orV ?_ ?_ | with_reducible refine' ev_notV ?_
  | with_reducible refine' ev_lenT ?_ | with_reducible refine' ev_min ?_ ?_ | with_reducible refine' ev_max ?_ ?_
  | with_reducible refine' et_test ?_ | with_reducible refine' et_B ?_ | with_reducible refine' et_not ?_ | with_reducible refine' et_and ?_ ?_ | with_reducible refine' et_or ?_ ?_ | exact et_yes
  | with_reducible refine' eo_some ?_ | exact eo_none | (with_reducible intro _) | rfl))
local macro_rules | `(tactic| walk_at "ev") => `(tactic| repeat' walk_at "ev1")
local macro_rules | `(tactic| walk_at "sq") => `(tactic| try dsimp only [tSeq, tNext])
local macro_rules | `(tactic| walk_at "cx") => `(tactic| try dsimp only [cxOf, Cx.nox, Cx.wish])

section
variable {P : Program} {w : World} {K : Fg} {mg : Str → Option Value} {base : Heap}
theorem takeN {r : List Nat} {i k : Nat} (h : r[i]? = some k) : r.take (i + 1) = r.take i ++ [k] := by
  rw [List.take_succ, h] <;> rfl
theorem toI_get {ks : List Nat} {i : Nat} {d : PyData} (h : ((toI ks).map PyData.int)[i]? = some d) : ∃ k : Nat, ks[i]? = some k ∧ d = .int (k : Int) := by
  unfold toI at h
  rw [List.map_map, List.getElem?_map] at h
  cases e : ks[i]? with
  | none => rw [e] at h; cases h
  | some k => rw [e] at h; exact ⟨k, rfl, (Option.some.inj h).symm⟩
abbrev s_quotient : Stmt := top 58
theorem sc_quotient : FnScope ["graph", "at", "around", "told", "number", "by"] ["graph", "at", "around"] (defScope s_quotient) := ⟨rfl, rfl, rfl, by decide +kernel, rfl, by decide +kernel, by decide +kernel⟩
def spQuot (K : Fg) : Sp := fun vs H Q _ => ∃ (C g : Addr) (S : Setg) (m place : Nat) (G : Gr) (a : Nat) (ks : List Nat), EnAll K H [.rf g, .im (.int (a : Int)), .im (encI (toI ks))] vs ∧ GrC K C ∧ Nonempty (GAt K H C g S m place G) ∧ G.Ok S m ∧ a < G.nodes.length ∧ (∀ k, k ∈ ks → k ≤ m) ∧
  0 < (toI ks).sum ∧ (toI ks).sum ≤ 1000000 ∧ 0 ≤ BF.wsum G.nx (G.told S place) a ks ∧
  ∀ v H', Same H H' → Im K H' v (.tuple [.int (BF.wsum G.nx (G.told S place) a ks / (Int.gcd (BF.wsum G.nx (G.told S place) a ks) (toI ks).sum : Int)), .int ((toI ks).sum / (Int.gcd (BF.wsum G.nx (G.told S place) a ks) (toI ks).sum : Int))]) → Q v H'
theorem d_quotient (B : Bn K mg) (F_divisor : Df P w K mg base 1 "divisor" ["one", "other"] (spD K R_div)) (F : FnP K mg "quotient" s_quotient) : Df P w K mg base 2 "quotient" ["graph", "at", "around"] (spQuot K) := by
  refine df_of F sc_quotient (fun vs H Q E h => by obtain ⟨_, _, _, _, _, _, _, _, e, _⟩ := h; exact (enAll_len e).symm) (fun _ _ _ _ _ _ us hl => match us, hl with | [_, _, _], _ => rfl) fun f cdv A outer s H vs Q E hr h => ?_
  refine ⟨_, (pss_cons (ps_set (i := 3) sc_quotient.nd rfl (by first | exact Or.inl rfl | exact Or.inr rfl) pe_int)
  (pss_cons (ps_for PassesOwn.never rfl (pi_tup (pv 2)) (pg_name (i := 4) sc_quotient.nd rfl (by first | exact Or.inl rfl | exact Or.inr rfl)) (pss_one (ps_par (i := 3) (j := 1) rfl sc_quotient.nd rfl rfl (by decide) rfl rfl (pa_cons (pe_op op_add (pv 3) (pe_ix ix_tup (pe_ix ix_list (pe_ix ix_list (pe_fld (pv 0) rfl) (pv 1) (fun _ _ => rfl)) (pv 4) (fun _ _ => rfl)) pe_int (fun _ _ => rfl))) (pa_cons (pe_ix ix_tup (pe_ix ix_list (pe_ix ix_list (pe_fld (pv 0) rfl) (pv 1) (fun _ _ => rfl)) (pv 4) (fun _ _ => rfl)) pe_int (fun _ _ => rfl)) pa_nil)) (by rfl))))
  (pss_cons (ps_set (i := 5) sc_quotient.nd rfl (by first | exact Or.inl rfl | exact Or.inr rfl) (pe_df F_divisor (hr.mono (by decide)) rfl (pa_cons (pv 3) (pa_cons (pe_callB (c_sumT rfl) rfl B.sum bt_sum (pa_cons (pv 2) pa_nil)) pa_nil))))
  (pss_one (ps_ret (pe_tup (pa_cons (pe_op op_fdiv (pv 3) (pv 5)) (pa_cons (pe_op op_fdiv (pe_callB (c_sumT rfl) rfl B.sum bt_sum (pa_cons (pv 2) pa_nil)) (pv 5)) pa_nil)))))))), ?_⟩
  obtain ⟨C, g, S, m, place, G, a, ks, hen, gc, ⟨go⟩, ok, ha, hk, s0, s1, t0, k⟩ := h
  have env := env_start (N := ["graph", "at", "around", "told", "number", "by"]) hen
  try simp only [unpackE, unpackD, wipeD, unT, List.map_cons, List.map_nil, List.length_cons, List.length_nil, List.cons_append, List.nil_append, List.replicate_succ, List.replicate_zero, List.set_cons_succ, List.set_cons_zero, Nat.reduceAdd, Nat.reduceSub] at env
  walk_at "cx"
  walk_at "sq"
  refine st_set env (en := .im (.int 0)) ev_i fun _ H1 x1 _ env => ?_
  try simp only [unpackE, unpackD, wipeD, unT, List.map_cons, List.map_nil, List.length_cons, List.length_nil, List.cons_append, List.nil_append, List.replicate_succ, List.replicate_zero, List.set_cons_succ, List.set_cons_zero, Nat.reduceAdd, Nat.reduceSub] at env
  walk_at "sq"
  refine st_forT (ds := (toI ks).map .int) (ev_v env rfl)
    (fun i s' H' => Same H H' ∧ EnvD K H' s' [some (.rf g), some (.im (.int (BF.wlk G.nx a (ks.take i) : Nat))), some (.im (encI (toI ks))), some (.im (.int (BF.wsum G.nx (G.told S place) a (ks.take i)))), none, none])
    (fun H2 x2 => ⟨x1.trans x2, env.mono (tk_of x2)⟩) ?_ ?_
  · intro i d x s' H' hd hx ⟨p1, env⟩
    obtain ⟨n, hn, rfl⟩ := toI_get hd
    have env := env.set (e := .im (.int (n : Int))) hx 4
    try simp only [unpackE, unpackD, wipeD, unT, List.map_cons, List.map_nil, List.length_cons, List.length_nil, List.cons_append, List.nil_append, List.replicate_succ, List.replicate_zero, List.set_cons_succ, List.set_cons_zero, Nat.reduceAdd, Nat.reduceSub] at env
    dsimp only [gName]
    obtain ⟨wl, _⟩ := ok.walk (ks := ks.take i) (place := 0) (sign := 1) (p := 1) (q := 1) ha (fun k' h' => hk k' (List.mem_of_mem_take h'))
    have hnm := hk n (List.mem_of_getElem? hn)
    refine st_par (e1 := .im (.int (BF.wsum G.nx (G.told S place) a (ks.take (i + 1))))) (e2 := .im (.int (BF.wlk G.nx a (ks.take (i + 1)) : Nat))) env (ea_c ?_ (ea_c ?_ ea_n)) fun s2 H2 x2 env => ?_
    · refine EvE.is (ev_add (ev_v env rfl) (ev_ixT (n := 0) (ds := [.int (G.told S place (BF.wlk G.nx a (ks.take i)) n), .int (G.nx (BF.wlk G.nx a (ks.take i)) n : Nat)]) (ev_edge (go.mono p1) gc (ev_v env rfl) (ev_v env rfl) (ev_v env rfl) (edgesD_get wl) (rowD_get hnm)) ev_i rfl)) ?_
      rw [takeN hn, BF.wsum_app]
      show En.im (.int (_ + _)) = En.im (.int (_ + (_ + 0)))
      rw [Int.add_zero]
    · refine EvE.is (ev_ixT (n := 1) (ds := [.int (G.told S place (BF.wlk G.nx a (ks.take i)) n), .int (G.nx (BF.wlk G.nx a (ks.take i)) n : Nat)]) (ev_edge (go.mono p1) gc (ev_v env rfl) (ev_v env rfl) (ev_v env rfl) (edgesD_get wl) (rowD_get hnm)) ev_i rfl) ?_
      rw [takeN hn, BF.wlk_app]
      rfl
    try simp only [unpackE, unpackD, wipeD, unT, List.map_cons, List.map_nil, List.length_cons, List.length_nil, List.cons_append, List.nil_append, List.replicate_succ, List.replicate_zero, List.set_cons_succ, List.set_cons_zero, Nat.reduceAdd, Nat.reduceSub] at env
    exact ⟨tk_of x2, p1.trans x2, env.weak rfl fun j e he => by
      match j with
      | 0 | 1 | 2 | 3 | 5 => exact he
      | 4 => cases he⟩
  · rintro s' H' ⟨p1, env⟩
    rw [List.length_map, show (toI ks).length = ks.length from by unfold toI; rw [List.length_map], List.take_length] at env
    walk_at "sq"
    refine st_set env (en := .im (.int (Int.gcd (BF.wsum G.nx (G.told S place) a ks) (toI ks).sum : Nat))) (ev_div (ev_v env rfl) (ev_sumT (ns := toI ks) (ev_v env rfl)) t0 (by omega)) fun _ H2 x2 _ env => ?_
    try simp only [unpackE, unpackD, wipeD, unT, List.map_cons, List.map_nil, List.length_cons, List.length_nil, List.cons_append, List.nil_append, List.replicate_succ, List.replicate_zero, List.set_cons_succ, List.set_cons_zero, Nat.reduceAdd, Nat.reduceSub] at env
    walk_at "sq"
    obtain ⟨_, _, _, _, _, g1, g2⟩ := BF.lowest t0 s0
    refine st_retD (ev_tup2 (ev_fdiv (ev_v env rfl) (ev_v env rfl) ⟨g1, by omega⟩) (ev_fdiv (ev_sumT (ns := toI ks) (ev_v env rfl)) (ev_v env rfl) ⟨g1, by omega⟩)) fun v H3 x3 r => k v H3 ((p1.trans x2).trans x3) r
abbrev s_full_round : Stmt := top 59
theorem sc_full_round : FnScope ["graph", "most", "at", "seen"] ["graph", "most"] (defScope s_full_round) := ⟨rfl, rfl, rfl, by decide +kernel, rfl, by decide +kernel, by decide +kernel⟩
def spFull (K : Fg) : Sp := fun vs H Q _ => ∃ (C g : Addr) (S : Setg) (m place : Nat) (G : Gr), EnAll K H [.rf g, .im (.int (m : Int))] vs ∧ GrC K C ∧ Nonempty (GAt K H C g S m place G) ∧ G.Ok S m ∧
  ∀ a L v H', Same H H' → a < G.nodes.length → 1 ≤ L → L ≤ G.nodes.length → BF.wlk G.nx a (List.replicate L m) = a → Im K H' v (.tuple [.int (a : Nat), encI (toI (List.replicate L m))]) → Q v H'
def mst (G : Gr) (m : Nat) : BF.St := (List.range G.nodes.length).map fun v => some (G.nx v m, m)
theorem mst_at {G : Gr} {m v : Nat} (h : v < G.nodes.length) : BF.stA (mst G m) v = some (G.nx v m, m) := by
  unfold BF.stA mst
  rw [List.getD_eq_getElem?_getD, List.getElem?_map, List.getElem?_range h]
  rfl
theorem mst_walk {G : Gr} {m : Nat} {v u : Nat} {c : List Nat} (h : BF.Chn (mst G m) v c u) : (∀ x, x ∈ c → x < G.nodes.length) → BF.wlk G.nx v (List.replicate c.length m) = u := by
  induction h with
  | nil => intro _; rfl
  | @cons v x k u c e t ih =>
    intro hx
    rw [mst_at (hx v List.mem_cons_self)] at e
    cases e
    exact ih fun x h => hx x (List.mem_cons_of_mem _ h)
theorem idx_mid {a : Nat} {c2 : List Nat} : ∀ {c1 : List Nat}, a ∉ c1 → (c1 ++ a :: c2).idxOf? a = some c1.length
  | [], _ => by rw [List.nil_append, List.idxOf?_cons, if_pos (by simp)]; rfl
  | b :: c1, h => by
    rw [List.cons_append, List.idxOf?_cons, if_neg (by simp; exact fun e => h (by rw [e]; exact List.mem_cons_self)), idx_mid fun hm => h (List.mem_cons_of_mem _ hm)]
    rfl
theorem d_full_round (B : Bn K mg) (F : FnP K mg "full_round" s_full_round) : Df P w K mg base 1 "full_round" ["graph", "most"] (spFull K) := by
  refine df_of F sc_full_round (fun vs H Q E h => by obtain ⟨_, _, _, _, _, _, e, _⟩ := h; exact (enAll_len e).symm) (fun _ _ _ _ _ _ us hl => match us, hl with | [_, _], _ => rfl) fun f cdv A outer s H vs Q E hr h => ?_
  refine ⟨_, (pss_cons (ps_par (i := 2) (j := 3) rfl sc_full_round.nd rfl rfl (by decide) rfl rfl (pa_cons pe_int (pa_cons pe_dnewK pa_nil)) (by rfl))
  (pss_cons (ps_while PassesOwn.never (pt_cmp (pc_dnotin hr.units1 (pv 2) (pv 3))) (pss_cons (ps_dput hr.units1 (pv 3) (pv 2) (pe_callB call_lenD rfl B.len bt_len (pa_cons (pv 3) pa_nil)) (by rfl))
  (pss_one (ps_set (i := 2) sc_full_round.nd rfl (by first | exact Or.inl rfl | exact Or.inr rfl) (pe_ix ix_tup (pe_ix ix_list (pe_ix ix_list (pe_fld (pv 0) rfl) (pv 2) (fun _ _ => rfl)) (pv 1) (fun _ _ => rfl)) pe_int (fun _ _ => rfl))))))
  (pss_one (ps_ret (pe_tup (pa_cons (pv 2) (pa_cons (pe_op op_mulT (pe_tup (pa_cons (pv 1) pa_nil)) (pe_op op_sub (pe_callB call_lenD rfl B.len bt_len (pa_cons (pv 3) pa_nil)) (pe_dget hr.units1 (pv 3) (pv 2) (fun _ _ => rfl)))) pa_nil))))))), ?_⟩
  obtain ⟨C, g, S, m, place, G, hen, gc, ⟨go⟩, ok, k⟩ := h
  have env := env_start (N := ["graph", "most", "at", "seen"]) hen
  try simp only [unpackE, unpackD, wipeD, unT, List.map_cons, List.map_nil, List.length_cons, List.length_nil, List.cons_append, List.nil_append, List.replicate_succ, List.replicate_zero, List.set_cons_succ, List.set_cons_zero, Nat.reduceAdd, Nat.reduceSub] at env
  walk_at "cx"
  walk_at "sq"
  refine st_parDD (en := .im (.int 0)) env ev_i fun la s1 H1 x1 nla hla env => ?_
  try simp only [unpackE, unpackD, wipeD, unT, List.map_cons, List.map_nil, List.length_cons, List.length_nil, List.cons_append, List.nil_append, List.replicate_succ, List.replicate_zero, List.set_cons_succ, List.set_cons_zero, Nat.reduceAdd, Nat.reduceSub] at env
  walk_at "sq"
  refine st_whileG (K := K) (α := List Nat × Nat) (fun p s' H' => Same H H' ∧ H' la = some (.dK (kvI p.1)) ∧ BF.Chn (mst G m) 0 p.1 p.2 ∧ p.2 < G.nodes.length ∧ p.1.Nodup ∧ (∀ x, x ∈ p.1 → x < G.nodes.length) ∧
      EnvD K H' s' [some (.rf g), some (.im (.int (m : Int))), some (.im (.int (p.2 : Int))), some (.rf la)])
    (fun p => G.nodes.length - p.1.length) (fun p => decide (p.2 ∉ p.1)) ([], 0) ⟨x1, hla, .nil, ok.pos, List.nodup_nil, (fun x hx => by cases hx), env⟩ ?_ ?_ ?_ ?_
  · rintro ⟨c, a⟩ s' H' ⟨q1, q2, q3, q4, q5, q6, env⟩
    exact et_B (ev_dnot q2 (ev_v env rfl) (ev_v env rfl))
  · rintro ⟨c, a⟩ s' H' H2 ⟨q1, q2, q3, q4, q5, q6, env⟩ x2
    exact ⟨q1.trans x2, x2 la _ q2, q3, q4, q5, q6, env.mono (tk_of x2)⟩
  · rintro ⟨c, a⟩ s' H' ⟨q1, q2, q3, q4, q5, q6, env⟩ ht
    have ht : a ∉ c := of_decide_eq_true ht
    have q3 : BF.Chn (mst G m) 0 c a := q3
    have q4 : a < G.nodes.length := q4
    have q5 : c.Nodup := q5
    have q6 : ∀ x, x ∈ c → x < G.nodes.length := q6
    have q2 : H' la = some (.dK (kvI c)) := q2
    have nd : (c ++ [a]).Nodup := List.nodup_append.mpr ⟨q5, by simp, fun y hy z hz e => by
      rw [List.mem_singleton.mp hz] at e
      exact ht (e ▸ hy)⟩
    have lt : ∀ y, y ∈ c ++ [a] → y < G.nodes.length := fun y hy => by
      rcases List.mem_append.mp hy with z | z
      · exact q6 y z
      · rw [List.mem_singleton.mp z]; exact q4
    have hcl := BF.nodup_lt _ _ nd lt
    rw [List.length_append] at hcl
    have hl1 : [a].length = 1 := rfl
    have hlen := ok.len
    refine st_dput q2 (EvE.is (ev_lenD q2 (ev_v env rfl)) (by rw [kvI_len])) (ev_v env rfl) (ev_v env rfl) ht (by rw [sizeLine_eq]; omega) fun H2 x2 hd2 => ?_
    have tk2 : Tk H2 (upd H2 la (.dK (kvI (c ++ [a])))) := tk_upd hd2 (fun _ e => by cases e) (fun _ _ e => by cases e)
    have env := env.mono ((tk_of x2).trans tk2)
    have s2 : Same H (upd H2 la (.dK (kvI (c ++ [a])))) := same_upd nla (q1.trans x2)
    walk_at "sq"
    refine st_set env (en := .im (.int (G.nx a m : Nat))) (ev_ixT (n := 1) (ds := [.int (G.told S place a m), .int (G.nx a m : Nat)]) (ev_edge (go.mono s2) gc (ev_v env rfl) (ev_v env rfl) (ev_v env rfl) (edgesD_get q4) (rowD_get (Nat.le_refl _))) ev_i rfl) fun _ H3 x3 _ env => ?_
    try simp only [unpackE, unpackD, wipeD, unT, List.map_cons, List.map_nil, List.length_cons, List.length_nil, List.cons_append, List.nil_append, List.replicate_succ, List.replicate_zero, List.set_cons_succ, List.set_cons_zero, Nat.reduceAdd, Nat.reduceSub] at env
    exact ⟨(c ++ [a], G.nx a m), by show _ - (c ++ [a]).length < _ - c.length; rw [List.length_append]; omega, s2.trans x3, x3 la _ upd_same, q3.snoc (mst_at q4), (ok.nx_ok q4 (Nat.le_refl _)).1, nd, lt, env⟩
  · rintro ⟨c, a⟩ s' H' ⟨q1, q2, q3, q4, q5, q6, env⟩ ht
    have ht : ¬ a ∉ c := of_decide_eq_false ht
    have ht : a ∈ c := Decidable.of_not_not ht
    have q3 : BF.Chn (mst G m) 0 c a := q3
    have q4 : a < G.nodes.length := q4
    have q5 : c.Nodup := q5
    have q6 : ∀ x, x ∈ c → x < G.nodes.length := q6
    have q2 : H' la = some (.dK (kvI c)) := q2
    obtain ⟨c1, c2, ec, hc⟩ := q3.cut ht
    have hna : a ∉ c1 := fun hm => by
      rw [ec] at q5
      exact (List.nodup_append.mp q5).2.2 a hm a List.mem_cons_self rfl
    have hcl := BF.nodup_lt _ _ q5 q6
    have hL : c.length = c1.length + (a :: c2).length := by rw [ec, List.length_append]
    have hlen := ok.len
    have hw := mst_walk hc fun x hx => q6 x (by rw [ec]; exact List.mem_append_right _ hx)
    have hL1 : (a :: c2).length = c2.length + 1 := rfl
    walk_at "sq"
    refine st_retD (ev_tup2 (e1 := .int (a : Int)) (e2 := encI (toI (List.replicate (a :: c2).length m))) (ev_v env rfl) (EvE.is (ev_mulT (k := (((a :: c2).length : Nat) : Int)) (ev_tup1 (ev_v env rfl)) (EvE.is (ev_sub (ev_lenD q2 (ev_v env rfl)) (ev_dix (n := c1.length) q2 (by rw [ec]; exact idx_mid hna) (ev_v env rfl) (ev_v env rfl))) (by rw [kvI_len]; congr 2; omega)) (by simp) (by omega) (by omega) (by show 1 * _ ≤ _; omega)) ?_)) fun v H3 x3 r => k a (a :: c2).length v H3 (q1.trans x3) q4 (by omega) (by omega) hw r
    unfold encI toI
    rw [Int.toNat_natCast, List.map_replicate, List.map_replicate]
    congr 2
    generalize (a :: c2).length = L
    induction L with
    | zero => rfl
    | succ L ih => rw [List.replicate_succ, List.flatten_cons, ih, List.replicate_succ]; rfl
abbrev s_Graph_row_to : Stmt := topM 46 1
theorem sc_Graph_row_to : FnScope ["self", "at", "found", "number"] ["self", "at"] (defScope s_Graph_row_to) := ⟨rfl, rfl, rfl, by decide +kernel, rfl, by decide +kernel, by decide +kernel⟩
def spRowTo (K : Fg) (C : Addr) : Sp := fun vs H Q _ => ∃ (g : Addr) (S : Setg) (m place : Nat) (G : Gr) (a : Nat), EnAll K H [.rf g, .im (.int (a : Int))] vs ∧ Nonempty (GAt K H C g S m place G) ∧ G.Ok S m ∧ a < G.nodes.length ∧
  ∀ wy v H', Same H H' → BF.wlk G.nx 0 wy = a → (∀ k, k ∈ wy → k ≤ m) → wy.length ≤ a → Im K H' v (encI (toI wy)) → Q v H'
theorem isNone_B (o : Option (Nat × Nat)) : isNone (.im (encB o)) = o.isNone := by
  cases o with
  | none => rfl
  | some p => obtain ⟨a, k⟩ := p; rfl
theorem d_row_to {C : Addr} (B : Bn K mg) (gc : GrC K C) (F : FnM K C "row_to" "Graph.row_to" s_Graph_row_to) : DfM P w K mg base 1 C "row_to" ["self", "at"] (spRowTo K C) := by
  refine dfm_of F sc_Graph_row_to (fun vs H Q E h => by obtain ⟨_, _, _, _, _, _, e, _⟩ := h; exact (enAll_len e).symm) (fun _ _ _ _ _ _ us hl => match us, hl with | [_, _], _ => rfl) fun f cdv A outer s H vs Q E hr h => ?_
  refine ⟨_, (pss_cons (ps_set (i := 2) sc_Graph_row_to.nd rfl (by first | exact Or.inl rfl | exact Or.inr rfl) (pe_lst pa_nil))
  (pss_cons (ps_while PassesOwn.never (pt_cmpR o_notN (pe_ix ix_list (pe_fld (pv 0) rfl) (pv 1) (fun _ _ => rfl)) pe_non (nomark _)) (pss_cons (ps_asg (pe_ix ix_list (pe_fld (pv 0) rfl) (pv 1) (fun _ _ => rfl)) (pg_tup rfl (pgs_cons (pg_name (i := 1) sc_Graph_row_to.nd rfl (by first | exact Or.inl rfl | exact Or.inr rfl)) (pgs_cons (pg_name (i := 3) sc_Graph_row_to.nd rfl (by first | exact Or.inl rfl | exact Or.inr rfl)) pgs_nil))))
  (pss_one (ps_expr (pe_bm PySem.F.plainAttrs_list PySem.F.slot_list_append PySem.F.type_list_append mt_append (pv 2) (pa_cons (pv 3) pa_nil))))))
  (pss_one (ps_ret (pe_callTy c_tup rfl B.tuple bt_tuple (pa_cons (pe_revL (pv 2)) pa_nil)))))), ?_⟩
  obtain ⟨g, S, m, place, G, a0, hen, ⟨go⟩, ok, ha, k⟩ := h
  have env := env_start (N := ["self", "at", "found", "number"]) hen
  try simp only [unpackE, unpackD, wipeD, unT, List.map_cons, List.map_nil, List.length_cons, List.length_nil, List.cons_append, List.nil_append, List.replicate_succ, List.replicate_zero, List.set_cons_succ, List.set_cons_zero, Nat.reduceAdd, Nat.reduceSub] at env
  walk_at "cx"
  walk_at "sq"
  refine st_setL env (el_lst (ds := []) ea_n (by decide)) fun la xs H1 x1 nla hla hxs env => ?_
  cases hxs
  try simp only [unpackE, unpackD, wipeD, unT, List.map_cons, List.map_nil, List.length_cons, List.length_nil, List.cons_append, List.nil_append, List.replicate_succ, List.replicate_zero, List.set_cons_succ, List.set_cons_zero, Nat.reduceAdd, Nat.reduceSub] at env
  walk_at "sq"
  have bget : ∀ v, v < G.nodes.length → (G.bef.map encB)[v]? = some (encB (G.bef.getD v none)) := fun v hv => by
    rw [List.getElem?_map, List.getD_eq_getElem?_getD, List.getElem?_eq_getElem (by rw [ok.lb]; exact hv)]
    rfl
  refine st_whileG (K := K) (α := Nat × List Nat) (fun p s' H' => Same H H' ∧ (∃ ws, H' la = some (.lst ws) ∧ ImAll K H' ws ((toI p.2).map .int)) ∧ p.1 < G.nodes.length ∧ BF.wlk G.nx p.1 p.2.reverse = a0 ∧ (∀ k, k ∈ p.2 → k ≤ m) ∧ p.2.length + p.1 ≤ a0 ∧
      EnvD K H' s' [some (.rf g), some (.im (.int (p.1 : Int))), some (.rf la), none])
    (fun p => p.1) (fun p => !(G.bef.getD p.1 none).isNone) (a0, []) ⟨x1, ⟨[], hla, .nil⟩, ha, rfl, (fun x hx => by cases hx), by show 0 + a0 ≤ a0; omega, env⟩ ?_ ?_ ?_ ?_
  · rintro ⟨a, ks⟩ s' H' ⟨q1, q2, q3, q4, q5, q6, env⟩
    exact EvT.is (et_test (ev_notN (ev_ixL (n := a) (SqL.of (go.mono q1).hb) (go.mono q1).eb (ev_before (go.mono q1) gc (ev_v env rfl)) (ev_v env rfl) (bget a q3)))) (by rw [isNone_B])
  · rintro ⟨a, ks⟩ s' H' H2 ⟨q1, ⟨ws, w1, w2⟩, q3, q4, q5, q6, env⟩ x2
    exact ⟨q1.trans x2, ⟨ws, x2 la _ w1, w2.mono (tk_of x2)⟩, q3, q4, q5, q6, env.mono (tk_of x2)⟩
  · rintro ⟨a, ks⟩ s' H' ⟨q1, ⟨ws, w1, w2⟩, q3, q4, q5, q6, env⟩ ht
    have q3 : a < G.nodes.length := q3
    have q4 : BF.wlk G.nx a ks.reverse = a0 := q4
    have q5 : ∀ k, k ∈ ks → k ≤ m := q5
    have q6 : ks.length + a ≤ a0 := q6
    have ht : (!(G.bef.getD a none).isNone) = true := ht
    have hpos : 0 < a := by
      refine Nat.pos_of_ne_zero fun e => ?_
      subst e
      rw [List.getD_eq_getElem?_getD, ok.b0] at ht
      cases ht
    obtain ⟨u, n, hb, hu, hn, hx⟩ := ok.bef a hpos q3
    have eb : encB (G.bef.getD a none) = .tuple [.int (u : Int), .int (n : Int)] := by rw [List.getD_eq_getElem?_getD, hb]; rfl
    refine st_unpack (is := [1, 3]) (n := 2) (ds := [.int (u : Int), .int (n : Int)]) env (ev_ixL (n := a) (SqL.of (go.mono q1).hb) (go.mono q1).eb (ev_before (go.mono q1) gc (ev_v env rfl)) (ev_v env rfl) (by rw [bget a q3, eb])) rfl rfl fun s5 H5 x5 env => ?_
    try simp only [unpackE, unpackD, wipeD, unT, List.map_cons, List.map_nil, List.length_cons, List.length_nil, List.cons_append, List.nil_append, List.replicate_succ, List.replicate_zero, List.set_cons_succ, List.set_cons_zero, Nat.reduceAdd, Nat.reduceSub] at env
    walk_at "sq"
    have hwl : ws.length = ks.length := by rw [imAll_len w2, List.length_map]; unfold toI; rw [List.length_map]
    have hlen := ok.len
    refine st_app (x5 la _ w1) (ev_v env rfl) (en := .im (.int (n : Int))) (ev_v env rfl) (by rw [sizeLine_eq]; omega) fun v H6 x6 rv => ?_
    have tk6 := tk_lst (u := .lst (ws ++ [v])) (x6 la _ (x5 la _ w1))
    have env := env.mono ((tk_of x6).trans tk6)
    refine ⟨(u, ks ++ [n]), hu, same_upd nla ((q1.trans x5).trans x6), ⟨_, upd_same, ?_⟩, by show u < _; omega, ?_, fun k' hk => ?_, ?_, env.weak rfl fun i e he => by
      match i with
      | 0 | 1 | 2 => exact he
      | 3 => cases he⟩
    · show ImAll K _ _ ((toI (ks ++ [n])).map PyData.int)
      rw [toI_snoc]
      exact imAll_app (w2.mono (((tk_of x5).trans (tk_of x6)).trans tk6)) (.cons (Im.mono tk6 rv) .nil)
    · show BF.wlk G.nx u (ks ++ [n]).reverse = a0
      rw [List.reverse_append]
      show BF.wlk G.nx (G.nx u n) ks.reverse = a0
      rw [hx]
      exact q4
    · rcases List.mem_append.mp hk with z | z
      · exact q5 k' z
      · rw [List.mem_singleton.mp z]; exact hn
    · show (ks ++ [n]).length + u ≤ a0
      rw [List.length_append]
      have : [n].length = 1 := rfl
      omega
  · rintro ⟨a, ks⟩ s' H' ⟨q1, ⟨ws, w1, w2⟩, q3, q4, q5, q6, env⟩ ht
    have q3 : a < G.nodes.length := q3
    have q4 : BF.wlk G.nx a ks.reverse = a0 := q4
    have q6 : ks.length + a ≤ a0 := q6
    have ht : (!(G.bef.getD a none).isNone) = false := ht
    have e0 : a = 0 := by
      by_cases e : a = 0
      · exact e
      · obtain ⟨u, n, hb, _⟩ := ok.bef a (by omega) q3
        rw [List.getD_eq_getElem?_getD, hb] at ht
        cases ht
    subst e0
    walk_at "sq"
    refine st_retD (EvE.is (e2 := .im (encI (toI ks.reverse))) (ev_tupL (el_rev (SqL.of w1) w2 (ev_v env rfl))) ?_) fun v H5 x5 rv => k ks.reverse v H5 (q1.trans x5) q4 (fun k' hk => q5 k' (List.mem_reverse.mp hk)) (by rw [List.length_reverse]; omega) rv
    unfold encI toI
    rw [List.map_reverse, List.map_reverse]
end
end CB

/-! ## KC1 -/
set_option Elab.async false
set_option linter.all false
set_option maxRecDepth 100000
set_option maxHeartbeats 2000000
/-! Captured cells, lent to a callee, hidden from a body that has them for its own. -/
namespace CB
open PySem PySem.Spec PyProof.Rows L2 LamX NdefX
/-- the cell at c holds v -/
def CellO (c : Addr) (v : V) : HO := .ext fun h => ∃ u, L2.RelV v u ∧ h.IsCell c (some u)
section
variable {P : Program} {w : World} {K : Fg} {mg : Str → Option Value} {base : Heap} {A : Around} {outer : List Env} {s s' : Shared} {H H' H1 H3 : Hp} {h : Heap} {u : Value}
theorem cellO_ok {c : Addr} {v : V} {ob : Obj} {u : Value} (ho : h.get? c = some ob) (hd : ob.data = .cell (some u)) (r : L2.RelV v u) : ObjOk P w H h c (.frz ob (CellO c v)) :=
  ⟨ho, ⟨u, r, ob, ho, hd⟩, ⟨ob, ho⟩, fun h1 h2 ⟨u, r, o, e, d⟩ st => ⟨u, r, o, st o e, d⟩⟩
theorem cellO_at {c : Addr} {v : V} {ob : Obj} (x : ObjOk P w H h c (.frz ob (CellO c v))) : h.get? c = some ob ∧ ∃ u, L2.RelV v u ∧ h.IsCell c (some u) := ⟨x.1, x.2.1⟩
/-! ### lending -/
/-- what is lent: frozen cells -/
def Lent (P : Program) (w : World) (base : Heap) (outer : List Env) (s : Shared) (H : Hp) (L : List (Addr × HO)) : Prop :=
  ∀ b o, L.lookup b = some o → H b = none ∧ b ∉ frs outer ∧ base.get? b = none ∧ ∃ ob v, o = .frz ob (CellO b v) ∧ ObjOk P w H s.heap b o
def lend (H : Hp) (L : List (Addr × HO)) : Hp := fun b => match L.lookup b with
  | some o => some o
  | none => H b
def unl (H : Hp) (L : List (Addr × HO)) : Hp := fun b => if (L.lookup b).isSome = true then none else H b
theorem lend_some {L : List (Addr × HO)} {b : Addr} {o : HO} (h : L.lookup b = some o) : lend H L b = some o := by unfold lend; rw [h]
theorem lend_none {L : List (Addr × HO)} {b : Addr} (h : L.lookup b = none) : lend H L b = H b := by unfold lend; rw [h]
theorem unl_some {L : List (Addr × HO)} {b : Addr} {o : HO} (h : L.lookup b = some o) : unl H L b = none := by unfold unl; rw [h]; rfl
theorem unl_none {L : List (Addr × HO)} {b : Addr} (h : L.lookup b = none) : unl H L b = H b := by unfold unl; rw [h]; rfl
theorem Lent.out {L : List (Addr × HO)} (l : Lent P w base outer s H L) {b : Addr} {o : HO} (e : H b = some o) : L.lookup b = none := by
  cases q : L.lookup b with
  | none => rfl
  | some o' =>
    have := (l b o' q).1
    rw [e] at this
    cases this
theorem Lent.same {L : List (Addr × HO)} (l : Lent P w base outer s H L) : Same H (lend H L) := fun b o e => by rw [lend_none (l.out e)]; exact e
theorem Lent.hok {L : List (Addr × HO)} (l : Lent P w base outer s H L) (hok : HOk P w H s.heap) : HOk P w (lend H L) s.heap := fun a o e => by
  have ho : ∀ {c : Addr} {x : HO}, H c = some x → lend H L c = some x := fun {c x} z => l.same c x z
  cases q : L.lookup a with
  | none =>
    rw [lend_none q] at e
    exact (hok a o e).stay (fun _ _ _ z => z) (fun _ z => ho z) (fun _ _ z => ho z)
  | some o' =>
    rw [lend_some q] at e
    cases e
    obtain ⟨_, _, _, ob, v, rfl, x⟩ := l a _ q
    exact x.stay (fun _ _ _ z => z) (fun _ z => ho z) (fun _ _ z => ho z)
theorem Lent.env0 {L : List (Addr × HO)} (l : Lent P w base outer s H L) (e : Env0 P w K mg base A outer s H) : Env0 P w K mg base A outer s (lend H L) := by
  refine ⟨e.frames, e.mod, fun b o q => ⟨(e.bs b o q).1, ?_⟩, e.bsz, e.funs, fun b hb => ?_, l.hok e.hok, e.bare⟩
  · have hn : L.lookup b = none := by
      cases z : L.lookup b with
      | none => rfl
      | some o' =>
        have := (l b o' z).2.2.1
        rw [q] at this
        cases this
    rw [lend_none hn]
    exact (e.bs b o q).2
  · have hn : L.lookup b = none := by
      cases z : L.lookup b with
      | none => rfl
      | some o' => exact absurd hb (l b o' z).2.1
    rw [lend_none hn]
    exact e.frf b hb
theorem unl_hok {B : Heap} {L : List (Addr × HO)} (hf : ∀ b o, L.lookup b = some o → ∃ ob v, H3 b = some (.frz ob (CellO b v))) (hok : HOk P w H3 B) : HOk P w (unl H3 L) B := fun a o e => by
  have ka : L.lookup a = none := by
    cases z : L.lookup a with
    | none => rfl
    | some o' => rw [unl_some z] at e; cases e
  rw [unl_none ka] at e
  have st : ∀ {c : Addr} {x : HO}, H3 c = some x → (∀ ob v, x ≠ .frz ob (CellO c v)) → unl H3 L c = some x := fun {c x} z nx => by
    have kc : L.lookup c = none := by
      cases q : L.lookup c with
      | none => rfl
      | some o' =>
        obtain ⟨ob, v, e2⟩ := hf c o' q
        rw [z] at e2
        exact absurd (Option.some.inj e2) (nx ob v)
    rw [unl_none kc]
    exact z
  exact (hok a o e).stay (fun _ _ _ z => z) (fun _ z => st z fun _ _ q => by cases q) fun _ _ z => st z fun _ _ q => by cases q
/-- behind the call: what was lent is the lender's again -/
theorem Lent.back {L : List (Addr × HO)} (l : Lent P w base outer s H L) {Q Q' : VK} (c : CE outer P w (lend H L) s Q' u s') (hQ : ∀ v H3, Q' v H3 → Q v (unl H3 L)) : CE outer P w H s Q u s' := by
  obtain ⟨v, H3, os, bare, un, hok, r, q⟩ := c
  have fr : ∀ b o, L.lookup b = some o → ∃ ob v, H3 b = some (.frz ob (CellO b v)) ∧ s.heap.get? b = some ob := fun b o e => by
    obtain ⟨_, _, _, ob, v, rfl, x⟩ := l b o e
    exact ⟨ob, v, un.frzs b ob _ (lend_some e), x.1⟩
  refine ⟨v, unl H3 L, os, bare, ⟨fun b o e n hb hx => ?_, fun b o e n hb hx => ?_, fun b o e n hx => ?_, un.there, fun b xs e => ?_, fun b o x e => ?_, fun b ps e => ?_⟩, unl_hok (fun b o e => let ⟨ob, v, z, _⟩ := fr b o e; ⟨ob, v, z⟩) hok, r, hQ v H3 q⟩
  · cases z : L.lookup b with
    | none => exact un.keep b o e (by rw [lend_none z]; exact n) hb hx
    | some o' =>
      obtain ⟨ob, v, z1, z2⟩ := fr b o' z
      rw [e] at z2
      cases z2
      exact (hok b _ z1).1
  · cases z : L.lookup b with
    | none => exact un.slot b o e (by rw [lend_none z]; exact n) hb hx
    | some o' => exact absurd hb (l b o' z).2.1
  · cases z : L.lookup b with
    | none => rw [unl_none z]; exact un.free b o e (by rw [lend_none z]; exact n) hx
    | some o' => exact unl_some z
  · rw [unl_none (l.out e)]
    exact un.tups b xs (l.same b _ e)
  · rw [unl_none (l.out e)]
    exact un.frzs b o x (l.same b _ e)
  · rw [unl_none (l.out e)]
    exact un.tbls b ps (l.same b _ e)
theorem Lent.backX {L : List (Addr × HO)} (l : Lent P w base outer s H L) {E E' : XK} (c : L2.CX P w outer (lend H L) s E' u s') (hE : ∀ cls d H3, E' cls d H3 → E cls d (unl H3 L)) : L2.CX P w outer H s E u s' := by
  obtain ⟨a, B, H3, cls, d, ea, fl, hok, un, na, os, ag, q⟩ := c
  have fr : ∀ b o, L.lookup b = some o → ∃ ob v, H3 b = some (.frz ob (CellO b v)) ∧ s.heap.get? b = some ob := fun b o e => by
    obtain ⟨_, _, _, ob, v, rfl, x⟩ := l b o e
    exact ⟨ob, v, un.frzs b ob _ (lend_some e), x.1⟩
  refine ⟨a, B, unl H3 L, cls, d, ea, fl, unl_hok (fun b o e => let ⟨ob, v, z, _⟩ := fr b o e; ⟨ob, v, z⟩) hok, ⟨fun b o e n hb => ?_, un.slot, fun b o e n => ?_, un.there, fun b xs e => ?_, fun b o x e => ?_, fun b ps e => ?_⟩, ?_, os, ag, hE cls d H3 q⟩
  · cases z : L.lookup b with
    | none => exact un.keep b o e (by rw [lend_none z]; exact n) hb
    | some o' =>
      obtain ⟨ob, v, z1, z2⟩ := fr b o' z
      rw [e] at z2
      cases z2
      exact (hok b _ z1).1
  · cases z : L.lookup b with
    | none => rw [unl_none z]; exact un.free b o e (by rw [lend_none z]; exact n)
    | some o' => exact unl_some z
  · rw [unl_none (l.out e)]
    exact un.tups b xs (l.same b _ e)
  · rw [unl_none (l.out e)]
    exact un.frzs b o x (l.same b _ e)
  · rw [unl_none (l.out e)]
    exact un.tbls b ps (l.same b _ e)
  · cases z : L.lookup a with
    | none => rw [unl_none z]; exact na
    | some o' => exact unl_some z
/-! ### hiding -/
def isC (cl : List (Str × Addr)) (b : Addr) : Bool := cl.any fun p => p.2 == b
def hide (H : Hp) (cl : List (Str × Addr)) : Hp := fun b => if isC cl b = true then none else H b
def shw (H : Hp) (cl : List (Str × Addr)) (H3 : Hp) : Hp := fun b => if isC cl b = true then H b else H3 b
/-- all captured cells are known -/
def Known (H : Hp) (cl : List (Str × Addr)) : Prop := ∀ b, isC cl b = true → ∃ ob v, H b = some (.frz ob (CellO b v))
theorem hide_t {cl : List (Str × Addr)} {b : Addr} (h : isC cl b = true) : hide H cl b = none := if_pos h
theorem hide_f {cl : List (Str × Addr)} {b : Addr} (h : isC cl b = false) : hide H cl b = H b := if_neg (by rw [h]; exact Bool.false_ne_true)
theorem shw_t {cl : List (Str × Addr)} {b : Addr} (h : isC cl b = true) : shw H cl H3 b = H b := if_pos h
theorem shw_f {cl : List (Str × Addr)} {b : Addr} (h : isC cl b = false) : shw H cl H3 b = H3 b := if_neg (by rw [h]; exact Bool.false_ne_true)
theorem Known.out {cl : List (Str × Addr)} (k : Known H cl) {b : Addr} {o : HO} (e : H b = some o) (n : ∀ ob v, o ≠ .frz ob (CellO b v)) : isC cl b = false := by
  cases q : isC cl b with
  | false => rfl
  | true =>
    obtain ⟨ob, v, z⟩ := k b q
    rw [e] at z
    exact absurd (Option.some.inj z) (n ob v)
theorem hide_some {cl : List (Str × Addr)} {b : Addr} {o : HO} (e : hide H cl b = some o) : isC cl b = false ∧ H b = some o := by
  cases q : isC cl b with
  | true => rw [hide_t q] at e; cases e
  | false => rw [hide_f q] at e; exact ⟨rfl, e⟩
theorem Known.env0 {cl : List (Str × Addr)} (k : Known H cl) (e : Env0 P w K mg base A outer s H) : Env0 P w K mg base A outer s (hide H cl) := by
  have nn : ∀ b, H b = none → hide H cl b = none := fun b n => by
    unfold hide
    split
    · rfl
    · exact n
  have st : ∀ {c : Addr} {x : HO}, H c = some x → (∀ ob v, x ≠ .frz ob (CellO c v)) → hide H cl c = some x := fun {c x} z nx => by
    rw [hide_f (k.out z nx)]
    exact z
  refine ⟨e.frames, e.mod, fun b o q => ⟨(e.bs b o q).1, nn b (e.bs b o q).2⟩, e.bsz, e.funs, fun b hb => nn b (e.frf b hb), fun a o q => ?_, e.bare⟩
  exact (e.hok a o (hide_some q).2).stay (fun _ _ _ z => z) (fun _ z => st z fun _ _ q => by cases q) fun _ _ z => st z fun _ _ q => by cases q
/-- behind the body: the cells are known again -/
theorem Known.back {cl : List (Str × Addr)} (k : Known H cl) (e0 : Env0 P w K mg base A outer s H) {Q Q' : VK} (c : CE outer P w (hide H cl) s Q' u s') (hQ : ∀ v H3, (∀ b, isC cl b = true → H3 b = none) → Q' v H3 → Q v (shw H cl H3)) : CE outer P w H s Q u s' := by
  obtain ⟨v, H3, os, bare, un, hok, r, q⟩ := c
  have at_ : ∀ b, isC cl b = true → ∃ ob v, H b = some (.frz ob (CellO b v)) ∧ s.heap.get? b = some ob ∧ s'.heap.get? b = some ob ∧ H3 b = none ∧ ∃ u, L2.RelV v u ∧ ob.data = .cell (some u) := fun b e => by
    obtain ⟨ob, v, z⟩ := k b e
    have x := e0.hok b _ z
    obtain ⟨x1, u, r, o2, x2, x3⟩ := cellO_at x
    rw [x1] at x2
    cases x2
    refine ⟨ob, v, z, x1, un.keep b ob x1 (hide_t e) (fun hb => ?_) (by simp), un.free b ob x1 (hide_t e) (by simp), u, r, x3⟩
    have := e0.frf b hb
    rw [z] at this
    cases this
  have nc : ∀ b, H b = none → isC cl b = false := fun b n => by
    cases e : isC cl b with
    | false => rfl
    | true =>
      obtain ⟨_, _, z, _⟩ := at_ b e
      rw [n] at z
      cases z
  have st3 : ∀ {c : Addr} {x : HO}, H3 c = some x → shw H cl H3 c = some x := fun {c x} z => by
    cases e : isC cl c with
    | false => rw [shw_f e]; exact z
    | true =>
      obtain ⟨_, _, _, _, _, n, _⟩ := at_ c e
      rw [n] at z
      cases z
  have out : ∀ {b : Addr} {o : HO}, H b = some o → (∀ ob v, o ≠ .frz ob (CellO b v)) → hide H cl b = some o := fun {b o} e n => by
    rw [hide_f (k.out e n)]
    exact e
  refine ⟨v, shw H cl H3, os, bare, ⟨fun b o e n hb hx => ?_, fun b o e n hb hx => ?_, fun b o e n hx => ?_, un.there, fun b xs e => ?_, fun b o x e => ?_, fun b ps e => ?_⟩, fun a o e => ?_, r, hQ v H3 (fun b e => let ⟨_, _, _, _, _, n, _⟩ := at_ b e; n) q⟩
  · exact un.keep b o e (by rw [hide_f (nc b n)]; exact n) hb hx
  · exact un.slot b o e (by rw [hide_f (nc b n)]; exact n) hb hx
  · rw [shw_f (nc b n)]
    exact un.free b o e (by rw [hide_f (nc b n)]; exact n) hx
  · exact st3 (un.tups b xs (out e fun _ _ z => by cases z))
  · cases z : isC cl b with
    | true => rw [shw_t z]; exact e
    | false => exact st3 (un.frzs b o x (by rw [hide_f z]; exact e))
  · obtain ⟨m, z⟩ := un.tbls b ps (out e fun _ _ z => by cases z)
    exact ⟨m, st3 z⟩
  · cases z : isC cl a with
    | true =>
      obtain ⟨ob, v, z1, z2, z3, z4, u, r, d⟩ := at_ a z
      rw [shw_t z, z1] at e
      cases e
      exact cellO_ok z3 d r
    | false =>
      rw [shw_f z] at e
      exact (hok a o e).stay (fun _ _ _ z => z) (fun _ z => st3 z) fun _ _ z => st3 z
/-! ### closures -/
/-- a function with captured cells: its object O at f, its words F -/
structure COk (P : Program) (w : World) (K : Fg) (mg : Str → Option Value) (base : Heap) (k : Nat) (f : Addr) (O : HO) (F : NF) (ps fr : List Str) (sp : List (Option V) → Sp) : Prop where
  len : ∀ ws vs H Q E, sp ws vs H Q E → vs.length = ps.length
  run : ∀ (A : Around) (outer : List Env) (s : Shared) (H : Hp) (us : List Value) (vs : List V) (ws : List (Option V)) (Q : VK) (E : XK), Room k A → Env0 P w K mg base A outer s H → H f = some O → H F.c = some (CodeO F.c F.qual) →
    CellsAt F.cl fr ws s.heap H → Vals vs us → sp ws vs H Q E → codeAny (model P w) A (.call (.ref f) ⟨us, []⟩) (CR CX0 outer P w H s Q E) s
/-- what is known of a closure at f -/
structure CloAt (H : Hp) (f : Addr) (O : HO) (F : NF) (fr : List Str) (ws : List V) : Prop where
  fn : H f = some O
  code : H F.c = some (CodeO F.c F.qual)
  known : Known H F.cl
  len : ws.length = fr.length
  inj : ∀ x y c, F.cl.lookup x = some c → F.cl.lookup y = some c → x = y
  has : ∀ (i : Nat) (y : Str), fr[i]? = some y → ∃ c v ob, F.cl.lookup y = some c ∧ ws[i]? = some v ∧ H c = some (.frz ob (CellO c v))
theorem CloAt.mono {f : Addr} {O : HO} {F : NF} {fr : List Str} {ws : List V} (c : CloAt H f O F fr ws) (x : Same H H') : CloAt H' f O F fr ws :=
  ⟨x _ _ c.fn, x _ _ c.code, fun b e => let ⟨ob, v, z⟩ := c.known b e; ⟨ob, v, x _ _ z⟩, c.len, c.inj, fun i y e => let ⟨a, v, ob, z1, z2, z3⟩ := c.has i y e; ⟨a, v, ob, z1, z2, x _ _ z3⟩⟩
theorem isC_of {cl : List (Str × Addr)} {y : Str} {c : Addr} (h : cl.lookup y = some c) : isC cl c = true := List.any_eq_true.mpr ⟨(y, c), PySem.mem_of_lookup h, by simp⟩
/-- no object is a cell's that is told otherwise -/
theorem fnO_notC {f : Addr} {F : NF} {ob : Obj} {v : V} (hok : HOk P w H h) (e : H f = some (FnO f F)) : FnO f F ≠ .frz ob (CellO f v) := fun z => by unfold FnO at z; cases z
theorem codeO_notC {c : Addr} {q : Str} {ob : Obj} {v : V} : CodeO c q ≠ .frz ob (CellO c v) := fun z => by unfold CodeO at z; cases z
theorem CloAt.cells {f : Addr} {O : HO} {F : NF} {fr : List Str} {ws : List V} (c : CloAt H f O F fr ws) (hok : HOk P w H s.heap) : CellsAt F.cl fr (ws.map some) s.heap (hide H F.cl) := by
  refine ⟨by rw [List.length_map]; exact c.len, fun y a e => ⟨hide_t (isC_of e), ?_⟩, c.inj, fun i y e => ?_⟩
  · obtain ⟨ob, v, z⟩ := c.known a (isC_of e)
    obtain ⟨_, u, _, z2⟩ := cellO_at (hok a _ z)
    exact ⟨some u, z2⟩
  · obtain ⟨a, v, ob, z1, z2, z3⟩ := c.has i y e
    obtain ⟨_, u, r, z4⟩ := cellO_at (hok a _ z3)
    refine ⟨a, z1, fun v' ev => ?_⟩
    rw [List.getElem?_map, z2] at ev
    cases ev
    exact ⟨u, r, z4⟩
/-- a closure called, from outside its maker -/
theorem COk.go {k : Nat} {f : Addr} {O : HO} {F : NF} {ps fr : List Str} {sp : List (Option V) → Sp} (C : COk P w K mg base k f O F ps fr sp) (nO : ∀ ob v, O ≠ .frz ob (CellO f v)) {us : List Value} {vs : List V} {ws : List V} {Q : VK} {E : XK} (hr : Room k A) (e0 : Env0 P w K mg base A outer s H)
    (c : CloAt H f O F fr ws) (r : Vals vs us) (q : sp (ws.map some) vs (hide H F.cl) (fun v H3 => (∀ b, isC F.cl b = true → H3 b = none) → Q v (shw H F.cl H3)) E) : codeAny (model P w) A (.call (.ref f) ⟨us, []⟩) (CR CX0 outer P w H s Q E) s := by
  have hf : hide H F.cl f = some O := by rw [hide_f (c.known.out c.fn nO)]; exact c.fn
  have hc : hide H F.cl F.c = some (CodeO F.c F.qual) := by rw [hide_f (c.known.out c.code fun _ _ => codeO_notC)]; exact c.code
  refine codeAny_mono (C.run A outer s (hide H F.cl) us vs (ws.map some) _ E hr (c.known.env0 e0) hf hc (c.cells e0.hok) r q) fun r s' hq => ?_
  cases r with
  | error e => exact hq
  | ok fl =>
    cases fl with
    | ret u => exact c.known.back e0 hq fun v H3 n z => z n
    | next => exact hq
    | brk => exact hq
    | cont => exact hq
end
end CB

/-! ## KC2 -/
set_option Elab.async false
set_option linter.all false
set_option maxRecDepth 100000
set_option maxHeartbeats 2000000
/-! Closures: made, called. -/
namespace CB
open PySem PySem.Spec PyProof.Rows L2 LamX NdefX
section
variable {P : Program} {w : World} {K : Fg} {mg : Str → Option Value} {base : Heap} {k : Nat} {f : Addr} {F : NF} {N ps fr : List Str} {sp : List (Option V) → Sp}
theorem COk.mono {O : HO} {j : Nat} (o : COk P w K mg base j f O F ps fr sp) (h : j ≤ k) : COk P w K mg base k f O F ps fr sp := ⟨o.len, fun A outer s H us vs ws Q E hr => o.run A outer s H us vs ws Q E (hr.mono h)⟩
theorem cok_def (n : NOk P w K mg base CX0 k f F ps fr sp) : COk P w K mg base k f (FnO f F) F ps fr sp := ⟨n.len, n.run⟩
/-! ### lambdas -/
/-- the object at f is the lambda of those words -/
def LamO (body : Expr) (f : Addr) (F : NF) : HO := .ext fun h => ∃ (pm ctv : Value), h.get? f = some (PySem.W.kla_obj "<lambda>" F.qual F.params body F.scope F.cl pm F.c ctv)
theorem lamO_at {H : Hp} {h : Heap} {body : Expr} (hok : HOk P w H h) (e : H f = some (LamO body f F)) : ∃ (pm ctv : Value), h.get? f = some (PySem.W.kla_obj "<lambda>" F.qual F.params body F.scope F.cl pm F.c ctv) := by
  obtain ⟨z, _, _⟩ := hok f _ e
  exact z
theorem cok_lam {body : Expr} (S : NScope N ps fr F.scope) (hb : ∀ (pm ctv : Value) (us : List Value), us.length = ps.length → bindArgs (PySem.W.kla_fn "<lambda>" F.qual F.params body F.scope F.cl pm (.ref F.c) ctv) ⟨us, []⟩ = pure (ps.zip us))
    (len : ∀ ws vs H Q E, sp ws vs H Q E → vs.length = ps.length)
    (hbody : ∀ (A : Around) (outer : List Env) (s : Shared) (H : Hp) (vs : List V) (ws : List (Option V)) (Q : VK) (E : XK), Room k (A.deeper (envF F f s.heap.objs.size)) → ws.length = fr.length → sp ws vs H Q E →
      ∃ t, PE (ncx CX0 P w K mg base N F f A outer s H E) body t ∧ t (startF N vs ws) H Q) : COk P w K mg base (k + 1) f (LamO body f F) F ps fr sp := by
  refine ⟨len, fun A outer s H us vs ws Q E hr e0 hf hc C r hsp => ?_⟩
  have hl := len _ _ _ _ _ hsp
  have lim : s.heap.NoLimit := e0.mod.nolimit.keeps fun b o e => (e0.bs b o e).1
  obtain ⟨pm, ctv, ho⟩ := lamO_at e0.hok hf
  refine PySem.W.kla_callFunE hr.depth ho rfl S.co S.gen rfl (codeO_at e0.hok hc) ?_
  rw [hb pm ctv us (by rw [← r.length]; exact hl)]
  refine wpAny_pure (wpAny_newFunctionEnv S.nocell (fun ⟨n, _⟩ hy => S.par n (List.of_mem_zip hy).1) (fun h₁ hns hsb => ⟨lim.fresh _ hsb, ?_⟩) S.kind)
  show codeAny _ _ (.expr body (envF F f s.heap.objs.size)) _ _
  have kp : ∀ b o, s.heap.get? b = some o → h₁.get? b = some o := fun b o e => hsb.extBut b o (Nat.ne_of_lt (Heap.lt_size e)) (Heap.get?_push_of_some _ e)
  obtain ⟨t, ht, hq⟩ := hbody A outer s H vs ws Q E (hr.deeper _) C.len hsp
  have I : Inv (ncx CX0 P w K mg base N F f A outer s H E) [] (startF N vs ws) H { s with heap := h₁, toks := s.toks + (ps.zip us).length } := inv_startN S hr.hd e0 hl r C hns kp
  refine PySem.W.kla_codeExpr (wpAny_mono (ht.run [] _ (startF N vs ws) H Q I hq) (fun v s' hq => ?_) fun e s' hq => hq)
  obtain ⟨w', H', J', rv, q⟩ := hq
  exact ⟨w', H', J'.os, J'.bare, J'.base, J'.hok, rv, q⟩
end
section
variable {X : Cx} {pins : List (Addr × Obj)} {σ : L2.St} {H : Hp} {s : Shared}
theorem inv_lam {F : NF} {body : Expr} {t' : Nat} {pm ctv : Value} (I : Inv X pins σ H s) :
    Inv X pins σ (upd H s.heap.objs.size (LamO body s.heap.objs.size F)) { s with heap := s.heap.push (PySem.W.kla_obj "<lambda>" F.qual F.params body F.scope F.cl pm F.c ctv), toks := t' } := by
  refine I.laid (a := s.heap.objs.size) (fun b u e => Heap.get?_push_of_some _ e) (Nat.le_refl _) ?_
  have e : (s.heap.push (PySem.W.kla_obj "<lambda>" F.qual F.params body F.scope F.cl pm F.c ctv)).get? s.heap.objs.size = some (PySem.W.kla_obj "<lambda>" F.qual F.params body F.scope F.cl pm F.c ctv) := Heap.get?_push_size _ rfl
  exact ⟨⟨pm, ctv, e⟩, ⟨_, e⟩, fun h1 h2 ⟨p, t, z⟩ st => ⟨p, t, st _ z⟩⟩
/-- the words of a lambda -/
abbrev lamF (qual : Str) (params : Arguments) (scope : Scope) (cl : List (Str × Addr)) (c : Addr) : NF := ⟨"<lambda>", qual, params, [], scope, cl, c⟩
theorem lam_makeN {T : List NTab} {nm : Nat → Nat → Str} {c P : Addr} {params : Arguments} {body : Expr} {scope : Scope} {pos : Pos} {E : Value → Shared → Prop} {Q : Value → Shared → Prop} (I : Inv X pins σ H s) (TB : TabB X.base X.mg c P) (hcode : X.env.code = .ref c)
    (hm : (P, nm) ∈ T) (hn : nm pos.line pos.col = X.env.qual ++ "<lambda>") (hu : ∀ p ∈ T, p.1 = P → p.2 = nm) (hT : TabsN T H) (hdef : defaultsOf params X.env = ([], [])) (hfree : ∀ y ∈ scope.names, y.2 = .free → ∃ c, X.env.cells.lookup y.1 = some c)
    (h : ∀ (f c' : Addr) (H1 : Hp) (s' : Shared), Inv X pins σ H1 s' → ExtN H H1 → (∀ b, H1 b = Option.none → H b = Option.none) → TabsN T H1 → H f = none → H1 f = some (LamO body f (lamF (X.env.qual ++ "<lambda>") params scope (cloFrom X.env.cells scope.names []) c')) → H1 c' = some (CodeO c' (X.env.qual ++ "<lambda>")) → Q (.ref f) s') :
    wpAny (model X.prog X.w) X.A (eval (.Lambda params body scope pos) X.env) Q E s := by
  obtain ⟨ps, hP, ht, ha⟩ := (show TabN H P nm from hT _ hm)
  refine PySem.W.kla_eval hdef ?_
  have bP : s.heap.BuiltinsAt X.mg P := TB.bm.keeps I.bk
  have hP' : s.heap.get? P = some { cls := .none, data := .fields ps } := I.hok P _ hP
  cases hc : codeAmong pos ps.toList with
  | none =>
    refine PySem.W.kla_makeFunction (mg := X.mg) (c := c) (P := P) (ps := ps) (closure_ok hfree) I.ok.glob (I.mod.glob.keeps I.bk) hcode (TB.code.keeps I.bk) hP' ht hc TB.gP bP fun c' ctv h' tk hx hge hlt hrec htb => ?_
    obtain ⟨c2, oc, vs, t, e2, hoc, hd, hv⟩ := hrec
    cases e2
    have nC : H c' = none := I.hok.fresh hge
    have I1 := inv_table (t' := tk) (more := #[rawInt pos.line, rawInt pos.col, .ref c']) (h' := h') I hP (fun b o hb e => hx b o hb e) htb hge ⟨oc, vs, t, hoc, hd, hv⟩
    have hE : ExtN H (upd (upd H P (.tbl (ps ++ #[rawInt pos.line, rawInt pos.col, .ref c']))) c' (CodeO c' (X.env.qual ++ "<lambda>"))) := fun b o e n => by
      rw [upd_ne (ne_of_none e nC), upd_ne (fun z => n ps (Option.some.inj (e.symm.trans (by rw [z]; exact hP))))]
      exact e
    have eL : (ps ++ #[rawInt pos.line, rawInt pos.col, .ref c']).toList = ps.toList ++ [rawInt pos.line, rawInt pos.col, .ref c'] := by simp
    have T1 : TabsN T (upd (upd H P (.tbl (ps ++ #[rawInt pos.line, rawInt pos.col, .ref c']))) c' (CodeO c' (X.env.qual ++ "<lambda>"))) := fun p hp => by
      by_cases hb : p.1 = P
      · rw [hu p hp hb, hb]
        refine ⟨_, by rw [upd_ne (ne_of_none hP nC), upd_same], by rw [eL]; exact PySem.TriplesOk_snoc _ _ _ _ ht, fun p' cv hcv => ?_⟩
        rw [eL] at hcv
        rcases among_app2 _ ht hcv with z | ⟨z, z1, z2⟩
        · obtain ⟨c0, e1, e2⟩ := ha p' cv z
          exact ⟨c0, e1, hE _ _ e2 codeO_ne⟩
        · refine ⟨c', z, ?_⟩
          rw [← z1, ← z2, hn]
          exact upd_same
      · obtain ⟨ps', a1, a2, a3⟩ := hT p hp
        refine ⟨ps', by rw [upd_ne (ne_of_none a1 nC), upd_ne hb]; exact a1, a2, fun p' cv hcv => ?_⟩
        obtain ⟨c0, e1, e2⟩ := a3 p' cv hcv
        exact ⟨c0, e1, hE _ _ e2 codeO_ne⟩
    have nF := I1.hok.fresh (Nat.le_refl _)
    have I2 := inv_lam (F := lamF (X.env.qual ++ "<lambda>") params scope (cloFrom X.env.cells scope.names []) c') (body := body) (t' := tk) (pm := (X.mg "__name__").getD .none) (ctv := ctv) I1
    refine h h'.objs.size c' _ _ I2 (fun b o e n => ?_) (fun b e => upd_none (upd_none (upd_none e))) (T1.ext fun b o e => ?_) (I.hok.fresh (Nat.le_trans hge (Nat.le_of_lt hlt))) upd_same ?_
    · have e1 := hE b o e n
      exact (upd_ne (ne_of_none e1 nF)).trans e1
    · exact (upd_ne (ne_of_none e nF)).trans e
    · exact (upd_ne (Nat.ne_of_lt hlt)).trans upd_same
  | some cv =>
    obtain ⟨c', e, hco⟩ := ha pos cv hc
    subst e
    rw [hn] at hco
    refine PySem.W.kla_makeFunctionHit (mg := X.mg) (c := c) (P := P) (ps := ps) (closure_ok hfree) I.ok.glob (I.mod.glob.keeps I.bk) hcode (TB.code.keeps I.bk) hP' ht hc bP fun ctv h' tk hx hsz => ?_
    have I1 : Inv X pins σ H { s with heap := h', toks := tk } := I.kept hx
    have nF : H h'.objs.size = none := I1.hok.fresh (Nat.le_refl _)
    have I2 := inv_lam (F := lamF (X.env.qual ++ "<lambda>") params scope (cloFrom X.env.cells scope.names []) c') (body := body) (t' := tk) (pm := (X.mg "__name__").getD .none) (ctv := ctv) I1
    refine h h'.objs.size c' _ _ I2 (fun b o e n => ?_) (fun b e => upd_none e) (hT.ext fun b o e => ?_) nF upd_same ?_
    · exact (upd_ne (ne_of_none e nF)).trans e
    · exact (upd_ne (ne_of_none e nF)).trans e
    · exact (upd_ne (ne_of_none hco nF)).trans hco
/-- lambda ..: .., as a value -/
def tLamN (T : List NTab) (body : Expr) (mk : Addr → NF) : TE := fun σ H Q => TabsN T H ∧ ∀ (f c' : Addr) (H1 : Hp), ExtN H H1 → (∀ b, H1 b = Option.none → H b = Option.none) → TabsN T H1 → H f = none → H1 f = some (LamO body f (mk c')) → H1 c' = some (CodeO c' (mk c').qual) → Q (.ref f) H1
theorem pe_lamN {T : List NTab} {nm : Nat → Nat → Str} {c P : Addr} {params : Arguments} {body : Expr} {scope : Scope} {pos : Pos} (TB : TabB X.base X.mg c P) (hcode : X.env.code = .ref c) (hm : (P, nm) ∈ T) (hn : nm pos.line pos.col = X.env.qual ++ "<lambda>") (hu : ∀ p ∈ T, p.1 = P → p.2 = nm)
    (hfree : ∀ y ∈ scope.names, y.2 = .free → X.env.scope.names.lookup y.1 = some .cell ∨ X.env.scope.names.lookup y.1 = some .free) (hdef : defaultsOf params X.env = ([], [])) :
    PE X (.Lambda params body scope pos) (tLamN T body (lamF (X.env.qual ++ "<lambda>") params scope (cloFrom X.env.cells scope.names []))) := by
  refine ⟨fun pins s σ H Q I h => ?_⟩
  obtain ⟨hT, h⟩ := h
  have hfr : ∀ y ∈ scope.names, y.2 = .free → ∃ c, X.env.cells.lookup y.1 = some c := fun y hy e => (hfree y hy e).elim (fun z => I.ok.has _ (.inl z)) fun z => I.ok.has _ (.inr z)
  exact lam_makeN I TB hcode hm hn hu hT hdef hfr fun f c' H1 s' I1 eN nn T1 f0 f1 c1 => ⟨.ref f, H1, I1, rfl, h f c' H1 eN nn T1 f0 f1 c1⟩
/-! ### x(..), x a local name that holds a closure -/
def tClo (O : Addr → NF → HO) (isF : NF → Prop) (fr : List Str) (i : Nat) (sp : List (Option V) → Sp) (E : XK) (t : TA) : TE := fun σ H Q => ∃ (f : Addr) (F : NF) (ws : List V), isF F ∧ σ[i]? = some (some (.ref f)) ∧ H f = some (O f F) ∧ t σ H fun vs H1 => CloAt H1 f (O f F) F fr ws ∧
  sp (ws.map some) vs (hide H1 F.cl) (fun v H3 => (∀ b, isC F.cl b = true → H3 b = none) → Q v (shw H1 F.cl H3)) E
theorem pe_clo {O : Addr → NF → HO} {isF : NF → Prop} {ps fr : List Str} {k j i : Nat} {x : Str} {sp : List (Option V) → Sp} {t : TA} {e : Expr} {es : List Expr} {p pos : Pos} (Fn : ∀ f F, isF F → COk X.prog X.w X.K X.mg X.base k f (O f F) F ps fr sp) (nO : ∀ f F ob v, O f F ≠ .frz ob (CellO f v))
    (at_ : ∀ f F (H : Hp) (h : Heap), HOk X.prog X.w H h → H f = some (O f F) → PySem.W.FnAt f h) (hr : Room j X.A) (hk : k ≤ j) (hN : X.N[i]? = some x) (hv : Vis X.env.scope x) (ha : PA X (e :: es) t)
    (hd : (x == ("__debug__" : Str)) = false := by decide) (hcd : (x == ("__classdict__" : Str)) = false := by decide)
    (he : starEach (e :: es) X.env = (false, eval e X.env) :: starEach es X.env := by rfl) (hpl : (backTo pos (starEach es X.env)).any (·.1) = false := by rfl) :
    PE X (.Call (.Name x p) (e :: es) [] pos) (tClo O isF fr i sp E0 t) := by
  refine ⟨fun pins s σ H Q I h => ?_⟩
  obtain ⟨f, F, ws, hF, hs, hf, ht⟩ := h
  refine wpAny_Call_Name_kw (thn ((pe_var (pos := p) hN hv hd hcd).run pins s σ H (fun v H1 => v = .ref f ∧ H1 = H) I ⟨.ref f, hs, rfl, rfl⟩) fun u s1 ⟨v, H1, I1, r1, q1⟩ => ?_)
  obtain ⟨ev, eH⟩ := q1
  subst ev
  rw [eH] at I1
  obtain rfl : u = Value.ref f := r1
  refine PySem.W.callWith_F (first := []) (at_ f F H s1.heap I1.hok hf) (thn (ha.run pos pins s1 σ H _ I1 ht) fun us s2 ⟨vs, H2, I2, r, h1, q⟩ => ⟨at_ f F H2 s2.heap I2.hok h1.fn, ?_⟩) he hpl
  show wpAny _ _ (call (.ref f) us) _ _ _
  refine wpAny_call (codeAny_mono ((Fn f F hF).go (nO f F) (hr.mono hk) I2.env0 h1 r q) fun r s' hq => ?_)
  cases r with
  | error e => exact (show False from hq).elim
  | ok fl =>
    cases fl with
    | ret u => exact I2.after hq
    | next => exact False.elim hq
    | brk => exact False.elim hq
    | cont => exact False.elim hq
end
/-! ### closures over data -/
def CloD (K : Fg) (H : Hp) (f : Addr) (O : HO) (F : NF) (fr : List Str) (cd : List PyData) : Prop := ∃ ws, CloAt H f O F fr ws ∧ ImAll K H ws cd
theorem CloD.mono {K : Fg} {H H' : Hp} {f : Addr} {O : HO} {F : NF} {fr : List Str} {cd : List PyData} (c : CloD K H f O F fr cd) (x : Same H H') : CloD K H' f O F fr cd := by
  obtain ⟨ws, a, b⟩ := c
  exact ⟨ws, a.mono x, b.mono (tk_of x)⟩
def spC (K : Fg) (R : List PyData → List PyData → PyData → Prop) : List (Option V) → Sp := fun ws vs H Q _ => ∃ (wv : List V) (cd ds : List PyData) (d : PyData), ws = wv.map some ∧ ImAll K H wv cd ∧ ImAll K H vs ds ∧ R cd ds d ∧ ∀ v H', Same H H' → Im K H' v d → Q v H'
theorem tk_hide {H : Hp} {cl : List (Str × Addr)} (k : Known H cl) : Tk H (hide H cl) := fun a xs r => by
  rcases r with r | ⟨o, r⟩
  · exact hide_f (k.out r fun _ _ z => by cases z)
  · exact hide_f (k.out r fun _ _ z => by unfold CellO at z; cases z)
theorem same_shw {H H3 : Hp} {cl : List (Str × Addr)} (x : Same (hide H cl) H3) : Same H (shw H cl H3) := fun b o e => by
  cases q : isC cl b with
  | true => rw [shw_t q]; exact e
  | false => rw [shw_f q]; exact x b o (by rw [hide_f q]; exact e)
theorem tk_shw {H H3 : Hp} {cl : List (Str × Addr)} (n : ∀ b, isC cl b = true → H3 b = none) : Tk H3 (shw H cl H3) := fun a xs r => by
  have st : ∀ {o : HO}, H3 a = some o → shw H cl H3 a = some o := fun {o} e => by
    cases q : isC cl a with
    | true => rw [n a q] at e; cases e
    | false => rw [shw_f q]; exact e
  rcases r with r | ⟨o, r⟩
  · exact (st r).trans r.symm
  · exact (st r).trans r.symm
theorem ev_clo {K : Fg} {s : L2.St} {H : Hp} {c : Dn} {O : Addr → NF → HO} {isF : NF → Prop} {fr : List Str} {i : Nat} {R : List PyData → List PyData → PyData → Prop} {E : XK} {t : TA} {f : Addr} {F : NF} {cd ds : List PyData} {d : PyData} {es : List En}
    (env : EnvD K H s c) (hi : c[i]? = some (some (.rf f))) (hF : isF F) (hc : CloD K H f (O f F) F fr cd) (ha : EvA K s H t es) (he : es = ds.map .im) (hr : R cd ds d) : EvE K s H (tClo O isF fr i (spC K R) E t) (.im d) := fun H1 x1 Q q => by
  obtain ⟨v, h1, h2⟩ := env.get hi
  obtain rfl : v = .ref f := h2
  obtain ⟨ws, c1, c2⟩ := hc
  refine ⟨f, F, ws, hF, h1, x1 _ _ c1.fn, ha H1 x1 _ fun vs H2 x2 rs => ?_⟩
  have x02 := x1.trans x2
  have c1' := c1.mono x02
  rw [he] at rs
  refine ⟨c1', ws, cd, ds, d, rfl, (c2.mono (tk_of x02)).mono (tk_hide c1'.known), (enAll_im rs).mono (tk_hide c1'.known), hr, fun v H3 x3 rv n => ?_⟩
  exact q v _ (x2.trans (same_shw x3)) (Im.mono (tk_shw n) rv)
end CB

/-! ## KC3 -/
set_option Elab.async false
set_option linter.all false
set_option maxRecDepth 100000
set_option maxHeartbeats 4000000
/-! The closures of the program: go, what worth_of makes, what are_prices hands on. -/
namespace CB
open PySem PySem.Spec L2 NdefX
local macro_rules | `(tactic| walk_at "ev1") => `(tactic| (first
  | exact ev_i | exact ev_b | exact ev_n | exact ev_s | exact ev_v (by assumption) rfl | exact ea_n
  | refine' ea_c ?_ ?_ | with_reducible refine' ev_ixT ?_ ?_ ?_ | with_reducible refine' ev_ixTl ?_ ?_ ?_
  | with_reducible refine' ev_add ?_ ?_ | with_reducible refine' ev_sub ?_ ?_
  | with_reducible refine' ev_lt ?_ ?_ | with_reducible refine' ev_le ?_ ?_ | with_reducible refine' ev_gt ?_ ?_ | with_reducible refine' ev_ge ?_ ?_
  | with_reducible refine' ev_eqI ?_ ?_ | with_reducible refine' ev_neI ?_ ?_ | with_reducible refine' ev_eqS ?_ ?_
  | with_reducible refine' ev_isN ?_ | with_reducible refine' ev_notN ?_ | with_reducible refine' ev_chain ?_ ?_ ?_ | with_reducible refine' ev_neg ?_
  | with_reducible refine' is_ii ?_ | with_reducible refine' is_ib ?_ | with_reducible refine' is_bb ?_ | with_reducible refine' is_ss ?_ | with_reducible refine' is_tt ?_
  | with_reducible refine' ev_andV ?_ ?_ | with_reducible refine' ev_orV ?_ ?_ | with_reducible refine' ev_notV ?_
  | with_reducible refine' ev_lenT ?_ | with_reducible refine' ev_min ?_ ?_ | with_reducible refine' ev_max ?_ ?_
  | with_reducible refine' et_test ?_ | with_reducible refine' et_B ?_ | with_reducible refine' et_not ?_ | with_reducible refine' et_and ?_ ?_ | with_reducible refine' et_or ?_ ?_ | exact et_yes
  | with_reducible refine' eo_some ?_ | exact eo_none | (with_reducible intro _) | rfl))
local macro_rules | `(tactic| walk_at "ev") => `(tactic| repeat' walk_at "ev1")
local macro_rules | `(tactic| walk_at "sq") => `(tactic| try dsimp only [tSeq, tNext])
local macro_rules | `(tactic| walk_at "cx") => `(tactic| try dsimp only [cxOf, Cx.nox, Cx.wish])

def exLam : Expr → Arguments × Expr × Scope × Pos
  | .Lambda a b c d => (a, b, c, d)
  | _ => (defArgs (.Pass ⟨0, 0, 0, 0⟩), .Constant .none 0 ⟨0, 0, 0, 0⟩, defScope (.Pass ⟨0, 0, 0, 0⟩), ⟨0, 0, 0, 0⟩)
def stVal : Stmt → Expr
  | .Return (some e) _ => e
  | .Assign _ e _ => e
  | _ => .Constant .none 0 ⟨0, 0, 0, 0⟩
def callArg (i : Nat) : Expr → Expr
  | .Call _ args _ _ => args.getD i (.Constant .none 0 ⟨0, 0, 0, 0⟩)
  | _ => .Constant .none 0 ⟨0, 0, 0, 0⟩
def subSt (s : Stmt) (i : Nat) : Stmt := (defBody s).getD i (.Pass ⟨0, 0, 0, 0⟩)
def wL : Arguments × Expr × Scope × Pos := exLam (stVal (subSt (top 57) 1))
def aL : Arguments × Expr × Scope × Pos := exLam (callArg 1 (stVal (subSt (top 63) 0)))
abbrev s_go : Stmt := subSt (top 60) 0
def qOf (x : Str) : Str := x ++ ".<locals>."
def wF (cl : List (Str × Addr)) (c : Addr) : NF := lamF (qOf "worth_of" ++ "<lambda>") wL.1 wL.2.2.1 cl c
def aF (cl : List (Str × Addr)) (c : Addr) : NF := lamF (qOf "are_prices" ++ "<lambda>") aL.1 aL.2.2.1 cl c
def gF (cl : List (Str × Addr)) (c : Addr) : NF := NF.of s_go "go" (qOf "long_run" ++ "go") cl c
def isW (F : NF) : Prop := ∃ cl c, F = wF cl c
def isA (F : NF) : Prop := ∃ cl c, F = aF cl c
def isG (F : NF) : Prop := ∃ cl c, F = gF cl c
theorem sc_worth_of_lambda : NScope ["told", "fresh", "p", "q", "sign"] ["told", "fresh"] ["p", "q", "sign"] wL.2.2.1 := nscope_by (by decide +kernel)
theorem sc_are_prices_lambda : NScope ["one", "setting"] ["one"] ["setting"] aL.2.2.1 := nscope_by (by decide +kernel)
theorem sc_long_run_go : NScope ["state", "fresh", "place", "setting", "told"] ["state", "fresh"] ["place", "setting"] (C8.fnScope s_go) := nscope_by (by decide +kernel)
section
variable {P : Program} {w : World} {K : Fg} {mg : Str → Option Value} {base : Heap}
theorem env_startF {H : Hp} {N : List Str} {vs wv : List V} {ds cd : List PyData} (h : ImAll K H vs ds) (g : ImAll K H wv cd) : EnvD K H (startF N vs (wv.map some)) (ds.map (fun d => some (.im d)) ++ (cd.map (fun d => some (.im d)) ++ List.replicate (N.length - ds.length - cd.length) none)) := by
  unfold startF
  rw [List.length_map, imAll_len h, imAll_len g]
  have z1 : ∀ {vs : List V} {ds : List PyData} {s : L2.St} {c : Dn}, ImAll K H vs ds → EnvD K H s c → EnvD K H (vs.map some ++ s) (ds.map (fun d => some (.im d)) ++ c) := by
    intro vs ds s c h e
    have z := env_args (imAll_en h) e
    rw [List.map_map] at z
    exact z
  exact z1 h (z1 g (env_none _))
theorem ev_run {s : L2.St} {H : Hp} {te : TE} {d : PyData} {Q : VK} (h : EvE K s H te (.im d)) (k : ∀ v H', Same H H' → Im K H' v d → Q v H') : te s H Q := h H (Same.refl _) _ k
def R_worth : List PyData → List PyData → PyData → Prop := fun cd ds d => ∃ p q sign told fresh : Int, cd = [.int p, .int q, .int sign] ∧ ds = [.int told, .int fresh] ∧ ((-(2 ^ 64) < p ∧ p < 2 ^ 64) ∧ (-(2 ^ 64) < q ∧ q < 2 ^ 64) ∧ -(2 ^ 64) < sign ∧ sign < 2 ^ 64) ∧ d = .int (sign * (q * told - p * fresh))
theorem c_worth : ∀ f F, isW F → COk P w K mg base 1 f (LamO wL.2.1 f F) F ["told", "fresh"] ["p", "q", "sign"] (spC K R_worth) := by
  rintro f F ⟨cl, c, rfl⟩
  refine cok_lam sc_worth_of_lambda (fun pm ctv us hl => match us, hl with | [_, _], _ => rfl) (fun ws vs H Q E h => by obtain ⟨_, _, _, _, _, _, e, ⟨_, _, _, _, _, _, rfl, _⟩, _⟩ := h; rw [imAll_len e]; rfl) fun A outer s H vs ws Q E hr hw h => ?_
  refine ⟨_, (pe_op op_mul (pv 4) (pe_op op_sub (pe_op op_mul (pv 3) (pv 0)) (pe_op op_mul (pv 2) (pv 1)))), ?_⟩
  obtain ⟨wv, cd, ds, d, rfl, hcd, hds, ⟨p, q, sign, told, fresh, rfl, rfl, ⟨p1, q1, s1⟩, rfl⟩, k⟩ := h
  have env := env_startF (N := ["told", "fresh", "p", "q", "sign"]) hds hcd
  try simp only [unpackE, unpackD, wipeD, unT, List.map_cons, List.map_nil, List.length_cons, List.length_nil, List.cons_append, List.nil_append, List.replicate_succ, List.replicate_zero, List.set_cons_succ, List.set_cons_zero, Nat.reduceAdd, Nat.reduceSub] at env
  refine ev_run ?_ k
  exact ev_mul (ev_v env rfl) (ev_sub (ev_mul (ev_v env rfl) (ev_v env rfl) (Or.inl q1)) (ev_mul (ev_v env rfl) (ev_v env rfl) (Or.inl p1))) (Or.inl s1)
def R_st : List PyData → List PyData → PyData → Prop := fun cd ds d => ∃ (S : Setg) (t : Stt), cd = [encS S] ∧ ds = [encT t] ∧ (S.Ok ∧ t.Ok S) ∧ d = .bool true
theorem c_st (F_is_state_of : Df P w K mg base 3 "is_state_of" ["setting", "thing"] (spD K R_state)) : ∀ f F, isA F → COk P w K mg base 4 f (LamO aL.2.1 f F) F ["one"] ["setting"] (spC K R_st) := by
  rintro f F ⟨cl, c, rfl⟩
  refine cok_lam sc_are_prices_lambda (fun pm ctv us hl => match us, hl with | [_], _ => rfl) (fun ws vs H Q E h => by obtain ⟨_, _, _, _, _, _, e, ⟨_, _, _, rfl, _⟩, _⟩ := h; rw [imAll_len e]; rfl) fun A outer s H vs ws Q E hr hw h => ?_
  refine ⟨_, (pe_df F_is_state_of (hr.mono (by decide)) rfl (pa_cons (pv 1) (pa_cons (pv 0) pa_nil))), ?_⟩
  obtain ⟨wv, cd, ds, d, rfl, hcd, hds, ⟨S, t, rfl, rfl, ⟨ok, tk⟩, rfl⟩, k⟩ := h
  have env := env_startF (N := ["one", "setting"]) hds hcd
  try simp only [unpackE, unpackD, wipeD, unT, List.map_cons, List.map_nil, List.length_cons, List.length_nil, List.cons_append, List.nil_append, List.replicate_succ, List.replicate_zero, List.set_cons_succ, List.set_cons_zero, Nat.reduceAdd, Nat.reduceSub] at env
  refine ev_run ?_ k
  exact ev_state (ev_v env rfl) (ev_v env rfl) ok tk
def R_go : List PyData → List PyData → PyData → Prop := fun cd ds d => ∃ (S : Setg) (t : Stt) (fr : Int) (place : Nat), cd = [.int (place : Int), encS S] ∧ ds = [encT t, .int fr] ∧ (S.Ok ∧ t.Ok S ∧ 0 ≤ fr ∧ place < 6) ∧ d = .tuple [.int ((stepM S t fr).get place), encT (stepM S t fr).next]
theorem c_go (F_step : Df P w K mg base 2 "step" ["setting", "state", "fresh"] (spD K R_step)) : ∀ f F, isG F → COk P w K mg base 3 f (FnO f F) F ["state", "fresh"] ["place", "setting"] (spC K R_go) := by
  rintro f F ⟨cl, c, rfl⟩
  refine cok_def (nok_of sc_long_run_go (fun doc pm ctv us hl => match us, hl with | [_, _], _ => rfl) (fun ws vs H Q E h => by obtain ⟨_, _, _, _, _, _, e, ⟨_, _, _, _, _, rfl, _⟩, _⟩ := h; rw [imAll_len e]; rfl) fun A outer s H vs ws Q E hr hf hc hw h => ?_)
  refine ⟨_, (pss_cons (ps_set (i := 4) sc_long_run_go.nd rfl (by first | exact Or.inl rfl | exact Or.inr rfl) (pe_df F_step (hr.mono (by decide)) rfl (pa_cons (pv 3) (pa_cons (pv 0) (pa_cons (pv 1) pa_nil)))))
  (pss_one (ps_ret (pe_tup (pa_cons (pe_ix ix_tup (pv 4) (pv 2) (fun _ _ => rfl)) (pa_cons (pe_ix ix_tup (pv 4) (pe_un un_neg pe_int) (fun _ _ => rfl)) pa_nil)))))), ?_⟩
  obtain ⟨wv, cd, ds, d, rfl, hcd, hds, ⟨S, t, fr, place, rfl, rfl, ⟨ok, tk, hfr, hp⟩, rfl⟩, k⟩ := h
  have env := env_startF (N := ["state", "fresh", "place", "setting", "told"]) hds hcd
  try simp only [unpackE, unpackD, wipeD, unT, List.map_cons, List.map_nil, List.length_cons, List.length_nil, List.cons_append, List.nil_append, List.replicate_succ, List.replicate_zero, List.set_cons_succ, List.set_cons_zero, Nat.reduceAdd, Nat.reduceSub] at env
  walk_at "sq"
  refine st_set env (en := .im (encTold (stepM S t fr))) (ev_step (ev_v env rfl) (ev_v env rfl) (ev_v env rfl) ok tk hfr) fun _ H1 x1 _ env => ?_
  try simp only [unpackE, unpackD, wipeD, unT, List.map_cons, List.map_nil, List.length_cons, List.length_nil, List.cons_append, List.nil_append, List.replicate_succ, List.replicate_zero, List.set_cons_succ, List.set_cons_zero, Nat.reduceAdd, Nat.reduceSub] at env
  walk_at "sq"
  refine st_retD (ev_tup2 (ev_ixT (n := place) (ds := [_, _, _, _, _, _, _]) (ev_v env rfl) (ev_v env rfl) (at_told hp _)) (ev_ixTl (ds := [_, _, _, _, _, _, _]) (ev_v env rfl) (by walk_at "ev") rfl)) fun v H2 x2 r => k v H2 (x1.trans x2) r
section
variable {X : Cx} {x : Str} {t : TA} {e : Expr} {es : List Expr} {p pos : Pos}
theorem lam_fnAt {body : Expr} : ∀ f F (H : Hp) (h : Heap), HOk P w H h → H f = some (LamO body f F) → PySem.W.FnAt f h := fun f F H h hok e => by
  obtain ⟨pm, ctv, ho⟩ := lamO_at hok e
  exact ⟨_, _, _, _, ho⟩
theorem fn_fnAt : ∀ f F (H : Hp) (h : Heap), HOk P w H h → H f = some (FnO f F) → PySem.W.FnAt f h := fun f F H h hok e => by
  obtain ⟨od, sl, doc, pm, ctv, ho⟩ := fnO_at hok e
  exact ⟨_, od, _, sl, ho⟩
abbrev tWorth (K : Fg) (i : Nat) (t : TA) : TE := tClo (LamO wL.2.1) isW ["p", "q", "sign"] i (spC K R_worth) E0 t
theorem pe_worth (hr : Room 1 X.A) (i : Nat) (ha : PA X (e :: es) t) (hN : X.N[i]? = some x := by rfl) (hv : Vis X.env.scope x := by first | exact Or.inl rfl | exact Or.inr (Or.inl rfl) | exact Or.inr (Or.inr rfl))
    (hd : (x == ("__debug__" : Str)) = false := by decide) (hcd : (x == ("__classdict__" : Str)) = false := by decide)
    (he : starEach (e :: es) X.env = (false, eval e X.env) :: starEach es X.env := by rfl) (hpl : (backTo pos (starEach es X.env)).any (·.1) = false := by rfl) : PE X (.Call (.Name x p) (e :: es) [] pos) (tWorth X.K i t) :=
  pe_clo c_worth (fun _ _ _ _ z => by unfold LamO at z; cases z) lam_fnAt hr (Nat.le_refl _) hN hv ha hd hcd he hpl
abbrev tGo (K : Fg) (i : Nat) (t : TA) : TE := tClo FnO isG ["place", "setting"] i (spC K R_go) E0 t
theorem pe_go (F_step : Df X.prog X.w X.K X.mg X.base 2 "step" ["setting", "state", "fresh"] (spD X.K R_step)) (hr : Room 3 X.A) (i : Nat) (ha : PA X (e :: es) t) (hN : X.N[i]? = some x := by rfl) (hv : Vis X.env.scope x := by first | exact Or.inl rfl | exact Or.inr (Or.inl rfl) | exact Or.inr (Or.inr rfl))
    (hd : (x == ("__debug__" : Str)) = false := by decide) (hcd : (x == ("__classdict__" : Str)) = false := by decide)
    (he : starEach (e :: es) X.env = (false, eval e X.env) :: starEach es X.env := by rfl) (hpl : (backTo pos (starEach es X.env)).any (·.1) = false := by rfl) : PE X (.Call (.Name x p) (e :: es) [] pos) (tGo X.K i t) :=
  pe_clo (c_go F_step) (fun _ _ _ _ z => by unfold FnO at z; cases z) fn_fnAt hr (Nat.le_refl _) hN hv ha hd hcd he hpl
abbrev tIsNode (K : Fg) (i : Nat) (t : TA) : TE := tClo (LamO aL.2.1) isA ["setting"] i (spC K R_st) E0 t
theorem pe_isnode (F_is_state_of : Df X.prog X.w X.K X.mg X.base 3 "is_state_of" ["setting", "thing"] (spD X.K R_state)) (hr : Room 4 X.A) (i : Nat) (ha : PA X (e :: es) t) (hN : X.N[i]? = some x := by rfl) (hv : Vis X.env.scope x := by first | exact Or.inl rfl | exact Or.inr (Or.inl rfl) | exact Or.inr (Or.inr rfl))
    (hd : (x == ("__debug__" : Str)) = false := by decide) (hcd : (x == ("__classdict__" : Str)) = false := by decide)
    (he : starEach (e :: es) X.env = (false, eval e X.env) :: starEach es X.env := by rfl) (hpl : (backTo pos (starEach es X.env)).any (·.1) = false := by rfl) : PE X (.Call (.Name x p) (e :: es) [] pos) (tIsNode X.K i t) :=
  pe_clo (c_st F_is_state_of) (fun _ _ _ _ z => by unfold LamO at z; cases z) lam_fnAt hr (Nat.le_refl _) hN hv ha hd hcd he hpl
end
end
end CB

/-! ## KB12 -/
set_option Elab.async false
set_option linter.all false
set_option maxRecDepth 100000
set_option maxHeartbeats 4000000
/-! climbed. -/
namespace CB
open PySem PySem.Spec L2 NdefX
local macro_rules | `(tactic| walk_at "ev1") => `(tactic| (first
  | exact ev_i | exact ev_b | exact ev_n | exact ev_s | exact ev_v (by assumption) rfl | exact ea_n
  | refine' ea_c ?_ ?_ | with_reducible refine' ev_ixT ?_ ?_ ?_ | with_reducible refine' ev_ixTl ?_ ?_ ?_
  | with_reducible refine' ev_add ?_ ?_ | with_reducible refine' ev_sub ?_ ?_
  | with_reducible refine' ev_lt ?_ ?_ | with_reducible refine' ev_le ?_ ?_ | with_reducible refine' ev_gt ?_ ?_ | with_reducible refine' ev_ge ?_ ?_
  | with_reducible refine' ev_eqI ?_ ?_ | with_reducible refine' ev_neI ?_ ?_ | with_reducible refine' ev_eqS ?_ ?_
  | with_reducible refine' ev_isN ?_ | with_reducible refine' ev_notN ?_ | with_reducible refine' ev_chain ?_ ?_ ?_ | with_reducible refine' ev_neg ?_
  | with_reducible refine' is_ii ?_ | with_reducible refine' is_ib ?_ | with_reducible refine' is_bb ?_ | with_reducible refine' is_ss ?_ | with_reducible refine' is_tt ?_
  | with_reducible refine' ev_andV ?_ ?_ | with_reducible refine' ev_orV ?_ ?_ | with_reducible refine' ev_notV ?_
  | with_reducible refine' ev_lenT ?_ | with_reducible refine' ev_min ?_ ?_ | with_reducible refine' ev_max ?_ ?_
  | with_reducible refine' et_test ?_ | with_reducible refine' et_B ?_ | with_reducible refine' et_not ?_ | with_reducible refine' et_and ?_ ?_ | with_reducible refine' et_or ?_ ?_ | exact et_yes
  | with_reducible refine' eo_some ?_ | exact eo_none | (with_reducible intro _) | rfl))
local macro_rules | `(tactic| walk_at "ev") => `(tactic| repeat' walk_at "ev1")
local macro_rules | `(tactic| walk_at "sq") => `(tactic| try dsimp only [tSeq, tNext])
local macro_rules | `(tactic| walk_at "cx") => `(tactic| try dsimp only [cxOf, Cx.nox, Cx.wish])

def encPr : Option Int → PyData
  | none => .none
  | some x => .int x
theorem isNone_Pr (o : Option Int) : isNone (.im (encPr o)) = o.isNone := by cases o <;> rfl
theorem pr_get' {p : BF.Pr} {v : Nat} (h : v < p.length) : (p.map encPr)[v]? = some (encPr (BF.prA p v)) := by
  rw [List.getElem?_map, BF.pr_get h]
  rfl
/-- the prices at lp, the steps at lq -/
def BAt (K : Fg) (H : Hp) (lp lq : Addr) (b : BF.B) : Prop := (∃ ps, H lp = some (.lst ps) ∧ ImAll K H ps (b.pr.map encPr)) ∧ ∃ ss, H lq = some (.lst ss) ∧ ImAll K H ss (b.st.map encSt)
theorem BAt.mono {K : Fg} {H H' : Hp} {lp lq : Addr} {b : BF.B} (h : BAt K H lp lq b) (x : Same H H') : BAt K H' lp lq b := by
  obtain ⟨⟨ps, p1, p2⟩, ss, s1, s2⟩ := h
  exact ⟨⟨ps, x _ _ p1, p2.mono (tk_of x)⟩, ss, x _ _ s1, s2.mono (tk_of x)⟩
theorem rep_flat (d : PyData) : ∀ n : Nat, (List.replicate n [d]).flatten = List.replicate n d
  | 0 => rfl
  | n + 1 => by rw [List.replicate_succ, List.flatten_cons, rep_flat d n, List.replicate_succ]; rfl
section
variable {P : Program} {w : World} {K : Fg} {mg : Str → Option Value} {base : Heap}
/-- a[n], b[n], x = d1, d2, d3 -/
theorem st_set3 {s : L2.St} {H : Hp} {te t1 t2 t3 t4 : TE} {D : Ends} {lp lq : Addr} {ps ss : List V} {n i : Nat} {d1 d2 d3 : PyData} (hp : H lp = some (.lst ps)) (hq : H lq = some (.lst ss)) (ne : lp ≠ lq)
    (h : EvE K s H te (.im (.tuple [d1, d2, d3]))) (h1 : ∀ H', Tk H H' → EvE K s H' t1 (.rf lp)) (h2 : ∀ H', Tk H H' → EvE K s H' t2 (.im (.int (n : Int)))) (h3 : ∀ H', Tk H H' → EvE K s H' t3 (.rf lq)) (h4 : ∀ H', Tk H H' → EvE K s H' t4 (.im (.int (n : Int)))) (n1 : n < ps.length) (n2 : n < ss.length)
    (k : ∀ v1 v2 v3 H1 H2 H3, Same H H1 → Same (upd H1 lp (.lst (ps.set n v1))) H2 → H3 = upd H2 lq (.lst (ss.set n v2)) → H1 lp = some (.lst ps) → H2 lq = some (.lst ss) → H2 lp = some (.lst (ps.set n v1)) → Im K H1 v1 d1 → Im K H1 v2 d2 → Im K H1 v3 d3 → D.nx (s.set i (some v3)) H3) :
    tAsg te (gTup K 3 (gCons (gSub t1 t2 rSetL) (gCons (gSub t3 t4 rSetL) (gCons (gName i) gNil)))) D s H :=
  h H (Same.refl _) _ fun v H1 x1 rv => by
    obtain ⟨a, xs, e1, e2, e3⟩ := im_tup rv
    cases e3 with
    | @cons v1 _ _ _ r1 e3 =>
      cases e3 with
      | @cons v2 _ _ _ r2 e3 =>
        cases e3 with
        | @cons v3 _ _ _ r3 e3 =>
          cases e3
          refine ⟨a, _, e1, e2, rfl, v1, _, rfl, ?_⟩
          refine h1 H1 (tk_of x1) H1 (Same.refl _) _ fun o Ha xa ro => h2 H1 (tk_of x1) Ha xa _ fun y Hb xb ry => ?_
          have x1b := (x1.trans xa).trans xb
          refine ⟨lp, ps, n, n, ro, im_int ry, x1b lp _ hp, ixN_of n1, v2, _, rfl, ?_⟩
          have tk : Tk H (upd Hb lp (.lst (ps.set n v1))) := (tk_of x1b).trans (tk_lst (x1b lp _ hp))
          refine h3 _ tk _ (Same.refl _) _ fun o2 Hc xc ro2 => h4 _ tk Hc xc _ fun y2 Hd xd ry2 => ?_
          have hq2 : Hd lq = some (.lst ss) := xd lq _ (xc lq _ (upd_other (x1b lq _ hq) (fun e => ne e.symm)))
          refine ⟨lq, ss, n, n, ro2, im_int ry2, hq2, ixN_of n2, v3, _, rfl, rfl, ?_⟩
          have tk1 := tk_of (xa.trans xb)
          exact k v1 v2 v3 Hb Hd _ x1b (xc.trans xd) rfl (x1b lp _ hp) hq2 (xd lp _ (xc lp _ upd_same)) (r1.mono tk1) (r2.mono tk1) (r3.mono tk1)
/-- i, (j, k) = a pair with a pair -/
theorem g_unpack12 {s : L2.St} {H : Hp} {c : Dn} {a : Addr} {v x : V} {d d1 d2 : PyData} {i j k : Nat} {Q : L2.St → Hp → Prop} (hq : SqT K H a [v, x]) (hv : Im K H v d) (hx : Im K H x (.tuple [d1, d2])) (env : EnvD K H s c)
    (q : ∀ s', EnvD K H s' (((c.set i (some (.im d))).set j (some (.im d1))).set k (some (.im d2))) → Q s' H) : gTup K 2 (gCons (gName i) (gCons (gTup K 2 (gCons (gName j) (gCons (gName k) gNil))) gNil)) (.ref a) s H Q := by
  obtain ⟨p, ys, e1, e2, e3⟩ := im_tup hx
  cases e3 with
  | cons r1 e3 =>
    cases e3 with
    | cons r2 e3 =>
      cases e3
      exact ⟨a, _, rfl, hq, rfl, v, _, rfl, x, _, rfl, p, _, e1, e2, rfl, _, _, rfl, _, _, rfl, rfl, rfl, q _ (((env.set (e := .im d) hv i).set (e := .im d1) r1 j).set (e := .im d2) r2 k)⟩
abbrev s_climbed : Stmt := top 56
theorem sc_climbed : FnScope ["graph", "worth", "prices", "steps", "changed", "at", "row", "number", "told", "then", "price", "found"] ["graph", "worth"] (defScope s_climbed) := ⟨rfl, rfl, rfl, by decide +kernel, rfl, by decide +kernel, by decide +kernel⟩
def spClimb (K : Fg) : Sp := fun vs H Q _ => ∃ (C g : Addr) (S : Setg) (m place : Nat) (sign p q : Int) (G : Gr) (f : Addr) (F : NF), EnAll K H [.rf g, .rf f] vs ∧ GrC K C ∧ Nonempty (GAt K H C g S m place G) ∧ G.Ok S m ∧ isW F ∧ CloD K H f (LamO wL.2.1 f F) F ["p", "q", "sign"] [.int p, .int q, .int sign] ∧
  ((-(2 ^ 64) < p ∧ p < 2 ^ 64) ∧ (-(2 ^ 64) < q ∧ q < 2 ^ 64) ∧ -(2 ^ 64) < sign ∧ sign < 2 ^ 64) ∧
  (∀ (b : BF.B) a lp ps H', Same H H' → BF.J (G.g S m place sign p q) b → BF.Acyc (G.g S m place sign p q) b.st → Closed G m (G.wt S place sign p q) b.pr → H' a = some (.tup [.ref lp, .non]) → H' lp = some (.lst ps) → ImAll K H' ps (b.pr.map encPr) → Q (.ref a) H') ∧
  (∀ (b : BF.B) a ks v H', Same H H' → BF.J (G.g S m place sign p q) b → BF.Pth b.st a a ks → ks.length ≤ G.nodes.length → Im K H' v (.tuple [.none, .tuple [.int (a : Int), encI (toI ks.reverse)]]) → Q v H')
theorem relax_none {g : BF.Gph} {b : BF.B} {v k : Nat} {x : Int} (e : BF.prA b.pr v = some x) (h : BF.prA b.pr (g.nx v k) = none) : BF.relax g b v k = ⟨b.pr.set (g.nx v k) (some (x + g.wt v k)), b.st.set (g.nx v k) (some (v, k)), true⟩ := by
  unfold BF.relax
  rw [e]
  dsimp only
  rw [h]
theorem relax_some {g : BF.Gph} {b : BF.B} {v k : Nat} {x y : Int} (e : BF.prA b.pr v = some x) (h : BF.prA b.pr (g.nx v k) = some y) : BF.relax g b v k = if y < x + g.wt v k then ⟨b.pr.set (g.nx v k) (some (x + g.wt v k)), b.st.set (g.nx v k) (some (v, k)), true⟩ else b := by
  unfold BF.relax
  rw [e]
  dsimp only
  rw [h]
theorem d_climbed (B : Bn K mg) (F_round_among : Df P w K mg base 1 "round_among" ["steps"] (spRound K)) (F : FnP K mg "climbed" s_climbed) : Df P w K mg base 3 "climbed" ["graph", "worth"] (spClimb K) := by
  refine df_of F sc_climbed (fun vs H Q E h => by obtain ⟨_, _, _, _, _, _, _, _, _, _, _, e, _⟩ := h; exact (enAll_len e).symm) (fun _ _ _ _ _ _ us hl => match us, hl with | [_, _], _ => rfl) fun f cdv A outer s H vs Q E hr h => ?_
  refine ⟨_, (pss_cons (ps_set (i := 2) sc_climbed.nd rfl (by first | exact Or.inl rfl | exact Or.inr rfl) (pe_op op_cat (pe_lst (pa_cons pe_int pa_nil)) (pe_op op_rep (pe_lst (pa_cons pe_non pa_nil)) (pe_op op_sub (pe_callB c_len rfl B.len bt_len (pa_cons (pe_fld (pv 0) rfl) pa_nil)) pe_int))))
  (pss_cons (ps_set (i := 3) sc_climbed.nd rfl (by first | exact Or.inl rfl | exact Or.inr rfl) (pe_op op_rep (pe_lst (pa_cons pe_non pa_nil)) (pe_callB c_len rfl B.len bt_len (pa_cons (pe_fld (pv 0) rfl) pa_nil))))
  (pss_cons (ps_set (i := 4) sc_climbed.nd rfl (by first | exact Or.inl rfl | exact Or.inr rfl) pe_bl)
  (pss_cons (ps_while PassesOwn.never (pt_val (pv 4)) (pss_cons (ps_set (i := 4) sc_climbed.nd rfl (by first | exact Or.inl rfl | exact Or.inr rfl) pe_bl)
  (pss_cons (ps_for PassesOwn.never rfl (pi_enum rfl B.enumerate (pa_cons (pe_fld (pv 0) rfl) pa_nil)) (pg_tup rfl (pgs_cons (pg_name (i := 5) sc_climbed.nd rfl (by first | exact Or.inl rfl | exact Or.inr rfl)) (pgs_cons (pg_name (i := 6) sc_climbed.nd rfl (by first | exact Or.inl rfl | exact Or.inr rfl)) pgs_nil))) (pss_one (ps_if (pt_cmpR o_notN (pe_ix ix_list (pv 2) (pv 5) (fun _ _ => rfl)) pe_non (nomark _)) (pss_one (ps_for PassesOwn.never rfl (pi_enum rfl B.enumerate (pa_cons (pv 6) pa_nil)) (pg_tup rfl (pgs_cons (pg_name (i := 7) sc_climbed.nd rfl (by first | exact Or.inl rfl | exact Or.inr rfl)) (pgs_cons (pg_tup rfl (pgs_cons (pg_name (i := 8) sc_climbed.nd rfl (by first | exact Or.inl rfl | exact Or.inr rfl)) (pgs_cons (pg_name (i := 9) sc_climbed.nd rfl (by first | exact Or.inl rfl | exact Or.inr rfl)) pgs_nil))) pgs_nil))) (pss_cons (ps_set (i := 10) sc_climbed.nd rfl (by first | exact Or.inl rfl | exact Or.inr rfl) (pe_op op_add (pe_ix ix_list (pv 2) (pv 5) (fun _ _ => rfl)) (pe_worth (hr.mono (by decide)) 1 (pa_cons (pv 8) (pa_cons (pv 7) pa_nil)))))
  (pss_one (ps_if (PW.pt (pw_or (pt_cmpR o_isN (pe_ix ix_list (pv 2) (pv 9) (fun _ _ => rfl)) pe_non (nomark _)) (pw_or1 (pt_cmpR op_gt (pv 10) (pe_ix ix_list (pv 2) (pv 9) (fun _ _ => rfl)) (nomark _))))) (pss_one (ps_asg (pe_tup (pa_cons (pv 10) (pa_cons (pe_tup (pa_cons (pv 5) (pa_cons (pv 7) pa_nil))) (pa_cons pe_bl pa_nil)))) (pg_tup rfl (pgs_cons (pg_sub (pv 2) (pv 9) set_list) (pgs_cons (pg_sub (pv 3) (pv 9) set_list) (pgs_cons (pg_name (i := 4) sc_climbed.nd rfl (by first | exact Or.inl rfl | exact Or.inr rfl)) pgs_nil)))))) pss_nil))))) pss_nil)))
  (pss_cons (ps_set (i := 11) sc_climbed.nd rfl (by first | exact Or.inl rfl | exact Or.inr rfl) (pe_df F_round_among (hr.mono (by decide)) rfl (pa_cons (pv 3) pa_nil)))
  (pss_one (ps_if (pt_cmpR o_notN (pv 11) pe_non (nomark _)) (pss_one (ps_ret (pe_tup (pa_cons pe_non (pa_cons (pv 11) pa_nil))))) pss_nil))))))
  (pss_one (ps_ret (pe_tup (pa_cons (pv 2) (pa_cons pe_non pa_nil))))))))), ?_⟩
  obtain ⟨C, g, S, m, place, sign, p, q, G, fw, Fw, hen, gc, ⟨go⟩, ok, hF, hclo, hb, kP, kF⟩ := h
  have env := env_start (N := ["graph", "worth", "prices", "steps", "changed", "at", "row", "number", "told", "then", "price", "found"]) hen
  try simp only [unpackE, unpackD, wipeD, unT, List.map_cons, List.map_nil, List.length_cons, List.length_nil, List.cons_append, List.nil_append, List.replicate_succ, List.replicate_zero, List.set_cons_succ, List.set_cons_zero, Nat.reduceAdd, Nat.reduceSub] at env
  walk_at "cx"
  walk_at "sq"
  have hlen := ok.len
  have hpos := ok.pos
  have hns : go.ns.length = G.nodes.length := by rw [imAll_len go.en, List.length_map]
  have okg : (G.g S m place sign p q).Ok := ok.g
  have hgn : (G.g S m place sign p q).n = G.nodes.length := rfl
  have hgm : (G.g S m place sign p q).m = m := rfl
  have hgx : (G.g S m place sign p q).nx = G.nx := rfl
  have hgw : (G.g S m place sign p q).wt = G.wt S place sign p q := rfl
  generalize eg : G.g S m place sign p q = gg at *
  -- prices
  refine st_setL env (EvL.is (el_catLL (el_lst (ds := [.int 0]) (ea_c ev_i ea_n) (by show 1 ≤ sizeLine; decide)) (el_rep (ds := [.none]) (j := ((G.nodes.length - 1 : Nat) : Int)) (el_lst (ds := [.none]) (ea_c ev_n ea_n) (by show 1 ≤ sizeLine; decide)) (EvE.is (ev_sub (ev_lenL (SqL.of go.hn) (ev_nodes go gc (ev_v env rfl))) ev_i) (by rw [hns]; congr 2; omega)) (by omega) (by omega) (by rw [sizeLine_eq]; show 1 * _ ≤ _; omega)) ?_) (?_ : _ = (BF.b0 G.nodes.length).pr.map encPr)) fun lp ps H1 x1 nlp hlp hps env => ?_
  · rw [sizeLine_eq, List.length_flatten, List.map_replicate]
    simp
    omega
  · show [PyData.int 0] ++ _ = (some 0 :: List.replicate (G.nodes.length - 1) none).map encPr
    rw [List.map_cons, List.map_replicate, Int.toNat_natCast, rep_flat]
    rfl
  try simp only [unpackE, unpackD, wipeD, unT, List.map_cons, List.map_nil, List.length_cons, List.length_nil, List.cons_append, List.nil_append, List.replicate_succ, List.replicate_zero, List.set_cons_succ, List.set_cons_zero, Nat.reduceAdd, Nat.reduceSub] at env
  walk_at "sq"
  -- steps
  refine st_setL env (EvL.is (el_rep (ds := [.none]) (j := ((G.nodes.length : Nat) : Int)) (el_lst (ds := [.none]) (ea_c ev_n ea_n) (by show 1 ≤ sizeLine; decide)) (EvE.is (ev_lenL (SqL.of (go.mono x1).hn) (ev_nodes (go.mono x1) gc (ev_v env rfl))) (by rw [← hns]; rfl)) (by omega) (by omega) (by rw [sizeLine_eq]; show 1 * _ ≤ _; omega)) (?_ : _ = (BF.b0 G.nodes.length).st.map encSt)) fun lq ss H2 x2 nlq hlq hss env => ?_
  · show _ = (List.replicate G.nodes.length none).map encSt
    rw [List.map_replicate, Int.toNat_natCast, rep_flat]
    rfl
  try simp only [unpackE, unpackD, wipeD, unT, List.map_cons, List.map_nil, List.length_cons, List.length_nil, List.cons_append, List.nil_append, List.replicate_succ, List.replicate_zero, List.set_cons_succ, List.set_cons_zero, Nat.reduceAdd, Nat.reduceSub] at env
  walk_at "sq"
  have x12 := x1.trans x2
  have npq : lp ≠ lq := fun e => by rw [e, nlq] at hlp; cases hlp
  have nlqH : H lq = none := x1.free nlq
  have hb0 : BAt K H2 lp lq (BF.b0 G.nodes.length) := ⟨⟨ps, x2 _ _ hlp, hps.mono (tk_of x2)⟩, ss, hlq, hss⟩
  refine st_set env (en := .im (.bool true)) ev_b fun _ H3 x3 _ env => ?_
  try simp only [unpackE, unpackD, wipeD, unT, List.map_cons, List.map_nil, List.length_cons, List.length_nil, List.cons_append, List.nil_append, List.replicate_succ, List.replicate_zero, List.set_cons_succ, List.set_cons_zero, Nat.reduceAdd, Nat.reduceSub] at env
  walk_at "sq"
  refine st_whileG (K := K) (α := BF.B) (fun b s' H' => Same H H' ∧ BF.J gg b ∧ BF.Acyc gg b.st ∧ (b.ch = false → Closed G m (G.wt S place sign p q) b.pr) ∧ BAt K H' lp lq b ∧
      EnvD K H' s' [some (.rf g), some (.rf fw), some (.rf lp), some (.rf lq), some (.im (.bool b.ch)), none, none, none, none, none, none, none])
    (fun b => 2 * BF.muP (gg.W * gg.n) b.pr + if b.ch = true then 1 else 0) (fun b => b.ch) (BF.b0 gg.n)
    ⟨x12.trans x3, BF.b0_ok okg, BF.b0_acyc gg, (fun h => by cases h), by rw [hgn]; exact hb0.mono x3, env⟩ ?_ ?_ ?_ ?_
  · rintro b s' H' ⟨_, _, _, _, _, env⟩
    exact et_B (ev_v env rfl)
  · rintro b s' H' H4 ⟨q1, q2, q3, q4, q5, env⟩ x4
    exact ⟨q1.trans x4, q2, q3, q4, q5.mono x4, env.mono (tk_of x4)⟩
  · rintro b s' H' ⟨q1, q2, q3, q4, q5, env⟩ hch
    refine st_set env (en := .im (.bool false)) ev_b fun _ H4 x4 _ env => ?_
    try simp only [unpackE, unpackD, wipeD, unT, List.map_cons, List.map_nil, List.length_cons, List.length_nil, List.cons_append, List.nil_append, List.replicate_succ, List.replicate_zero, List.set_cons_succ, List.set_cons_zero, Nat.reduceAdd, Nat.reduceSub] at env
    walk_at "sq"
    have q14 := q1.trans x4
    have jb : BF.J gg { b with ch := false } := q2.ch false
    generalize eb : ({ b with ch := false } : BF.B) = bb at *
    have ebp : bb.pr = b.pr := by rw [← eb]
    have ebs : bb.st = b.st := by rw [← eb]
    have ebc : bb.ch = false := by rw [← eb]
    have q5b : BAt K H4 lp lq bb := by
      have := q5.mono x4
      unfold BAt at *
      rw [ebp, ebs]
      exact this
    refine st_forE (K := K) (xs := go.rs.map V.ref) (ev_edges (go.mono q14) gc (ev_v env rfl))
      (fun j s' H' => Same H H' ∧ BAt K H' lp lq (BF.passM gg bb j) ∧ EnvD K H' s' [some (.rf g), some (.rf fw), some (.rf lp), some (.rf lq), some (.im (.bool (BF.passM gg bb j).ch)), none, none, none, none, none, none, none])
      (fun H5 x5 => ⟨q14.trans x5, q5b.mono x5, by show EnvD K H5 _ [_, _, _, _, some (.im (.bool bb.ch)), _, _, _, _, _, _, _]; rw [ebc]; exact env.mono (tk_of x5)⟩)
      (fun i s' H' hp => SqL.of (go.mono hp.1).he) ?_ ?_
    · rintro j x s' H' T hx ⟨p1, p2, env⟩ nT
      have hrl : go.rs.length = G.nodes.length := by rw [go.ee.1]; unfold edgesD; rw [List.length_map, List.length_range]
      rw [List.getElem?_map] at hx
      cases er : go.rs[j]? with
      | none => rw [er] at hx; cases hx
      | some r =>
        rw [er] at hx
        obtain rfl : V.ref r = x := Option.some.inj hx
        have hj : j < G.nodes.length := by rw [← hrl]; exact (List.getElem?_eq_some_iff.mp er).1
        obtain ⟨jj, up, _⟩ := BF.pass_ok okg jb j (by rw [hgn]; omega)
        have xT := same_new (o := .tup [.int (j : Int), .ref r]) nT
        refine g_unpack (is := [5, 6]) (es := [.im (.int (j : Int)), .rf r]) (SqT.of upd_same) (.cons (.int _) (.cons rfl .nil)) rfl rfl (env.mono (tk_of xT)) fun s5 env => ?_
        try simp only [unpackE, unpackD, wipeD, unT, List.map_cons, List.map_nil, List.length_cons, List.length_nil, List.cons_append, List.nil_append, List.replicate_succ, List.replicate_zero, List.set_cons_succ, List.set_cons_zero, Nat.reduceAdd, Nat.reduceSub] at env
        have p1T := p1.trans xT
        have p2T := p2.mono xT
        obtain ⟨⟨ps1, a1, a2⟩, ss1, b1, b2⟩ := p2T
        have hpl : (BF.passM gg bb j).pr.length = G.nodes.length := by rw [jj.lp, hgn]
        refine st_if env (b := (BF.prA (BF.passM gg bb j).pr j).isSome) (EvT.is (et_test (ev_notN (ev_ixL (n := j) (SqL.of a1) a2 (ev_v env rfl) (ev_v env rfl) (pr_get' (by omega))))) (by rw [isNone_Pr]; cases BF.prA (BF.passM gg bb j).pr j <;> rfl)) (fun h H6 x6 env => ?_) (fun h H6 x6 env => ?_)
        · obtain ⟨x0, ex0⟩ := Option.isSome_iff_exists.mp h
          have epass : BF.passM gg bb (j + 1) = BF.rowM gg (BF.passM gg bb j) j (m + 1) := by
            conv => lhs; unfold BF.passM
            rw [ex0, hgm]
          generalize ebj : BF.passM gg bb j = bj at *
          have p16 := p1T.trans x6
          obtain ⟨xsr, hr1, hr2⟩ := (go.mono p16).ee.2 j r (rowD S m place G j) er (edgesD_get hj)
          have hxl : xsr.length = m + 1 := by rw [imAll_len hr2]; unfold rowD; rw [List.length_map, List.length_range]
          refine st_forE (K := K) (xs := xsr) (ev_v env rfl)
            (fun i s' H' => Same H H' ∧ BAt K H' lp lq (BF.rowM gg bj j i) ∧ (H' r = some (.lst xsr) ∧ ImAll K H' xsr (rowD S m place G j)) ∧ EnvD K H' s' [some (.rf g), some (.rf fw), some (.rf lp), some (.rf lq), some (.im (.bool (BF.rowM gg bj j i).ch)), some (.im (.int (j : Int))), some (.rf r), none, none, none, none, none])
            (fun H7 x7 => ⟨p16.trans x7, BAt.mono ⟨⟨ps1, a1, a2⟩, ss1, b1, b2⟩ (x6.trans x7), ⟨x7 _ _ hr1, hr2.mono (tk_of x7)⟩, env.mono (tk_of x7)⟩)
            (fun i s' H' hp => SqL.of hp.2.2.1.1) ?_ ?_
          · rintro i y s' H' T2 hy ⟨r1, r2, ⟨r3, r3b⟩, env⟩ nT2
            have hi : i < m + 1 := by rw [← hxl]; exact (List.getElem?_eq_some_iff.mp hy).1
            obtain ⟨dy, hd1, hd2⟩ := imAll_get' r3b hy
            rw [rowD_get (by omega)] at hd1
            obtain rfl := Option.some.inj hd1
            have xT2 := same_new (o := .tup [.int (i : Int), y]) nT2
            refine g_unpack12 (v := .int (i : Int)) (SqT.of upd_same) (.int _) (hd2.mono (tk_of xT2)) (env.mono (tk_of xT2)) fun s6 env => ?_
            try simp only [unpackE, unpackD, wipeD, unT, List.map_cons, List.map_nil, List.length_cons, List.length_nil, List.cons_append, List.nil_append, List.replicate_succ, List.replicate_zero, List.set_cons_succ, List.set_cons_zero, Nat.reduceAdd, Nat.reduceSub] at env
            have r1T := r1.trans xT2
            obtain ⟨ji, upi, _⟩ := BF.row_ok okg jj (show j < gg.n by rw [hgn]; exact hj) i (by rw [hgm]; omega)
            obtain ⟨x, ex, _⟩ := upi.le j x0 ex0
            have erow : BF.rowM gg bj j (i + 1) = BF.relax gg (BF.rowM gg bj j i) j i := rfl
            rw [erow]
            generalize ebi : BF.rowM gg bj j i = bi at *
            have hpi : bi.pr.length = G.nodes.length := by rw [ji.lp, hgn]
            have hsi : bi.st.length = G.nodes.length := by rw [ji.ls, hgn]
            have hnx : gg.nx j i = G.nx j i := by rw [hgx]
            have hwt : gg.wt j i = G.wt S place sign p q j i := by rw [hgw]
            have hnl : G.nx j i < G.nodes.length := (ok.nx_ok hj (show i ≤ m by omega)).1
            obtain ⟨⟨ps2, c1, c2⟩, ss2, d1, d2⟩ := r2.mono xT2
            have hp2 : ps2.length = G.nodes.length := by rw [imAll_len c2, List.length_map, hpi]
            have hs2 : ss2.length = G.nodes.length := by rw [imAll_len d2, List.length_map, hsi]
            walk_at "sq"
            refine st_set env (en := .im (.int (x + G.wt S place sign p q j i))) (ev_add (ev_ixL (n := j) (d := .int x) (SqL.of c1) c2 (ev_v env rfl) (ev_v env rfl) (by rw [pr_get' (by omega), ex]; rfl)) (ev_clo (ds := [.int (G.told S place j i), .int (i : Int)]) (d := .int (G.wt S place sign p q j i)) env rfl hF (hclo.mono r1T) (ea_c (ev_v env rfl) (ea_c (ev_v env rfl) ea_n)) rfl ⟨p, q, sign, _, _, rfl, rfl, hb, rfl⟩)) fun _ H8 x8 _ env => ?_
            try simp only [unpackE, unpackD, wipeD, unT, List.map_cons, List.map_nil, List.length_cons, List.length_nil, List.cons_append, List.nil_append, List.replicate_succ, List.replicate_zero, List.set_cons_succ, List.set_cons_zero, Nat.reduceAdd, Nat.reduceSub] at env
            walk_at "sq"
            have r18 := r1T.trans x8
            -- the write
            have wr : ∀ (s9 : L2.St) (H9 : Hp), Same H8 H9 → EnvD K H9 s9 [some (.rf g), some (.rf fw), some (.rf lp), some (.rf lq), some (.im (.bool bi.ch)), some (.im (.int (j : Int))), some (.rf r), some (.im (.int (i : Int))), some (.im (.int (G.told S place j i))), some (.im (.int (G.nx j i : Nat))), some (.im (.int (x + G.wt S place sign p q j i))), none] →
                ∀ D : Ends, (∀ s' H', (Same H H' ∧ BAt K H' lp lq ⟨bi.pr.set (gg.nx j i) (some (x + gg.wt j i)), bi.st.set (gg.nx j i) (some (j, i)), true⟩ ∧ (H' r = some (.lst xsr) ∧ ImAll K H' xsr (rowD S m place G j)) ∧ EnvD K H' s' [some (.rf g), some (.rf fw), some (.rf lp), some (.rf lq), some (.im (.bool true)), some (.im (.int (j : Int))), some (.rf r), none, none, none, none, none]) → D.nx s' H') →
                tAsg (tTup (tCons (tVar 10) (tCons (tTup (tCons (tVar 5) (tCons (tVar 7) tNil))) (tCons (tC (.bl true)) tNil)))) (gTup K 3 (gCons (gSub (tVar 2) (tVar 9) rSetL) (gCons (gSub (tVar 3) (tVar 9) rSetL) (gCons (gName 4) gNil)))) D s9 H9 := by
              intro s9 H9 x9 env D kD
              have x89 := x8.trans x9
              refine st_set3 (x89 _ _ c1) (x89 _ _ d1) npq (ev_tup (ds := [.int (x + G.wt S place sign p q j i), .tuple [.int (j : Int), .int (i : Int)], .bool true]) (ea_c (ev_v env rfl) (ea_c (ev_tup2 (ev_v env rfl) (ev_v env rfl)) (ea_c ev_b ea_n))) (by show 3 ≤ sizeLine; decide))
                (fun H' tk => ev_v (env.mono tk) rfl) (fun H' tk => ev_v (env.mono tk) rfl) (fun H' tk => ev_v (env.mono tk) rfl) (fun H' tk => ev_v (env.mono tk) rfl) (by omega) (by omega) fun v1 v2 v3 Ha Hb Hc xa xb ec ha1 hb1 hb2 i1 i2 i3 => ?_
              have hca := x89.trans xa
              have sa : Same H (upd Ha lp (.lst (ps2.set (G.nx j i) v1))) := same_upd nlp (r1T.trans hca)
              have sb := sa.trans xb
              have sc : Same H Hc := by rw [ec]; exact same_upd nlqH sb
              have tka : Tk Ha (upd Ha lp (.lst (ps2.set (G.nx j i) v1))) := tk_lst ha1
              have tkb : Tk Hb Hc := by rw [ec]; exact tk_lst hb1
              have tkc := (tka.trans (tk_of xb)).trans tkb
              have tkH := ((tk_of hca).trans tkc)
              rw [im_bl i3]
              obtain ⟨xsr', hr1', hr2'⟩ := (go.mono sc).ee.2 j r (rowD S m place G j) er (edgesD_get hj)
              refine kD _ _ ⟨sc, ⟨⟨_, by rw [ec]; exact upd_other hb2 npq, ?_⟩, _, by rw [ec]; exact upd_same, ?_⟩, ?_, ?_⟩
              · show ImAll K Hc (ps2.set (G.nx j i) v1) ((bi.pr.set (gg.nx j i) (some (x + gg.wt j i))).map encPr)
                rw [List.map_set, hnx, hwt]
                exact imAll_set (c2.mono tkH) (Im.mono tkc i1) _
              · show ImAll K Hc (ss2.set (G.nx j i) v2) ((bi.st.set (gg.nx j i) (some (j, i))).map encSt)
                rw [List.map_set, hnx]
                exact imAll_set (d2.mono tkH) (Im.mono tkc i2) _
              · have hrr : Hc r = some (.lst xsr) := by
                  have z := (go.mono (p16)).ee
                  have : H' r = some (.lst xsr) := r3
                  have h9 : Ha r = some (.lst xsr) := hca _ _ (xT2 _ _ this)
                  have n1 : r ≠ lp := fun e => by
                    have hrH : ∃ xx, H r = some (.lst xx) := by
                      obtain ⟨xx, z1, _⟩ := go.ee.2 j r (rowD S m place G j) er (edgesD_get hj)
                      exact ⟨xx, z1⟩
                    obtain ⟨xx, z1⟩ := hrH
                    rw [e, nlp] at z1
                    cases z1
                  have n2 : r ≠ lq := fun e => by
                    obtain ⟨xx, z1, _⟩ := go.ee.2 j r (rowD S m place G j) er (edgesD_get hj)
                    rw [e, nlqH] at z1
                    cases z1
                  rw [ec]
                  exact upd_other (xb _ _ (upd_other h9 n1)) n2
                exact ⟨hrr, r3b.mono ((tk_of (xT2.trans hca)).trans tkc)⟩
              · have e2 := (env.mono ((tk_of xa).trans tkc)).set (e := .im (.bool true)) (.bl true) 4
                exact e2.weak rfl fun i e he => by
                  match i with
                  | 0 | 1 | 2 | 3 | 4 | 5 | 6 => exact he
                  | 7 | 8 | 9 | 10 | 11 => cases he
            have keep : ∀ (s9 : L2.St) (H9 : Hp), Same H8 H9 → EnvD K H9 s9 [some (.rf g), some (.rf fw), some (.rf lp), some (.rf lq), some (.im (.bool bi.ch)), some (.im (.int (j : Int))), some (.rf r), some (.im (.int (i : Int))), some (.im (.int (G.told S place j i))), some (.im (.int (G.nx j i : Nat))), some (.im (.int (x + G.wt S place sign p q j i))), none] →
                (Same H H9 ∧ BAt K H9 lp lq bi ∧ (H9 r = some (.lst xsr) ∧ ImAll K H9 xsr (rowD S m place G j)) ∧ EnvD K H9 s9 [some (.rf g), some (.rf fw), some (.rf lp), some (.rf lq), some (.im (.bool bi.ch)), some (.im (.int (j : Int))), some (.rf r), none, none, none, none, none]) := fun s9 H9 x9 env =>
              ⟨r18.trans x9, BAt.mono ⟨⟨ps2, c1, c2⟩, ss2, d1, d2⟩ (x8.trans x9), ⟨x9 _ _ (x8 _ _ (xT2 _ _ r3)), r3b.mono (tk_of ((xT2.trans x8).trans x9))⟩, env.weak rfl fun i e he => by
                match i with
                | 0 | 1 | 2 | 3 | 4 | 5 | 6 => exact he
                | 7 | 8 | 9 | 10 | 11 => cases he⟩
            have hget : (bi.pr.map encPr)[G.nx j i]? = some (encPr (BF.prA bi.pr (G.nx j i))) := pr_get' (by omega)
            cases et : BF.prA bi.pr (G.nx j i) with
            | none =>
              rw [relax_none ex (by rw [hnx]; exact et)]
              refine st_if env (b := true) (EvT.is (et_or (et_test (ev_isN (ev_ixL (n := G.nx j i) (SqL.of (x8 _ _ c1)) (c2.mono (tk_of x8)) (ev_v env rfl) (ev_v env rfl) hget))) (b' := true) fun h => by rw [isNone_Pr, et] at h; cases h) (by rw [isNone_Pr, et]; rfl)) (fun _ H9 x9 env => ?_) (fun h => by cases h)
              exact wr _ _ x9 env _ fun s' H' z => z
            | some y0 =>
              rw [relax_some ex (by rw [hnx]; exact et)]
              refine st_if env (b := decide (y0 < x + G.wt S place sign p q j i)) (EvT.is (et_or (et_test (ev_isN (ev_ixL (n := G.nx j i) (SqL.of (x8 _ _ c1)) (c2.mono (tk_of x8)) (ev_v env rfl) (ev_v env rfl) hget))) fun _ => et_test (ev_gt (ev_v env rfl) (ev_ixL (n := G.nx j i) (d := .int y0) (SqL.of (x8 _ _ c1)) (c2.mono (tk_of x8)) (ev_v env rfl) (ev_v env rfl) (by rw [hget, et]; rfl)))) (by rw [isNone_Pr, et]; rfl)) (fun h H9 x9 env => ?_) (fun h H9 x9 env => ?_)
              · rw [if_pos (by rw [hwt]; exact of_decide_eq_true h)]
                exact wr _ _ x9 env _ fun s' H' z => z
              · rw [if_neg (by rw [hwt]; exact of_decide_eq_false h)]
                exact keep _ _ x9 env
          · rintro s' H' ⟨r1, r2, _, env⟩
            rw [hxl, ← epass] at r2 env
            exact ⟨r1, r2, env.weak rfl fun i e he => by
              match i with
              | 0 | 1 | 2 | 3 | 4 => exact he
              | 5 | 6 | 7 | 8 | 9 | 10 | 11 => cases he⟩
        · have epass : BF.passM gg bb (j + 1) = BF.passM gg bb j := by
            conv => lhs; unfold BF.passM
            cases e : BF.prA (BF.passM gg bb j).pr j with
            | none => rfl
            | some z => rw [e] at h; cases h
          rw [epass]
          exact ⟨p1T.trans x6, BAt.mono ⟨⟨ps1, a1, a2⟩, ss1, b1, b2⟩ x6, env.weak rfl fun i e he => by
            match i with
            | 0 | 1 | 2 | 3 | 4 => exact he
            | 5 | 6 | 7 | 8 | 9 | 10 | 11 => cases he⟩
    · rintro s' H' ⟨p1, p2, env⟩
      have hrl : (go.rs.map V.ref).length = gg.n := by rw [List.length_map, go.ee.1, hgn]; unfold edgesD; rw [List.length_map, List.length_range]
      rw [hrl] at p2 env
      obtain ⟨jn, upn, cln⟩ := BF.pass_ok okg jb gg.n (Nat.le_refl _)
      generalize ebn : BF.passM gg bb gg.n = bn at *
      walk_at "sq"
      obtain ⟨⟨ps1, a1, a2⟩, ss1, b1, b2⟩ := p2
      have hsl : bn.st.length = G.nodes.length := by rw [jn.ls, hgn]
      refine st_callG (es := [.rf lq]) (ea_c (ev_v env rfl) ea_n) fun vs5 H5 x5 r5 => ?_
      obtain ⟨v5, e5, r5'⟩ := enAll1 r5
      subst e5
      obtain rfl : v5 = .ref lq := r5'
      have p15 := p1.trans x5
      refine ⟨lq, ss1, bn.st, rfl, x5 _ _ b1, b2.mono (tk_of x5), fun v u k h => by rw [hsl, ← hgn]; exact (jn.step v u k h).1, by rw [hsl]; exact hlen, fun fin H6 x6 => ?_, fun a ks v H6 x6 pth hkl ha rv => ?_⟩
      · have env := (env.mono (tk_of (x5.trans x6))).set (e := .im .none) .non 11
        try simp only [unpackE, unpackD, wipeD, unT, List.map_cons, List.map_nil, List.length_cons, List.length_nil, List.cons_append, List.nil_append, List.replicate_succ, List.replicate_zero, List.set_cons_succ, List.set_cons_zero, Nat.reduceAdd, Nat.reduceSub] at env
        dsimp only [gName]
        walk_at "sq"
        refine st_if env (b := false) (EvT.is (et_test (ev_notN (ev_v env rfl))) rfl) (fun h => by cases h) fun _ H7 x7 env => ?_
        have ac : BF.Acyc gg bn.st := fun v hv => fin v (by rw [hsl, ← hgn]; exact hv)
        have hmu : 2 * BF.muP (gg.W * gg.n) bn.pr + (if bn.ch = true then 1 else 0) < 2 * BF.muP (gg.W * gg.n) b.pr + if b.ch = true then 1 else 0 := by
          rw [if_pos hch]
          cases ec : bn.ch with
          | true =>
            have := BF.mu_lt okg jb (by rw [ebs]; exact q3) jn ac upn ebc ec
            rw [ebp] at this
            rw [if_pos rfl]
            omega
          | false =>
            have := upn.same ec
            rw [if_neg (by decide), this, ebp]
            omega
        refine ⟨bn, hmu, (p15.trans x6).trans x7, jn, ac, fun hc v hv k hk x hx => ?_, BAt.mono ⟨⟨ps1, a1, a2⟩, ss1, b1, b2⟩ ((x5.trans x6).trans x7), env.weak rfl fun i e he => by
          match i with
          | 0 | 1 | 2 | 3 | 4 => exact he
          | 5 | 6 | 7 | 8 | 9 | 10 | 11 => cases he⟩
        have esame := upn.same hc
        have := cln hc v (by rw [hgn]; exact hv) k (by rw [hgm]; exact hk) x (by rw [← esame]; exact hx)
        rw [← esame, hgx, hgw] at this
        exact this
      · have env := (env.mono (tk_of (x5.trans x6))).set (e := .im (.tuple [.int (a : Int), encI (toI ks.reverse)])) rv 11
        try simp only [unpackE, unpackD, wipeD, unT, List.map_cons, List.map_nil, List.length_cons, List.length_nil, List.cons_append, List.nil_append, List.replicate_succ, List.replicate_zero, List.set_cons_succ, List.set_cons_zero, Nat.reduceAdd, Nat.reduceSub] at env
        dsimp only [gName]
        walk_at "sq"
        refine st_if env (b := true) (EvT.is (et_test (ev_notN (ev_v env rfl))) rfl) (fun _ H7 x7 env => ?_) (fun h => by cases h)
        walk_at "sq"
        exact st_retD (ev_tup2 ev_n (ev_v env rfl)) fun v H8 x8 r => kF bn a ks v H8 (((p15.trans x6).trans x7).trans x8) jn pth (by rw [← hsl]; exact hkl) r
  · rintro b s' H' ⟨q1, q2, q3, q4, ⟨⟨ps1, a1, a2⟩, _⟩, env⟩ hch
    walk_at "sq"
    refine st_retT (es := [.rf lp, .im .none]) (ea_c (ev_v env rfl) (ea_c ev_n ea_n)) (by show 2 ≤ sizeLine; decide) fun a vs H4 x4 ha hv => ?_
    obtain ⟨v, w', e, r1, r2⟩ := enAll2 hv
    obtain rfl : v = .ref lp := r1
    rw [e, im_non r2] at ha
    exact kP b a lp ps1 H4 (q1.trans x4) q2 q3 (q4 hch) ha (x4 _ _ a1) (a2.mono (tk_of x4))
end
end CB

/-! ## KC4 -/
set_option Elab.async false
set_option linter.all false
set_option maxRecDepth 100000
set_option maxHeartbeats 2000000
/-! A frame lends its cells: to a callee, and for good at its end. -/
namespace CB
open PySem PySem.Spec PyProof.Rows L2 LamX NdefX
section
variable {X : Cx} {pins : List (Addr × Obj)} {σ : L2.St} {H : Hp} {s : Shared}
/-- the captured names of a function, as the running frame has them -/
structure Own (X : Cx) (cl : List (Str × Addr)) (fr : List Str) (js : List Nat) : Prop where
  fn : ∀ x, X.fn x = true
  nd : X.N.Nodup
  sub : ∀ p, p ∈ cl → X.env.cells.lookup p.1 = some p.2 ∧ p.1 ∈ fr
  kin : ∀ y, y ∈ fr → X.env.scope.names.lookup y = some .cell ∨ X.env.scope.names.lookup y = some .free
  sup : ∀ y, y ∈ fr → ∃ c, cl.lookup y = some c
  at_ : js.map (fun j => X.N[j]?) = fr.map some
theorem cell_look (I : Inv X pins σ H s) {j : Nat} {y : Str} {v : V} {c : Addr} (hj : X.N[j]? = some y) (hv : σ[j]? = some (some v)) (hk : X.env.scope.names.lookup y = some .cell ∨ X.env.scope.names.lookup y = some .free) (hc : X.env.cells.lookup y = some c) : ∃ ob u, s.heap.get? c = some ob ∧ ob.data = .cell (some u) ∧ RelV v u := by
  obtain ⟨m, hn, hl⟩ := I.loc
  obtain ⟨u, r, l⟩ := hl j y v hj hv (hk.elim (fun z => .inr (.inl z)) fun z => .inr (.inr z))
  rcases l with ⟨z, _⟩ | ⟨_, a', ha', o, ho, hd⟩
  · have z' : X.env.scope.names.lookup y = some .local := z
    rcases hk with k | k <;> rw [k] at z' <;> cases z'
  · rw [hc] at ha'
    cases ha'
    exact ⟨o, u, ho, hd, r⟩
theorem cell_far (I : Inv X pins σ H s) (hfn : ∀ x, X.fn x = true) {y : Str} {c : Addr} (hc : X.env.cells.lookup y = some c) : c ∉ frs X.stack ∧ c ∉ frs X.outer ∧ X.base.get? c = none := by
  have hge := I.ok.cab y c (hfn y) hc
  have h2 : c ∉ frs X.outer := fun hb => by
    obtain ⟨_, o, ho, _⟩ := I.ok.funs.mem hb
    exact Nat.lt_irrefl _ (Nat.lt_of_lt_of_le (Heap.lt_size ho) hge)
  refine ⟨fun hb => ?_, h2, ?_⟩
  · rcases List.mem_cons.mp (I.stkSub c hb) with e | e
    · exact I.cne y c hc e
    · exact h2 e
  · exact Heap.get?_none_of_le (Nat.le_trans I.ok.bsz hge)
/-- slot j of the frame -/
theorem lentOf (I : Inv X pins σ H s) (hfn : ∀ x, X.fn x = true) : ∀ (cl : List (Str × Addr)), (∀ p, p ∈ cl → X.env.cells.lookup p.1 = some p.2 ∧ (X.env.scope.names.lookup p.1 = some .cell ∨ X.env.scope.names.lookup p.1 = some .free) ∧ ∃ (j : Nat) (v : V), X.N[j]? = some p.1 ∧ σ[j]? = some (some v)) →
    ∃ L : List (Addr × HO), Lent X.prog X.w X.base X.stack s H L ∧ Lent X.prog X.w X.base X.outer s H L ∧ (∀ b o, L.lookup b = some o → ∃ p, p ∈ cl ∧ p.2 = b) ∧ ∀ p, p ∈ cl → ∃ (j : Nat) (v : V) (ob : Obj), X.N[j]? = some p.1 ∧ σ[j]? = some (some v) ∧ L.lookup p.2 = some (.frz ob (CellO p.2 v))
  | [], _ => ⟨[], (fun b o e => by cases e), (fun b o e => by cases e), (fun b o e => by cases e), fun p hp => by cases hp⟩
  | q :: cl, h => by
    obtain ⟨L, l1, l2, l3, l4⟩ := lentOf I hfn cl fun p hp => h p (List.mem_cons_of_mem _ hp)
    obtain ⟨hc, hk, j, v, hj, hv⟩ := h q List.mem_cons_self
    obtain ⟨ob, u, ho, hd, r⟩ := cell_look I hj hv hk hc
    obtain ⟨f1, f2, f3⟩ := cell_far I hfn hc
    by_cases e : ∃ p, p ∈ cl ∧ p.2 = q.2
    · obtain ⟨p, hp, e⟩ := e
      have hn : p.1 = q.1 := I.ok.inj _ _ _ (h p (List.mem_cons_of_mem _ hp)).1 (by rw [e]; exact hc)
      have epq : p = q := Prod.ext hn e
      refine ⟨L, l1, l2, fun b o eb => let ⟨p, hp, e⟩ := l3 b o eb; ⟨p, List.mem_cons_of_mem _ hp, e⟩, fun p' hp' => ?_⟩
      rcases List.mem_cons.mp hp' with z | z
      · rw [z, ← epq]; exact l4 p hp
      · exact l4 p' z
    · have hnL : L.lookup q.2 = none := by
        cases z : L.lookup q.2 with
        | none => rfl
        | some o => exact absurd (l3 _ _ z) e
      have look : ∀ b o, List.lookup b ((q.2, HO.frz ob (CellO q.2 v)) :: L) = some o → (b = q.2 ∧ o = .frz ob (CellO q.2 v)) ∨ L.lookup b = some o := fun b o eb => by
        by_cases hb : b = q.2
        · subst hb
          rw [List.lookup_cons_self] at eb
          exact .inl ⟨rfl, (Option.some.inj eb).symm⟩
        · rw [List.lookup_cons, beq_eq_false_iff_ne.mpr hb] at eb
          exact .inr eb
      refine ⟨(q.2, .frz ob (CellO q.2 v)) :: L, fun b o eb => ?_, fun b o eb => ?_, fun b o eb => ?_, fun p' hp' => ?_⟩
      · rcases look b o eb with ⟨rfl, rfl⟩ | z
        · exact ⟨I.freeC _ _ hc, f1, f3, ob, v, rfl, cellO_ok ho hd r⟩
        · exact l1 b o z
      · rcases look b o eb with ⟨rfl, rfl⟩ | z
        · exact ⟨I.freeC _ _ hc, f2, f3, ob, v, rfl, cellO_ok ho hd r⟩
        · exact l2 b o z
      · rcases look b o eb with ⟨rfl, rfl⟩ | z
        · exact ⟨q, List.mem_cons_self, rfl⟩
        · obtain ⟨p, hp, e⟩ := l3 b o z
          exact ⟨p, List.mem_cons_of_mem _ hp, e⟩
      · rcases List.mem_cons.mp hp' with z | z
        · rw [z]
          exact ⟨j, v, ob, hj, hv, List.lookup_cons_self⟩
        · obtain ⟨j', v', ob', h1, h2, h3⟩ := l4 p' z
          refine ⟨j', v', ob', h1, h2, ?_⟩
          have hne : p'.2 ≠ q.2 := fun z2 => e ⟨p', z, z2⟩
          rw [List.lookup_cons, beq_eq_false_iff_ne.mpr hne]
          exact h3
/-- what the frame lends for a closure of its own -/
theorem lendClo {f : Addr} {O : HO} {F : NF} {fr : List Str} {js : List Nat} {ws : List V} (I : Inv X pins σ H s) (ow : Own X F.cl fr js) (hw : js.map (slotAt σ) = ws.map some) (hf : H f = some O) (hc : H F.c = some (CodeO F.c F.qual)) :
    ∃ L : List (Addr × HO), Lent X.prog X.w X.base X.stack s H L ∧ Lent X.prog X.w X.base X.outer s H L ∧ (∀ b o, L.lookup b = some o → ∃ y, X.env.cells.lookup y = some b) ∧ CloAt (lend H L) f O F fr ws := by
  have slot : ∀ (i : Nat) (y : Str), fr[i]? = some y → ∃ j v, js[i]? = some j ∧ ws[i]? = some v ∧ X.N[j]? = some y ∧ σ[j]? = some (some v) := fun i y e => by
    have e2 : (js.map fun j => X.N[j]?)[i]? = some (some y) := by
      rw [ow.at_, List.getElem?_map, e] <;> rfl
    rw [List.getElem?_map] at e2
    cases ej : js[i]? with
    | none => rw [ej] at e2; cases e2
    | some j =>
      rw [ej] at e2
      have hj : X.N[j]? = some y := Option.some.inj (show some (X.N[j]?) = some (some y) from e2)
      have e3 : (js.map (slotAt σ))[i]? = some (slotAt σ j) := by rw [List.getElem?_map, ej] <;> rfl
      rw [hw, List.getElem?_map] at e3
      cases ew : ws[i]? with
      | none => rw [ew] at e3; cases e3
      | some v =>
        rw [ew] at e3
        exact ⟨j, v, rfl, rfl, hj, slotAt_some (Option.some.inj e3).symm⟩
  obtain ⟨L, l1, l2, l3, l4⟩ := lentOf I ow.fn F.cl fun p hp => by
    obtain ⟨h1, h2⟩ := ow.sub p hp
    obtain ⟨i, hi⟩ := List.mem_iff_getElem?.mp h2
    obtain ⟨j, v, _, _, hj, hv⟩ := slot i p.1 hi
    exact ⟨h1, ow.kin _ h2, j, v, hj, hv⟩
  refine ⟨L, l1, l2, fun b o e => ?_, l1.same f _ hf, l1.same _ _ hc, fun b hb => ?_, ?_, fun x y c e1 e2 => ?_, fun i y e => ?_⟩
  · obtain ⟨p, hp, e⟩ := l3 b o e
    rw [← e]
    exact ⟨p.1, (ow.sub p hp).1⟩
  · obtain ⟨p, hp, e⟩ := List.any_eq_true.mp hb
    have e : p.2 = b := by simpa using e
    obtain ⟨j, v, ob, _, _, h3⟩ := l4 p hp
    rw [← e]
    exact ⟨ob, v, lend_some h3⟩
  · have h1 := congrArg List.length hw
    have h2 := congrArg List.length ow.at_
    rw [List.length_map, List.length_map] at h1 h2
    omega
  · have h1 := (ow.sub _ (PySem.mem_of_lookup e1)).1
    have h2 := (ow.sub _ (PySem.mem_of_lookup e2)).1
    exact I.ok.inj _ _ _ h1 h2
  · obtain ⟨j, v, _, hv, hj, hs⟩ := slot i y e
    obtain ⟨c, hc'⟩ := ow.sup y (List.mem_of_getElem? e)
    obtain ⟨j', v', ob, h1, h2, h3⟩ := l4 (y, c) (PySem.mem_of_lookup hc')
    have ej : j' = j := nodup_ix ow.nd h1 hj
    rw [ej, hs] at h2
    cases h2
    exact ⟨c, v, ob, hc', hv, lend_some h3⟩
/-- behind the def's end: its cells are known -/
theorem ce_lend {P : Program} {w : World} {outer : List Env} {s0 s' : Shared} {H0 H' : Hp} {u : Value} {Q Q' : VK} {base : Heap} {L : List (Addr × HO)} (l : Lent P w base outer s' H' L) (hnew : ∀ b o, L.lookup b = some o → s0.heap.get? b = none)
    (c : CE outer P w H0 s0 (fun v H1 => H1 = H' ∧ Q' v H1) u s') (hQ : ∀ v, Q' v H' → Q v (lend H' L)) : CE outer P w H0 s0 Q u s' := by
  obtain ⟨v, H1, os, bare, un, hok, r, rfl, q⟩ := c
  refine ⟨v, lend H1 L, os, bare, ⟨un.keep, un.slot, fun b o e n hx => ?_, un.there, fun b xs e => l.same _ _ (un.tups b xs e), fun b o x e => l.same _ _ (un.frzs b o x e), fun b ps e => ?_⟩, l.hok hok, r, hQ v q⟩
  · have : L.lookup b = none := by
      cases z : L.lookup b with
      | none => rfl
      | some o' => rw [hnew b o' z] at e; cases e
    rw [lend_none this]
    exact un.free b o e n hx
  · obtain ⟨m, z⟩ := un.tbls b ps e
    exact ⟨m, l.same _ _ z⟩
end
/-! ### a def that returns a closure of its own -/
theorem fn_lam {P : Program} {w : World} {K : Fg} {mg : Str → Option Value} {base : Heap} {k : Nat} {f : Addr} {name qual : Str} {params : Arguments} {st1 : Stmt} {le : Expr} {p2 : Pos} {scope : Scope} {dV kV doc pm cdv ct oc : Value} {an od : Option Addr}
    {osl : Array (Option Value)} {N ps : List Str} {sp : Sp} {O : Addr → NF → HO} {fr : List Str} {js : List Nat}
    (lk : K.lookup f = some ⟨oc, od, .func (PySem.W.fnOf name qual params [st1, .Return (some le) p2] scope dV kV doc pm an cdv ct), osl⟩) (hcd : PySem.W.codeIn K cdv qual = true) (S : FnScope N ps scope)
    (len : ∀ vs H Q E, sp vs H Q E → vs.length = ps.length)
    (hbody : ∀ (A : Around) (outer : List Env) (s : Shared) (H : Hp) (vs : List V) (Q : VK) (E : XK), Room k (A.deeper (envOfC qual scope s.heap.objs.size f cdv)) → sp vs H Q E →
      ∃ t1 tl, PS (cxOf CX0 P w K mg base N qual scope f cdv A outer s H E) st1 t1 ∧ PE (cxOf CX0 P w K mg base N qual scope f cdv A outer s H E) le tl ∧
        t1 { nx := fun σ H' => tl σ H' fun v H1 => ∃ (f' : Addr) (F : NF) (ws : List V), v = .ref f' ∧ H1 f' = some (O f' F) ∧ H1 F.c = some (CodeO F.c F.qual) ∧ Own (cxOf CX0 P w K mg base N qual scope f cdv A outer s H E) F.cl fr js ∧ js.map (slotAt σ) = ws.map some ∧
            ∀ H2, (∀ b o, H1 b = some o → H2 b = some o) → CloAt H2 f' (O f' F) F fr ws → Q (.ref f') H2, rt := fun _ _ => False } (start N vs) H) :
    FnOk P w K mg base CX0 (k + 1) f (PySem.W.fnOf name qual params [st1, .Return (some le) p2] scope dV kV doc pm an cdv ct) ps sp := by
  refine ⟨len, fun A outer s H args us vs Q E hr e0 hb r hsp => ?_⟩
  have hl := len _ _ _ _ hsp
  have KX : K.In s.heap := e0.mod.kin.keeps fun b o e => (e0.bs b o e).1
  have lim : s.heap.NoLimit := e0.mod.nolimit.keeps fun b o e => (e0.bs b o e).1
  have hkind : ∀ y ∈ ps.zip us, scope.names.lookup y.1 = some .local ∨ (scope.names.lookup y.1 = some .cell ∧ ((cellsFrom (s.heap.objs.size + 1) scope.names []).lookup y.1).isSome = true) := fun ⟨n, v⟩ hy => by
    rcases S.par n (List.of_mem_zip hy).1 with q | q
    · exact .inl q
    · exact .inr ⟨q, PySem.W.cellsFrom_some _ _ _ (.inl q)⟩
  refine codeAny_call_function hr.depth (KX _ _ lk) rfl S.co S.gen rfl (PySem.W.codeRec_of KX hcd) (hb _ _ _ _ ?_)
  refine wpAny_newFunctionEnv_cells S.kind hkind fun env he s1 x => ?_
  subst he
  refine ⟨lim.keeps x.toInCall.keep, codeAny_func ?_⟩
  obtain ⟨t1, tl, h1, h2, hq⟩ := hbody A outer s H vs Q E (hr.deeper _) hsp
  have I : Inv (cxOf CX0 P w K mg base N qual scope f cdv A outer s H E) [] (start N vs) H s1 := inv_start S hr.hd e0 hl r x
  refine wpAny_mono (wpAny_execs_cons (thn (h1.run [] s1 (start N vs) H _ I hq) fun fl s2 hs => ?_) : wpAny _ _ _ (fun fl s' => ∃ u, fl = Flow.ret u ∧ CE outer P w H s Q u s') _ s1) (fun fl s' hs => ?_) fun e s' hs => hs
  · cases fl with
    | next =>
      obtain ⟨σ', H', J, q⟩ := hs
      refine wpAny_execs_cons (wpAny_Return_some (thn (h2.run [] s2 σ' H' _ J q) fun v s3 hv => ?_))
      obtain ⟨v', H1, J1, rv, f', F, ws, rfl, g1, g2, ow, g4, g5⟩ := hv
      obtain ⟨L, l1, l2, l3, cl⟩ := lendClo J1 ow g4 g1 g2
      refine ⟨v, rfl, ce_lend (Q' := fun v H1 => v = .ref f') l2 (fun b o e => ?_) ⟨_, H1, J1.os, J1.bare, J1.base, J1.hok, rv, rfl, rfl⟩ fun v' ev => ?_⟩
      · cases z : s.heap.get? b with
        | none => rfl
        | some o' =>
          obtain ⟨y, hy⟩ := l3 b o e
          have hge : s.heap.objs.size ≤ b := J1.ok.cab y b rfl hy
          exact absurd (Nat.lt_of_lt_of_le (Heap.lt_size z) hge) (Nat.lt_irrefl _)
      · rw [ev]
        exact g5 _ (fun b o e => l2.same b o e) cl
    | ret u => obtain ⟨_, _, _, _, _, q⟩ := hs; exact q.elim
    | brk => obtain ⟨_, _, _, q⟩ := hs; exact q.elim
    | cont => obtain ⟨_, _, _, q⟩ := hs; exact q.elim
  · obtain ⟨u, rfl, c⟩ := hs
    exact c
end CB

/-! ## KC5 -/
set_option Elab.async false
set_option linter.all false
set_option maxRecDepth 100000
set_option maxHeartbeats 4000000
/-! Defs that make functions: their tables. worth_of. -/
namespace CB
open PySem PySem.Spec PyProof.Rows L2 LamX NdefX
local macro_rules | `(tactic| walk_at "ev1") => `(tactic| (first
  | exact ev_i | exact ev_b | exact ev_n | exact ev_s | exact ev_v (by assumption) rfl | exact ea_n
  | refine' ea_c ?_ ?_ | with_reducible refine' ev_ixT ?_ ?_ ?_ | with_reducible refine' ev_ixTl ?_ ?_ ?_
  | with_reducible refine' ev_add ?_ ?_ | with_reducible refine' ev_sub ?_ ?_
  | with_reducible refine' ev_lt ?_ ?_ | with_reducible refine' ev_le ?_ ?_ | with_reducible refine' ev_gt ?_ ?_ | with_reducible refine' ev_ge ?_ ?_
  | with_reducible refine' ev_eqI ?_ ?_ | with_reducible refine' ev_neI ?_ ?_ | with_reducible refine' ev_eqS ?_ ?_
  | with_reducible refine' ev_isN ?_ | with_reducible refine' ev_notN ?_ | with_reducible refine' ev_chain ?_ ?_ ?_ | with_reducible refine' ev_neg ?_
  | with_reducible refine' is_ii ?_ | with_reducible refine' is_ib ?_ | with_reducible refine' is_bb ?_ | with_reducible refine' is_ss ?_ | with_reducible refine' is_tt ?_
  | with_reducible refine' ev_andV ?_ ?_ | with_reducible refine' ev_orV ?_ ?_ | with_reducible refine' ev_notV ?_
  | with_reducible refine' ev_lenT ?_ | with_reducible refine' ev_min ?_ ?_ | with_reducible refine' ev_max ?_ ?_
  | with_reducible refine' et_test ?_ | with_reducible refine' et_B ?_ | with_reducible refine' et_not ?_ | with_reducible refine' et_and ?_ ?_ | with_reducible refine' et_or ?_ ?_ | exact et_yes
  | with_reducible refine' eo_some ?_ | exact eo_none | (with_reducible intro _) | rfl))
local macro_rules | `(tactic| walk_at "ev") => `(tactic| repeat' walk_at "ev1")
local macro_rules | `(tactic| walk_at "sq") => `(tactic| try dsimp only [tSeq, tNext])
local macro_rules | `(tactic| walk_at "cx") => `(tactic| try dsimp only [cxOf, Cx.nox, Cx.wish])

/-- the tables of the four defs that make functions -/
structure Tbl (mg : Str → Option Value) (base : Heap) where
  cL : Addr
  PL : Addr
  cW : Addr
  PW : Addr
  cA : Addr
  PA : Addr
  cR : Addr
  PR : Addr
  bL : TabB base mg cL PL
  bW : TabB base mg cW PW
  bA : TabB base mg cA PA
  bR : TabB base mg cR PR
  nd : [PL, PW, PA, PR].Nodup
section
variable {P : Program} {w : World} {K : Fg} {mg : Str → Option Value} {base : Heap}
def qL : Str := qOf "long_run" ++ "go"
def qW : Str := qOf "worth_of" ++ "<lambda>"
def qA : Str := qOf "are_prices" ++ "<lambda>"
def qR : Str := qOf "_law_right" ++ "<lambda>"
def Tbl.Ts (t : Tbl mg base) : List (Addr × Str) := [(t.PL, qL), (t.PW, qW), (t.PA, qA), (t.PR, qR)]
def Tbl.T (t : Tbl mg base) : List NTab := t.Ts.map fun p => (p.1, fun _ _ => p.2)
theorem Tbl.iff (t : Tbl mg base) {H : Hp} : TabsN t.T H ↔ Tabs t.Ts H := by
  unfold TabsN Tabs Tbl.T
  constructor
  · intro h p hp
    exact TabN.to (h (p.1, fun _ _ => p.2) (List.mem_map.mpr ⟨p, hp, rfl⟩))
  · intro h p hp
    obtain ⟨q, hq, rfl⟩ := List.mem_map.mp hp
    exact TabN.of (h q hq)
theorem Tbl.uS (t : Tbl mg base) {q : Addr × Str} (hq : q ∈ t.Ts) : ∀ p ∈ t.Ts, p.1 = q.1 → p.2 = q.2 := by
  have nd : (t.Ts.map Prod.fst).Nodup := t.nd
  intro p hp e
  obtain ⟨a, b⟩ := p
  obtain ⟨a', b'⟩ := q
  have e : a = a' := e
  subst e
  exact fst_inj nd hp hq
theorem Tbl.uN (t : Tbl mg base) {q : Addr × Str} (hq : q ∈ t.Ts) : ∀ p ∈ t.T, p.1 = q.1 → p.2 = (fun _ _ => q.2) := by
  intro p hp e
  obtain ⟨r, hr, rfl⟩ := List.mem_map.mp hp
  have := t.uS hq r hr e
  show (fun _ _ => r.2) = _
  rw [this]
theorem Tbl.mN (t : Tbl mg base) {q : Addr × Str} (hq : q ∈ t.Ts) : (q.1, fun _ _ => q.2) ∈ t.T := List.mem_map.mpr ⟨q, hq, rfl⟩
theorem tabs_same {T : List NTab} {H H' : Hp} (t : TabsN T H) (x : Same H H') : TabsN T H' := t.ext fun b o e => x b o e
theorem extN_of {H H' : Hp} (x : Same H H') : ExtN H H' := fun b o e _ => x b o e
/-- tables aside: what stays -/
theorem extN_tk {H H' : Hp} (x : ExtN H H') : Tk H H' := fun a xs r => by
  rcases r with r | ⟨o, r⟩
  · exact (x a _ r fun _ z => by cases z).trans r.symm
  · exact (x a _ r fun _ z => by cases z).trans r.symm
theorem CloAt.ext {H H' : Hp} {f : Addr} {O : HO} {F : NF} {fr : List Str} {ws : List V} (c : CloAt H f O F fr ws) (x : ExtN H H') (nO : ∀ ps, O ≠ .tbl ps) : CloAt H' f O F fr ws :=
  ⟨x _ _ c.fn nO, x _ _ c.code fun _ => codeO_ne _, fun b e => let ⟨ob, v, z⟩ := c.known b e; ⟨ob, v, x _ _ z fun _ q => by cases q⟩, c.len, c.inj, fun i y e => let ⟨a, v, ob, z1, z2, z3⟩ := c.has i y e; ⟨a, v, ob, z1, z2, x _ _ z3 fun _ q => by cases q⟩⟩
/-- a def whose code object has that table -/
def FnT (K : Fg) (mg : Str → Option Value) (x : Str) (st : Stmt) (c : Addr) : Prop := ∃ f fd, mg x = some (.ref f) ∧ FunD K x x (defArgs st) (defBody st) (defScope st) [] [] f fd ∧ fd.code = .ref c
theorem dft_of {k : Nat} {x : Str} {st : Stmt} {N ps : List Str} {sp : Sp} {c : Addr} {CX : CXT} (F : FnT K mg x st c) (S : FnScope N ps (defScope st)) (len : ∀ vs H Q E, sp vs H Q E → vs.length = ps.length)
    (hb : ∀ (kV doc pm : Value) (an : Option Addr) (cdv ct : Value) (us : List Value), us.length = ps.length → bindArgs (PySem.W.fnOf x x (defArgs st) (defBody st) (defScope st) .none kV doc pm an cdv ct) ⟨us, []⟩ = pure (ps.zip us))
    (hbody : ∀ (f : Addr) (A : Around) (outer : List Env) (s : Shared) (H : Hp) (vs : List V) (Q : VK) (E : XK), Room k (A.deeper (PyProof.Rows.envOfC x (defScope st) s.heap.objs.size f (.ref c))) → sp vs H Q E →
      ∃ t, PSs (cxOf CX P w K mg base N x (defScope st) f (.ref c) A outer s H E) (defBody st) t ∧ t { nx := fun _ H' => Q .non H', rt := Q } (L2.start N vs) H) : ∃ f fd, mg x = some (.ref f) ∧ FnOk P w K mg base CX (k + 1) f fd ps sp ∧ PySem.W.keepIn K (.ref f) = true ∧ Binds K fd ps [] := by
  obtain ⟨f, fd, hm, F, hc⟩ := F
  have kp := F.kp
  have bn := F.bindsN hb
  obtain ⟨oc, od, dV, kV, doc, pm, an, cdv, ct, osl, rfl, lk, hcd, _, _⟩ := F.ex
  have hc : cdv = .ref c := hc
  subst hc
  exact ⟨f, _, hm, fn_of lk hcd S len fun A outer s H vs Q E hr hsp => hbody f A outer s H vs Q E hr hsp, kp, bn⟩
theorem dft_nox {k : Nat} {x : Str} {st : Stmt} {N ps : List Str} {sp : Sp} {c : Addr} (F : FnT K mg x st c) (S : FnScope N ps (defScope st)) (len : ∀ vs H Q E, sp vs H Q E → vs.length = ps.length)
    (hb : ∀ (kV doc pm : Value) (an : Option Addr) (cdv ct : Value) (us : List Value), us.length = ps.length → bindArgs (PySem.W.fnOf x x (defArgs st) (defBody st) (defScope st) .none kV doc pm an cdv ct) ⟨us, []⟩ = pure (ps.zip us))
    (hbody : ∀ (f : Addr) (A : Around) (outer : List Env) (s : Shared) (H : Hp) (vs : List V) (Q : VK) (E : XK), Room k (A.deeper (PyProof.Rows.envOfC x (defScope st) s.heap.objs.size f (.ref c))) → sp vs H Q E →
      ∃ t, PSs (cxOf CX0 P w K mg base N x (defScope st) f (.ref c) A outer s H E).nox (defBody st) t ∧ t { nx := fun _ H' => Q .non H', rt := Q } (L2.start N vs) H) : Df P w K mg base (k + 1) x ps sp :=
  dft_of F S len hb fun f A outer s H vs Q E hr h => by
    obtain ⟨t, h1, h2⟩ := hbody f A outer s H vs Q E hr h
    exact ⟨t, PSs.nox h1, h2⟩
abbrev s_worth_of : Stmt := top 57
theorem sc_worth_of : FnScope ["fraction", "sign", "p", "q"] ["fraction", "sign"] (defScope s_worth_of) := ⟨rfl, rfl, rfl, by decide +kernel, rfl, by decide +kernel, by decide +kernel⟩
/-- a new closure over p, q, sign -/
def spWorth (K : Fg) (T : List NTab) : Sp := fun vs H Q _ => ∃ p q sign : Int, ImAll K H vs [.tuple [.int p, .int q], .int sign] ∧ TabsN T H ∧
  ∀ (f : Addr) (F : NF) (H' : Hp), ExtN H H' → TabsN T H' → isW F → CloD K H' f (LamO wL.2.1 f F) F ["p", "q", "sign"] [.int p, .int q, .int sign] → Q (.ref f) H'
theorem wBody : defBody s_worth_of = [subSt s_worth_of 0, .Return (some (.Lambda wL.1 wL.2.1 wL.2.2.1 wL.2.2.2)) ⟨247, 4, 247, 60⟩] := rfl
theorem lam_ne {body : Expr} {f : Addr} {F : NF} (ps : Array Value) : LamO body f F ≠ .tbl ps := fun z => by unfold LamO at z; cases z
theorem d_worth_of (t : Tbl mg base) (F : FnT K mg "worth_of" s_worth_of t.cW) : Df P w K mg base 1 "worth_of" ["fraction", "sign"] (spWorth K t.T) := by
  obtain ⟨f, fd, hm, F, hc⟩ := F
  have kp := F.kp
  have bn := F.bindsN (ps := ["fraction", "sign"]) (fun _ _ _ _ _ _ us hl => match us, hl with | [_, _], _ => rfl)
  obtain ⟨oc, od, dV, kV, doc, pm, an, cdv, ct, osl, rfl, lk, hcd, _, _⟩ := F.ex
  have hc : cdv = .ref t.cW := hc
  subst hc
  refine ⟨f, _, hm, ?_, kp, bn⟩
  have hmem : (t.PW, qW) ∈ t.Ts := by unfold Tbl.Ts; simp
  refine fn_lam (st1 := subSt s_worth_of 0) (le := .Lambda wL.1 wL.2.1 wL.2.2.1 wL.2.2.2) (O := LamO wL.2.1) (fr := ["p", "q", "sign"]) (js := [2, 3, 1]) lk hcd sc_worth_of (fun vs H Q E h => by obtain ⟨_, _, _, e, _⟩ := h; exact imAll_len e) fun A outer s H vs Q E hr h => ?_
  refine ⟨_, _, (ps_asg (pv 0) (pg_tup rfl (pgs_cons (pg_name (i := 2) sc_worth_of.nd rfl (by first | exact Or.inl rfl | exact Or.inr rfl)) (pgs_cons (pg_name (i := 3) sc_worth_of.nd rfl (by first | exact Or.inl rfl | exact Or.inr rfl)) pgs_nil)))), pe_lamN t.bW rfl (t.mN hmem) rfl (t.uN hmem) (ndef_free (sc := defScope s_worth_of) (nsc := wL.2.2.1) (fr := ["p", "q", "sign"]) (by decide +kernel)) rfl, ?_⟩
  obtain ⟨p, q, sign, him, hT, k⟩ := h
  have env := env_d (N := ["fraction", "sign", "p", "q"]) him
  try simp only [unpackE, unpackD, wipeD, unT, List.map_cons, List.map_nil, List.length_cons, List.length_nil, List.cons_append, List.nil_append, List.replicate_succ, List.replicate_zero, List.set_cons_succ, List.set_cons_zero, Nat.reduceAdd, Nat.reduceSub] at env
  refine st_unpack (D := { nx := _, rt := fun _ _ => False }) (is := [2, 3]) (n := 2) (ds := [.int p, .int q]) env (ev_v env rfl) rfl rfl fun s1 H1 x1 env => ?_
  try simp only [unpackE, unpackD, wipeD, unT, List.map_cons, List.map_nil, List.length_cons, List.length_nil, List.cons_append, List.nil_append, List.replicate_succ, List.replicate_zero, List.set_cons_succ, List.set_cons_zero, Nat.reduceAdd, Nat.reduceSub] at env
  refine ⟨tabs_same hT x1, fun f' c' H2 e2 nn T2 f0 f1 c1 => ?_⟩
  obtain ⟨v2, g2, r2⟩ := env.get (i := 2) rfl
  obtain ⟨v3, g3, r3⟩ := env.get (i := 3) rfl
  obtain ⟨v1, g1, r1⟩ := env.get (i := 1) rfl
  refine ⟨f', _, [v2, v3, v1], rfl, f1, c1, ⟨fun _ => rfl, sc_worth_of.nd, ?_, ?_, ?_, rfl⟩, ?_, fun H3 x3 clo => ?_⟩
  · intro p hp
    have hp : p ∈ [(("sign" : Str), s.heap.objs.size + 1), ("q", s.heap.objs.size + 1 + 1 + 1), ("p", s.heap.objs.size + 1 + 1)] := hp
    rcases List.mem_cons.mp hp with rfl | hp
    · exact ⟨rfl, show ("sign" : Str) ∈ [("p" : Str), "q", "sign"] by decide⟩
    · rcases List.mem_cons.mp hp with rfl | hp
      · exact ⟨rfl, show ("q" : Str) ∈ [("p" : Str), "q", "sign"] by decide⟩
      · rw [List.mem_singleton.mp hp]
        exact ⟨rfl, show ("p" : Str) ∈ [("p" : Str), "q", "sign"] by decide⟩
  · intro y hy
    have hy : y ∈ [("p" : Str), "q", "sign"] := hy
    rcases List.mem_cons.mp hy with rfl | hy
    · exact Or.inl rfl
    · rcases List.mem_cons.mp hy with rfl | hy
      · exact Or.inl rfl
      · rw [List.mem_singleton.mp hy]
        exact Or.inl rfl
  · intro y hy
    have hy : y ∈ [("p" : Str), "q", "sign"] := hy
    rcases List.mem_cons.mp hy with rfl | hy
    · exact ⟨_, rfl⟩
    · rcases List.mem_cons.mp hy with rfl | hy
      · exact ⟨_, rfl⟩
      · rw [List.mem_singleton.mp hy]
        exact ⟨_, rfl⟩
  · show [slotAt s1 2, slotAt s1 3, slotAt s1 1] = _
    rw [slotAt_of g2, slotAt_of g3, slotAt_of g1]
    rfl
  · have e3 : ExtN H1 H3 := e2.trans (extN_of x3)
    have e03 : ExtN H H3 := (extN_of x1).trans e3
    refine k f' _ H3 e03 (T2.ext fun b o e => x3 b o e) ⟨_, _, rfl⟩ ⟨_, clo, .cons (Im.mono (extN_tk e3) r2) (.cons (Im.mono (extN_tk e3) r3) (.cons (Im.mono (extN_tk e3) r1) .nil))⟩
end
end CB

/-! ## KD2 -/
set_option Elab.async false
set_option linter.all false
set_option maxRecDepth 100000
set_option maxHeartbeats 2000000
/-! Dicts whose keys are nested tuples of ints. -/
namespace CB
open PySem PySem.Spec PyProof.Rows L2
mutual
def keyOf : PyData → NestedKey
  | .int i => .num i
  | .tuple ds => .tup (keysOf ds)
  | .none | .bool _ | .str _ | .list _ | .dict _ => .none
def keysOf : List PyData → List NestedKey
  | [] => []
  | d :: ds => keyOf d :: keysOf ds
end
mutual
theorem keyOf_inj : ∀ d e : PyData, itD d = true → itD e = true → keyOf d = keyOf e → d = e
  | .int i, .int j, _, _, q => by
    simp only [keyOf, NestedKey.num.injEq] at q
    rw [q]
  | .tuple ds, .tuple es, h, g, q => by
    simp only [itD] at h g
    simp only [keyOf, NestedKey.tup.injEq] at q
    rw [keysOf_inj ds es h g q]
  | .int _, .tuple _, _, _, q => by simp [keyOf] at q
  | .tuple _, .int _, _, _, q => by simp [keyOf] at q
  | .none, _, h, _, _ | .bool _, _, h, _, _ | .str _, _, h, _, _ | .list _, _, h, _, _ | .dict _, _, h, _, _ => by simp [itD] at h
  | .int _, .none, _, h, _ | .int _, .bool _, _, h, _ | .int _, .str _, _, h, _ | .int _, .list _, _, h, _ | .int _, .dict _, _, h, _ => by simp [itD] at h
  | .tuple _, .none, _, h, _ | .tuple _, .bool _, _, h, _ | .tuple _, .str _, _, h, _ | .tuple _, .list _, _, h, _ | .tuple _, .dict _, _, h, _ => by simp [itD] at h
theorem keysOf_inj : ∀ ds es : List PyData, itDs ds = true → itDs es = true → keysOf ds = keysOf es → ds = es
  | [], [], _, _, _ => rfl
  | [], _ :: _, _, _, q => by simp [keysOf] at q
  | _ :: _, [], _, _, q => by simp [keysOf] at q
  | d :: ds, e :: es, h, g, q => by
    simp only [itDs, Bool.and_eq_true] at h g
    simp only [keysOf, List.cons.injEq] at q
    rw [keyOf_inj d e h.1 g.1 q.1, keysOf_inj ds es h.2 g.2 q.2]
end
mutual
theorem keyOf_depth : ∀ d : PyData, itD d = true → (keyOf d).depth = d.depth
  | .int _, _ => by simp only [keyOf, NestedKey.depth, PyData.depth]
  | .tuple ds, h => by
    simp only [itD] at h
    simp only [keyOf, NestedKey.depth, PyData.depth, keysOf_depth ds h]
  | .none, h | .bool _, h | .str _, h | .list _, h | .dict _, h => by simp [itD] at h
theorem keysOf_depth : ∀ ds : List PyData, itDs ds = true → NestedKey.depthAll (keysOf ds) = PyData.depthAll ds
  | [], _ => by simp only [keysOf, NestedKey.depthAll, PyData.depthAll]
  | d :: ds, h => by
    simp only [itDs, Bool.and_eq_true] at h
    simp only [keysOf, NestedKey.depthAll, PyData.depthAll, keyOf_depth d h.1, keysOf_depth ds h.2]
end
section
variable {X : Cx} {pins : List (Addr × Obj)} {σ : L2.St} {H : Hp} {s : Shared}
mutual
theorem nis (I : Inv X pins σ H s) : ∀ (d : PyData) (v : V) (u : Value), itD d = true → Im X.K H v d → RelV v u → NestedIs s.heap (keyOf d) u
  | .int i, _, u, _, h, r => by
    cases h
    obtain ⟨t, rfl⟩ := r
    simp only [keyOf]
    exact .int i t
  | .tuple ds, _, u, hd, h, r => by
    cases h with
    | tup hq hs =>
      cases r
      obtain ⟨its, rv, ⟨o, ho, hc, n, hdt⟩, _⟩ := I.tuple hq
      simp only [keyOf]
      simp only [itD] at hd
      exact .tup ho hc hdt (by simpa using nisAll I ds _ its hd hs rv)
  | .none, _, _, hd, _, _ | .bool _, _, _, hd, _, _ | .str _, _, _, hd, _, _ | .list _, _, _, hd, _, _ | .dict _, _, _, hd, _, _ => by simp [itD] at hd
theorem nisAll (I : Inv X pins σ H s) : ∀ (ds : List PyData) (vs : List V) (us : List Value), itDs ds = true → ImAll X.K H vs ds → Vals vs us → NestedAll s.heap (keysOf ds) us
  | [], _, _, _, h, r => by
    cases h
    cases r
    simp only [keysOf]
    exact .nil
  | d :: ds, _, _, hd, h, r => by
    simp only [itDs, Bool.and_eq_true] at hd
    cases h with
    | cons a t =>
      cases r with
      | cons ra rt =>
        simp only [keysOf]
        exact .cons (nis I d _ _ hd.1 a ra) (nisAll I ds _ _ hd.2 t rt)
end
end
/-- a key: data of ints and tuples, not deep -/
structure Ky (d : PyData) : Prop where
  it : itD d = true
  dep : d.depth ≤ 8
theorem ky_T (t : Stt) : Ky (encT t) := ⟨it_T t, by have := dep_T t; omega⟩
abbrev Ent := PyData × Addr × V
def EntsR (kvs : List Ent) (xs : List (NestedKey × Addr × Value)) : Prop := Paired (fun (p : Ent) (q : NestedKey × Addr × Value) => q.1 = keyOf p.1 ∧ q.2.1 = p.2.1 ∧ RelV p.2.2 q.2.2) kvs xs
/-- the dict at d: its entries, by the keys' data and places -/
def KDs (P : Program) (w : World) (d : Addr) (kvs : List Ent) : HO := .ext fun h => (d == sysModules) = false ∧ ∃ xs, EntsR kvs xs ∧ ∃ o es ep, h.get? d = some o ∧ o.ExactDict ∧ o.data = .dict es ep ∧ es.toList = xs.map (entryOfKey (nestedKind P w)) ∧ (xs.map (·.1)).Nodup
structure DicOk (P : Program) (w : World) (K : Fg) (H : Hp) (d : Addr) (kvs : List Ent) : Prop where
  at_ : H d = some (KDs P w d kvs)
  key : ∀ p, p ∈ kvs → Im K H (.ref p.2.1) p.1 ∧ Ky p.1
theorem DicOk.mono {P : Program} {w : World} {K : Fg} {H H' : Hp} {d : Addr} {kvs : List Ent} (x : DicOk P w K H d kvs) (e : Same H H') : DicOk P w K H' d kvs := ⟨e _ _ x.at_, fun p hp => ⟨Im.mono (tk_of e) (x.key p hp).1, (x.key p hp).2⟩⟩
theorem DicOk.tk {P : Program} {w : World} {K : Fg} {H H' : Hp} {d : Addr} {kvs : List Ent} (x : DicOk P w K H d kvs) (e : Tk H H') (ed : H' d = H d) : DicOk P w K H' d kvs := ⟨by rw [ed]; exact x.at_, fun p hp => ⟨Im.mono e (x.key p hp).1, (x.key p hp).2⟩⟩
theorem kds_ok {P : Program} {w : World} {H : Hp} {h : Heap} {d : Addr} {kvs : List Ent} {xs : List (NestedKey × Addr × Value)} {o : Obj} {es : Array DictEntry} {ep : Nat} (hd : (d == sysModules) = false) (r : EntsR kvs xs) (ho : h.get? d = some o) (he : o.ExactDict) (hdt : o.data = .dict es ep) (hes : es.toList = xs.map (entryOfKey (nestedKind P w))) (nd : (xs.map (·.1)).Nodup) :
    ObjOk P w H h d (KDs P w d kvs) :=
  ⟨⟨hd, xs, r, o, es, ep, ho, he, hdt, hes, nd⟩, ⟨o, ho⟩, fun h1 h2 ⟨hd, xs, r, o, es, ep, ho, he, hdt, hes, nd⟩ st => ⟨hd, xs, r, o, es, ep, st o ho, he, hdt, hes, nd⟩⟩
theorem ents_len {kvs : List Ent} {xs : List (NestedKey × Addr × Value)} (r : EntsR kvs xs) : xs.length = kvs.length := by
  unfold EntsR at r
  induction r with
  | nil => rfl
  | cons _ _ ih => rw [List.length_cons, List.length_cons, ih]
theorem ents_mem {kvs : List Ent} {xs : List (NestedKey × Addr × Value)} (r : EntsR kvs xs) : ∀ {p : Ent}, p ∈ kvs → ∃ q, q ∈ xs ∧ q.1 = keyOf p.1 := by
  unfold EntsR at r
  induction r with
  | nil => intro p hp; cases hp
  | cons h _ ih =>
    intro p hp
    rcases List.mem_cons.mp hp with rfl | hp
    · exact ⟨_, List.mem_cons_self, h.1⟩
    · obtain ⟨q, h1, h2⟩ := ih hp
      exact ⟨q, List.mem_cons_of_mem _ h1, h2⟩
theorem ents_none {kvs : List Ent} {xs : List (NestedKey × Addr × Value)} (r : EntsR kvs xs) (hk : ∀ p, p ∈ kvs → Ky p.1) {e : PyData} (he : Ky e) (h : ∀ p, p ∈ kvs → p.1 ≠ e) : atKey xs (keyOf e) = none := by
  unfold EntsR at r
  induction r with
  | nil => rfl
  | @cons p q _ _ hr _ ih =>
    have n : ¬ q.1 = keyOf e := fun z => h p List.mem_cons_self (keyOf_inj _ _ (hk p List.mem_cons_self).it he.it (by rw [← hr.1]; exact z))
    have := ih (fun p hp => hk p (List.mem_cons_of_mem _ hp)) fun p hp => h p (List.mem_cons_of_mem _ hp)
    unfold atKey at *
    rw [List.find?_cons_of_neg (by simpa using n)]
    exact this
theorem ents_some {kvs : List Ent} {xs : List (NestedKey × Addr × Value)} (r : EntsR kvs xs) (hk : ∀ p, p ∈ kvs → Ky p.1) {e : PyData} (he : Ky e) (nd : (xs.map (·.1)).Nodup) {p : Ent} (hp : p ∈ kvs) (ep : p.1 = e) : ∃ u, atKey xs (keyOf e) = some (p.2.1, u) ∧ RelV p.2.2 u := by
  unfold EntsR at r
  induction r with
  | nil => cases hp
  | @cons p0 q0 ps qs hr t ih =>
    rw [List.map_cons, List.nodup_cons] at nd
    rcases List.mem_cons.mp hp with rfl | hp'
    · refine ⟨q0.2.2, ?_, hr.2.2⟩
      unfold atKey
      rw [List.find?_cons_of_pos (by simpa using (by rw [hr.1, ep] : q0.1 = keyOf e))]
      rw [← hr.2.1]
      rfl
    · have n : ¬ q0.1 = keyOf e := fun z => by
        obtain ⟨q, h1, h2⟩ := ents_mem (show EntsR ps qs from t) hp'
        refine nd.1 (List.mem_map.mpr ⟨q, h1, ?_⟩)
        rw [h2, ep, z]
      obtain ⟨u, h1, h2⟩ := ih (fun p hp => hk p (List.mem_cons_of_mem _ hp)) nd.2 hp'
      refine ⟨u, ?_, h2⟩
      unfold atKey at *
      rw [List.find?_cons_of_neg (by simpa using n)]
      exact h1
theorem paired_app {α β : Type} {R : α → β → Prop} {a c : List α} {b d : List β} (h : Paired R a b) (g : Paired R c d) : Paired R (a ++ c) (b ++ d) := by
  induction h with
  | nil => exact g
  | cons r _ ih => exact .cons r ih
section
variable {X : Cx} {pins : List (Addr × Obj)} {σ : L2.St} {H : Hp} {s : Shared} {d : Addr} {kvs : List Ent}
/-- the library's dict -/
theorem DicOk.to (I : Inv X pins σ H s) (x : DicOk X.prog X.w X.K H d kvs) : (d == sysModules) = false ∧ ∃ xs, EntsR kvs xs ∧ s.heap.DictOfH (nestedKind X.prog X.w) d xs := by
  obtain ⟨⟨hd, xs, r, o, es, ep, ho, he, hdt, hes, nd⟩, y1, y2⟩ := I.hok d _ x.at_
  refine ⟨hd, xs, r, o, es, ep, ho, he, hdt, hes, ?_, nd⟩
  have key := x.key
  clear hes nd x y1 y2
  unfold EntsR at r
  induction r with
  | nil => intro q hq; cases hq
  | @cons p q ps qs hr _ ih =>
    intro y hy
    rcases List.mem_cons.mp hy with rfl | hy
    · obtain ⟨h1, h2⟩ := key p List.mem_cons_self
      have z := nis I p.1 (.ref p.2.1) (.ref p.2.1) h2.it h1 rfl
      rw [hr.1, hr.2.1]
      exact ⟨z, by rw [keyOf_depth _ h2.it]; exact h2.dep⟩
    · exact ih (fun p hp => key p (List.mem_cons_of_mem _ hp)) y hy
theorem key_is (I : Inv X pins σ H s) {b : Addr} {e : PyData} (h : Im X.K H (.ref b) e) (k : Ky e) : (nestedKind X.prog X.w).is s.heap (keyOf e) b := ⟨nis I e _ _ k.it h rfl, by rw [keyOf_depth _ k.it]; exact k.dep⟩
theorem kroom {A : Around} (hu : A.units + 64 < cLine) : (nestedKind X.prog X.w).room A.in1 := by show A.units + 1 + 8 < cLine; omega
theorem kroom2 {A : Around} (hu : A.units + 64 < cLine) : (nestedKind X.prog X.w).room A.in1.in1 := by show A.units + 1 + 1 + 8 < cLine; omega
theorem kroom0 {A : Around} (hu : A.units + 64 < cLine) : (nestedKind X.prog X.w).room A := by show A.units + 8 < cLine; omega
variable {o i value : Expr} {pos pos' : Pos} {td ty tv : TE}
def tSNotIn (P : Program) (w : World) (K : Fg) (ty td : TE) : TE := fun σ H Q => ty σ H fun y H1 => td σ H1 fun x H2 => ∃ (d b : Addr) (kvs : List Ent) (e : PyData) (r : Bool), x = .ref d ∧ y = .ref b ∧ DicOk P w K H2 d kvs ∧ Im K H2 (.ref b) e ∧ Ky e ∧ (r = true → ∀ p, p ∈ kvs → p.1 ≠ e) ∧ (r = false → ∃ p, p ∈ kvs ∧ p.1 = e) ∧ Q (.bl r) H2
theorem pc_snotin (hu : X.A.units + 64 < cLine) (hi : PE X i ty) (ho : PE X o td) : PC X .NotIn i o (tSNotIn X.prog X.w X.K ty td) := by
  refine ⟨fun pins s σ H Q I h => ?_⟩
  refine thn (hi.run pins s σ H _ I h) fun iv s1 ⟨y, H1, I1, ry, q1⟩ => thn (ho.run pins s1 σ H1 _ I1 q1) fun u s2 ⟨x, H2, I2, rx, d, b, kvs, e, r, ex, ey, g, ge, ke, r1, r2, q2⟩ => ?_
  subst ex ey
  obtain rfl : u = Value.ref d := rx
  obtain rfl : iv = Value.ref b := ry
  obtain ⟨hd, xs, rr, dd⟩ := g.to I2
  show wpAny _ _ (do return Value.bool (!(← contains (.ref d) (.ref b)))) _ _ s2
  refine wpAny_bind (wpAny_contains_heap (kroom hu) (key_is I2 ge ke) hd dd (wpAny_pure ?_))
  have e0 : (!(atKey xs (keyOf e)).isSome) = r := by
    cases hr : r with
    | true => rw [ents_none rr (fun p hp => (g.key p hp).2) ke (r1 hr)]; rfl
    | false =>
      obtain ⟨p, hp, ep⟩ := r2 hr
      obtain ⟨_, _, _, _, _, _, _, _, nd⟩ := dd
      obtain ⟨u, h1, _⟩ := ents_some rr (fun p hp => (g.key p hp).2) ke nd hp ep
      rw [h1]
      rfl
  rw [e0]
  exact ⟨.bl r, H2, I2.tok _, rfl, q2⟩
def tSGet (P : Program) (w : World) (K : Fg) (td ty : TE) : TE := fun σ H Q => td σ H fun x H1 => ty σ H1 fun y H2 => ∃ (d b : Addr) (kvs : List Ent) (p : Ent), x = .ref d ∧ y = .ref b ∧ DicOk P w K H2 d kvs ∧ Im K H2 (.ref b) p.1 ∧ p ∈ kvs ∧ Q p.2.2 H2
theorem pe_sget (hu : X.A.units + 64 < cLine) (ho : PE X o td) (hi : PE X i ty) (hs : NoSl i) : PE X (.Subscript o i pos) (tSGet X.prog X.w X.K td ty) := by
  refine ⟨fun pins s σ H Q I h => ?_⟩
  refine subD_of PySem.F.slot_dict_getitem.lookup hs (thn (ho.run pins s σ H _ I h) fun u s1 ⟨x, H1, I1, rx, q1⟩ => thn (hi.run pins s1 σ H1 _ I1 q1) fun iv s2 ⟨y, H2, I2, ry, d, b, kvs, p, ex, ey, g, ge, hp, q2⟩ => ?_)
  subst ex ey
  obtain rfl : u = Value.ref d := rx
  obtain rfl : iv = Value.ref b := ry
  obtain ⟨hd, xs, rr, dd⟩ := g.to I2
  have ke := (g.key p hp).2
  have nd : (xs.map (·.1)).Nodup := by
    obtain ⟨_, _, _, _, _, _, _, _, nd⟩ := dd
    exact nd
  obtain ⟨u, h1, h2⟩ := ents_some rr (fun p hp => (g.key p hp).2) ke nd hp rfl
  refine ⟨dd.typeIs, wpAny_getItem_heap (kroom hu) (key_is I2 ge ke) dd h1 ⟨p.2.2, H2, I2.tok _, h2, q2⟩⟩
def sSPut (P : Program) (w : World) (K : Fg) (td ty tv : TE) : TS := fun D σ H => tv σ H fun v H1 => td σ H1 fun x H2 => ty σ H2 fun y H3 => ∃ (d b : Addr) (kvs : List Ent) (e : PyData), x = .ref d ∧ y = .ref b ∧ DicOk P w K H3 d kvs ∧ Im K H3 (.ref b) e ∧ Ky e ∧ (∀ p, p ∈ kvs → p.1 ≠ e) ∧ kvs.length ≤ sizeLine ∧ D.nx σ (upd H3 d (KDs P w d (kvs ++ [(e, b, v)])))
theorem kds_write {P : Program} {w : World} {H' : Hp} {h' : Heap} {xs : List (NestedKey × Addr × Value)} {e : PyData} {b : Addr} {v : V} {u : Value} (hd : (d == sysModules) = false) (rr : EntsR kvs xs) (rv : RelV v u) (dd : h'.DictOfH (nestedKind P w) d (xs ++ [(keyOf e, b, u)])) : ObjOk P w H' h' d (KDs P w d (kvs ++ [(e, b, v)])) := by
  obtain ⟨o, es, ep, ho, he, hdt, hes, _, nd⟩ := dd
  exact kds_ok hd (paired_app rr (.cons ⟨rfl, rfl, rv⟩ .nil)) ho he hdt hes nd
theorem ps_sput (hu : X.A.units + 64 < cLine) (ho : PE X o td) (hi : PE X i ty) (hv : PE X value tv) (hs : swapsWith value (some (.Subscript o i pos')) pos.line X.env = pure false) :
    PS X (.Assign [.Subscript o i pos'] value pos) (sSPut X.prog X.w X.K td ty tv) := by
  refine ⟨fun pins s σ H D I h => ?_⟩
  refine wpAny_Assign_Subscript (thn (hv.run pins s σ H _ I h) fun r s1 ⟨v, H1, I1, rv, q1⟩ => thn (ho.run pins s1 σ H1 _ I1 q1) fun u s2 ⟨x, H2, I2, rx, q2⟩ => thn (hi.run pins s2 σ H2 _ I2 q2) fun iv s3 ⟨y, H3, I3, ry, d, b, kvs, e, ex, ey, g, ge, ke, hn, hz, q3⟩ => ?_) hs
  subst ex ey
  obtain rfl : u = Value.ref d := rx
  obtain rfl : iv = Value.ref b := ry
  obtain ⟨hd, xs, rr, dd⟩ := g.to I3
  have hno := ents_none rr (fun p hp => (g.key p hp).2) ke hn
  refine wpAny_setItem_heap (kroom hu) (key_is I3 ge ke) dd (fun h' dd' hs' => ?_) (by rw [ents_len rr]; exact hz)
  rw [storedH_new hno] at dd'
  have he : ∃ q, h'.get? d = some q := let ⟨q, _, _, hq, _⟩ := dd'; ⟨q, hq⟩
  exact ⟨σ, _, d_write I3 (by rw [g.at_]; exact True.intro) hs' he (kds_write hd rr rv dd'), q3⟩
/-- {k: v}, one pair -/
def tDisp1 (P : Program) (w : World) (K : Fg) (ty tv : TE) : TE := fun σ H Q => ∀ p, H p = none → ty σ (upd H p (KDs P w p [])) fun y H1 => tv σ H1 fun v H2 => ∃ (b : Addr) (e : PyData), y = .ref b ∧ Im K H2 (.ref b) e ∧ Ky e ∧ H2 p = some (KDs P w p []) ∧ Q (.ref p) (upd H2 p (KDs P w p [(e, b, v)]))
theorem pe_disp1 {k v : Expr} (hu : X.A.units + 64 < cLine) (hk : PE X k ty) (hv : PE X v tv) : PE X (.Dict [some k] [v] pos) (tDisp1 X.prog X.w X.K ty tv) := by
  refine ⟨fun pins s σ H Q I q => ?_⟩
  have hn := I.hok.fresh (Nat.le_refl s.heap.objs.size)
  have hb : (s.heap.objs.size == sysModules) = false := beq_eq_false_iff_ne.mpr (Ne.symm (Nat.ne_of_lt I.big))
  have I1 := I.laid (a := s.heap.objs.size) (o := KDs X.prog X.w s.heap.objs.size []) (h' := s.heap.push { cls := .type "dict", data := .dict #[] }) (t' := s.toks) (fun _ _ q => Heap.get?_push_of_some _ q) (Nat.le_refl _) (kds_ok hb .nil (Heap.get?_push_size _ rfl) ⟨rfl, rfl, rfl⟩ rfl rfl List.nodup_nil)
  have h0 := pps_cons (X := X) (pos := pos) hk hv pps_nil
  rw [arm_eval_Dict, zip_pairTrees [some k] [v] X.env pos rfl rfl, dictDisplay_pairs _ (by rw [← List.length_pos_iff, pairTrees_length [some k] [v] X.env pos rfl rfl]; exact Nat.one_pos) (by rw [pairTrees_length [some k] [v] X.env pos rfl rfl]; show 1 < 17; decide)]
  refine wpAny_bind (wpAny_standAt (wpAny_bind (wpAny_subDictH (knd := nestedKind X.prog X.w) (kroom0 hu) (by rw [pairTrees_length [some k] [v] X.env pos rfl rfl]; show 1 ≤ 15; decide) (thn (h0.run pins _ σ _ (fun ps H2 => match ps with
      | [(y, v')] => ∃ (b : Addr) (e : PyData), y = .ref b ∧ Im X.K H2 (.ref b) e ∧ Ky e ∧ H2 s.heap.objs.size = some (KDs X.prog X.w s.heap.objs.size []) ∧ Q (.ref s.heap.objs.size) (upd H2 s.heap.objs.size (KDs X.prog X.w s.heap.objs.size [(e, b, v')]))
      | _ => False) I1 ?_) fun ws s2 hw => ?_))))
  · exact q s.heap.objs.size hn
  · obtain ⟨ps, H2, I2, rel, q0⟩ := hw
    obtain ⟨y, v', rfl⟩ : ∃ y v', ps = [(y, v')] := by
      match ps, q0 with
      | [(y, v')], _ => exact ⟨y, v', rfl⟩
    obtain ⟨b, e, rfl, ge, ke, e2, q2⟩ := q0
    obtain ⟨⟨u1, u2⟩, rfl, ru⟩ : ∃ u : Value × Value, ws = [u] ∧ RelV (V.ref b) u.1 ∧ RelV v' u.2 := by
      cases rel with
      | cons a t => cases t; exact ⟨_, rfl, a⟩
    obtain ⟨r1, r2⟩ := ru
    obtain rfl : u1 = Value.ref b := r1
    obtain ⟨hd, xs, rr, dd⟩ := (DicOk.mk e2 (fun p hp => nomatch hp) : DicOk X.prog X.w X.K H2 s.heap.objs.size []).to I2
    have exs : xs = [] := List.eq_nil_of_length_eq_zero (ents_len rr)
    subst exs
    refine ⟨[(keyOf e, b, u2)], ⟨rfl, rfl, key_is I2 ge ke, trivial⟩, dd, fun h' tk dd' hs' => wpAny_pure ?_⟩
    have dd2 : h'.DictOfH (nestedKind X.prog X.w) s.heap.objs.size ([] ++ [(keyOf e, b, u2)]) := dd'
    have he : ∃ q, h'.get? s.heap.objs.size = some q := let ⟨q, _, _, hq, _⟩ := dd'; ⟨q, hq⟩
    exact ⟨.ref s.heap.objs.size, _, d_write I2 (by rw [e2]; exact True.intro) hs' he (kds_write (kvs := []) hd .nil r2 dd2), rfl, q2⟩
end
end CB

/-! ## KL8 -/
set_option Elab.async false
set_option linter.all false
set_option maxRecDepth 100000
set_option maxHeartbeats 2000000
/-! Readings: dicts of nested keys, fields written. -/
namespace CB
open PySem PySem.Spec L2
section
variable {P : Program} {w : World} {K : Fg} {s : L2.St} {H : Hp} {c : Dn} {ta te tv : TE} {D : Ends} {d a : Addr} {kvs : List Ent} {ds : List PyData}
theorem ev_snot {r : Bool} (hd : DicOk P w K H d kvs) (ke : Ky (.tuple ds)) (r1 : r = true → ∀ p, p ∈ kvs → p.1 ≠ .tuple ds) (r2 : r = false → ∃ p, p ∈ kvs ∧ p.1 = .tuple ds) (hy : EvE K s H te (.im (.tuple ds))) (ha : EvE K s H ta (.rf d)) :
    EvE K s H (tSNotIn P w K te ta) (.im (.bool r)) := fun H1 x1 Q q =>
  hy H1 x1 _ fun y H2 x2 ry => ha H2 (x1.trans x2) _ fun x H3 x3 rx => by
    obtain ⟨b, xs, e1, e2, e3⟩ := im_tup ry
    have x03 := (x1.trans x2).trans x3
    refine ⟨d, b, kvs, .tuple ds, r, rx, e1, hd.mono x03, ?_, ke, r1, r2, q _ H3 (x2.trans x3) (.bl _)⟩
    rw [← e1]
    exact Im.mono (tk_of x3) ry
theorem ev_sget {p : Ent} {i : Int} (hd : DicOk P w K H d kvs) (hp : p ∈ kvs) (e1 : p.1 = .tuple ds) (e2 : p.2.2 = .int i) (ha : EvE K s H ta (.rf d)) (hy : EvE K s H te (.im (.tuple ds))) : EvE K s H (tSGet P w K ta te) (.im (.int i)) := fun H1 x1 Q q =>
  ha H1 x1 _ fun x H2 x2 rx => hy H2 (x1.trans x2) _ fun y H3 x3 ry => by
    obtain ⟨b, xs, f1, f2, f3⟩ := im_tup ry
    have x03 := (x1.trans x2).trans x3
    refine ⟨d, b, kvs, p, rx, f1, hd.mono x03, ?_, hp, ?_⟩
    · rw [e1, ← f1]; exact ry
    · rw [e2]; exact q _ H3 (x2.trans x3) (.int _)
/-- d[k] = v, a new key -/
theorem st_sput {i : Int} (hd : DicOk P w K H d kvs) (ke : Ky (.tuple ds)) (hv : EvE K s H tv (.im (.int i))) (ha : EvE K s H ta (.rf d)) (hy : EvE K s H te (.im (.tuple ds))) (hn : ∀ p, p ∈ kvs → p.1 ≠ .tuple ds) (hz : kvs.length ≤ sizeLine)
    (k : ∀ b H1, Same H H1 → Im K H1 (.ref b) (.tuple ds) → D.nx s (upd H1 d (KDs P w d (kvs ++ [(.tuple ds, b, .int i)])))) : sSPut P w K ta te tv D s H :=
  hv H (Same.refl _) _ fun v H1 x1 rv => ha H1 x1 _ fun x H2 x2 rx => hy H2 (x1.trans x2) _ fun y H3 x3 ry => by
    obtain ⟨b, xs, f1, f2, f3⟩ := im_tup ry
    have x03 := (x1.trans x2).trans x3
    have ry' : Im K H3 (.ref b) (.tuple ds) := by rw [← f1]; exact ry
    refine ⟨d, b, kvs, .tuple ds, rx, f1, hd.mono x03, ry', ke, hn, hz, ?_⟩
    rw [im_int rv]
    exact k b H3 x03 ry'
/-- a, b = {k: v}, data -/
theorem st_parSD {i j : Nat} {n : Int} {e2 : En} {tw : TE} (env : EnvD K H s c) (ke : Ky (.tuple ds)) (h1 : ∀ H', Same H H' → EvE K s H' te (.im (.tuple ds))) (h2 : ∀ H', Same H H' → EvE K s H' tv (.im (.int n))) (h3 : ∀ H', Same H H' → EvE K s H' tw e2)
    (k : ∀ la b s' H1, Same H H1 → H la = none → DicOk P w K H1 la [(.tuple ds, b, .int n)] → EnvD K H1 s' ((c.set i (some (.rf la))).set j (some e2)) → D.nx s' H1) : tPar i j (tCons (tDisp1 P w K te tv) (tCons tw tNil)) D s H := fun p hp => by
  have xn := same_new (o := KDs P w p []) hp
  refine h1 _ xn _ (Same.refl _) _ fun y H1 x1 ry => h2 _ (xn.trans x1) H1 (Same.refl _) _ fun v H2 x2 rv => ?_
  obtain ⟨b, xs, f1, f2, f3⟩ := im_tup ry
  have hp2 : H2 p = some (KDs P w p []) := x2 _ _ (x1 _ _ upd_same)
  have ry' : Im K H2 (.ref b) (.tuple ds) := by rw [← f1]; exact Im.mono (tk_of x2) ry
  refine ⟨b, .tuple ds, f1, ry', ke, hp2, ?_⟩
  rw [im_int rv]
  have s2 : Same H (upd H2 p (KDs P w p [(.tuple ds, b, .int n)])) := fun b' o e => by
    rw [upd_ne (ne_of_none e hp)]
    exact x2 _ _ (x1 _ _ (xn _ _ e))
  have tk2 : Tk H2 (upd H2 p (KDs P w p [(.tuple ds, b, .int n)])) := tk_upd hp2 (fun _ z => by unfold KDs at z; cases z) (fun _ _ z => by unfold KDs at z; cases z)
  refine h3 _ s2 _ (Same.refl _) _ fun v3 H3 x3 r3 => ⟨.ref p, v3, rfl, k p b _ H3 (s2.trans x3) hp ?_ (((env.mono (tk_of (s2.trans x3))).set (e := .rf p) rfl i).set r3 j)⟩
  exact DicOk.mono ⟨upd_same, fun q hq => by rw [List.mem_singleton.mp hq]; exact ⟨Im.mono tk2 ry', ke⟩⟩ x3
/-- o.f = a new list -/
theorem st_fldL {C dx g : Addr} {fs : List (Str × V)} {f : Str} (h : EvL K s H tv ds) (hg : H g = some (.ins C dx fs)) (cl : Cls K C) (na : NoAttr K C f) (hz : fs.length < 1000) (ho : EvE K s H ta (.rf g))
    (k : ∀ la xs H1, Same H H1 → H la = none → H1 la = some (.lst xs) → ImAll K H1 xs ds → H1 g = some (.ins C dx fs) → D.nx s (upd H1 g (.ins C dx (putF f (.ref la) fs)))) : sFld K ta tv f D s H :=
  h H (Same.refl _) _ fun la xs H1 x1 nl hl hx => ho H1 x1 _ fun x H2 x2 rx =>
    ⟨g, C, dx, fs, rx, x2 _ _ (x1 _ _ hg), cl, na, hz, k la xs H2 (x1.trans x2) nl (x2 _ _ hl) (hx.mono (tk_of x2)) (x2 _ _ (x1 _ _ hg))⟩
theorem tk_ins {C dx g : Addr} {fs : List (Str × V)} {o : HO} (h : H g = some (.ins C dx fs)) : Tk H (upd H g o) := tk_upd h (fun _ z => by cases z) (fun _ _ z => by cases z)
theorem tk_kds {o : HO} (h : H d = some (KDs P w d kvs)) : Tk H (upd H d o) := tk_upd h (fun _ z => by unfold KDs at z; cases z) (fun _ _ z => by unfold KDs at z; cases z)
end
end CB

/-! ## KB13 -/
set_option Elab.async false
set_option linter.all false
set_option maxRecDepth 100000
set_option maxHeartbeats 4000000
/-! Graph.__init__. -/
namespace CB
open PySem PySem.Spec L2 NdefX
local macro_rules | `(tactic| walk_at "ev1") => `(tactic| (first
  | exact ev_i | exact ev_b | exact ev_n | exact ev_s | exact ev_v (by assumption) rfl | exact ea_n
  | refine' ea_c ?_ ?_ | with_reducible refine' ev_ixT ?_ ?_ ?_ | with_reducible refine' ev_ixTl ?_ ?_ ?_
  | with_reducible refine' ev_add ?_ ?_ | with_reducible refine' ev_sub ?_ ?_
  | with_reducible refine' ev_lt ?_ ?_ | with_reducible refine' ev_le ?_ ?_ | with_reducible refine' ev_gt ?_ ?_ | with_reducible refine' ev_ge ?_ ?_
  | with_reducible refine' ev_eqI ?_ ?_ | with_reducible refine' ev_neI ?_ ?_ | with_reducible refine' ev_eqS ?_ ?_
  | with_reducible refine' ev_isN ?_ | with_reducible refine' ev_notN ?_ | with_reducible refine' ev_chain ?_ ?_ ?_ | with_reducible refine' ev_neg ?_
  | with_reducible refine' is_ii ?_ | with_reducible refine' is_ib ?_ | with_reducible refine' is_bb ?_ | with_reducible refine' is_ss ?_ | with_reducible refine' is_tt ?_
  | with_reducible refine' ev_andV ?_ ?_ | with_reducible refine' ev_orV ?_ ?_ | with_reducible refine' ev_notV ?_
  | with_reducible refine' ev_lenT ?_ | with_reducible refine' ev_min ?_ ?_ | with_reducible refine' ev_max ?_ ?_
  | with_reducible refine' et_test ?_ | with_reducible refine' et_B ?_ | with_reducible refine' et_not ?_ | with_reducible refine' et_and ?_ ?_ | with_reducible refine' et_or ?_ ?_ | exact et_yes
  | with_reducible refine' eo_some ?_ | exact eo_none | (with_reducible intro _) | rfl))
local macro_rules | `(tactic| walk_at "ev") => `(tactic| repeat' walk_at "ev1")
local macro_rules | `(tactic| walk_at "sq") => `(tactic| try dsimp only [tSeq, tNext])
local macro_rules | `(tactic| walk_at "cx") => `(tactic| try dsimp only [cxOf, Cx.nox, Cx.wish])

def rowP (S : Setg) (place : Nat) (nd : List Stt) (v i : Nat) : List PyData := (List.range i).map fun k => .tuple [.int ((stepM S (nd.getD v (firstM S)) (k : Nat)).get place), .int (nxM S nd v k : Nat)]
def rowsP (S : Setg) (m place : Nat) (nd : List Stt) (j : Nat) : List (List PyData) := (List.range j).map fun v => rowP S place nd v (m + 1)
theorem rowP_app {S : Setg} {place : Nat} {nd : List Stt} {v i : Nat} (hv : v < nd.length) (cl : ∀ k, k < i → nxt S nd v k ∈ nd) (more : List Stt) : rowP S place (nd ++ more) v i = rowP S place nd v i := by
  unfold rowP
  refine List.map_congr_left fun k hk => ?_
  rw [getD_app hv, nxM_app hv (cl k (List.mem_range.mp hk))]
theorem rowsP_app {S : Setg} {m place : Nat} {nd : List Stt} {j : Nat} (hj : j ≤ nd.length) (cl : ∀ v k, v < j → k ≤ m → nxt S nd v k ∈ nd) (more : List Stt) : rowsP S m place (nd ++ more) j = rowsP S m place nd j := by
  unfold rowsP
  refine List.map_congr_left fun v hv => ?_
  have hv := List.mem_range.mp hv
  exact rowP_app (by omega) (fun k hk => cl v k hv (by omega)) more
def EntsOf (kvs : List Ent) (nd : List Stt) : Prop := kvs.map (fun e => (e.1, e.2.2)) = nd.mapIdx fun i t => (encT t, V.int ((i : Nat) : Int))
theorem ents_get {kvs : List Ent} {nd : List Stt} (h : EntsOf kvs nd) {t : Stt} (ht : t ∈ nd) : ∃ p, p ∈ kvs ∧ p.1 = encT t ∧ p.2.2 = .int (nd.idxOf t : Nat) := by
  have g := idx_get ht
  have e : (nd.mapIdx fun i t => (encT t, V.int ((i : Nat) : Int)))[nd.idxOf t]? = some (encT t, V.int (nd.idxOf t : Nat)) := by
    rw [List.getElem?_mapIdx, g]
    rfl
  rw [← h, List.getElem?_map] at e
  cases ek : kvs[nd.idxOf t]? with
  | none => rw [ek] at e; cases e
  | some p =>
    rw [ek] at e
    have e := Option.some.inj e
    exact ⟨p, List.mem_of_getElem? ek, (Prod.mk.inj e).1, (Prod.mk.inj e).2⟩
theorem ents_not {kvs : List Ent} {nd : List Stt} (h : EntsOf kvs nd) {t : Stt} (ht : t ∉ nd) : ∀ p, p ∈ kvs → p.1 ≠ encT t := fun p hp e => by
  have hm : (p.1, p.2.2) ∈ kvs.map fun e => (e.1, e.2.2) := List.mem_map.mpr ⟨p, hp, rfl⟩
  rw [h] at hm
  obtain ⟨i, hi, e2⟩ := List.mem_mapIdx.mp hm
  have e3 := (Prod.mk.inj e2).1
  rw [e] at e3
  exact ht (encT_inj e3 ▸ List.getElem_mem hi)
theorem ents_push {kvs : List Ent} {nd : List Stt} (h : EntsOf kvs nd) (t : Stt) (b : Addr) : EntsOf (kvs ++ [(encT t, b, .int (nd.length : Nat))]) (nd ++ [t]) := by
  unfold EntsOf at *
  rw [List.map_append, h, List.mapIdx_append]
  simp
theorem ents_length {kvs : List Ent} {nd : List Stt} (h : EntsOf kvs nd) : kvs.length = nd.length := by
  have := congrArg List.length h
  rw [List.length_map, List.length_mapIdx] at this
  exact this
/-- the four things of the making stand apart, and are new -/
structure Far (H0 : Hp) (g ln le lb dp : Addr) : Prop where
  n0 : H0 ln = none
  e0 : H0 le = none
  b0 : H0 lb = none
  d0 : H0 dp = none
  gn : g ≠ ln
  ge : g ≠ le
  gb : g ≠ lb
  gd : g ≠ dp
  ne : ln ≠ le
  nb : ln ≠ lb
  nd : ln ≠ dp
  eb : le ≠ lb
  ed : le ≠ dp
  bd : lb ≠ dp
structure InAt (P : Program) (w : World) (K : Fg) (H0 H' : Hp) (g C dx : Addr) (fs : List (Str × V)) (ln le lb dp : Addr) (nd : List Stt) (rows : List (List PyData)) (bf : List (Option (Nat × Nat))) : Prop where
  keep : ∀ b o, b ≠ g → H0 b = some o → H' b = some o
  obj : H' g = some (.ins C dx fs)
  n : ∃ xs, H' ln = some (.lst xs) ∧ ImAll K H' xs (nd.map encT)
  e : ∃ rs : List Addr, H' le = some (.lst (rs.map V.ref)) ∧ RowsAt K H' rs rows ∧ ∀ r, r ∈ rs → r ≠ ln ∧ r ≠ le ∧ r ≠ lb ∧ r ≠ dp ∧ H0 r = none ∧ r ≠ g
  b : ∃ xs, H' lb = some (.lst xs) ∧ ImAll K H' xs (bf.map encB)
  d : ∃ kvs, DicOk P w K H' dp kvs ∧ EntsOf kvs nd
section
variable {P : Program} {w : World} {K : Fg} {H0 H' H2 : Hp} {g C dx : Addr} {fs : List (Str × V)} {ln le lb dp x : Addr} {nd : List Stt} {rows : List (List PyData)} {bf : List (Option (Nat × Nat))} {o : HO}
theorem InAt.mono (h : InAt P w K H0 H' g C dx fs ln le lb dp nd rows bf) (s : Same H' H2) : InAt P w K H0 H2 g C dx fs ln le lb dp nd rows bf where
  keep := fun b o hb e => s _ _ (h.keep b o hb e)
  obj := s _ _ h.obj
  n := let ⟨xs, a, b⟩ := h.n; ⟨xs, s _ _ a, b.mono (tk_of s)⟩
  e := let ⟨rs, a, b, c⟩ := h.e; ⟨rs, s _ _ a, b.mono s, c⟩
  b := let ⟨xs, a, b⟩ := h.b; ⟨xs, s _ _ a, b.mono (tk_of s)⟩
  d := let ⟨kvs, a, b⟩ := h.d; ⟨kvs, a.mono s, b⟩
theorem rows_upd {rs : List Addr} (h : RowsAt K H' rs rows) (tk : Tk H' (upd H' x o)) (n : ∀ r, r ∈ rs → r ≠ x) : RowsAt K (upd H' x o) rs rows := ⟨h.1, fun i r row e1 e2 => by
  obtain ⟨xs, a, b⟩ := h.2 i r row e1 e2
  exact ⟨xs, by rw [upd_ne (n r (List.mem_of_getElem? e1))]; exact a, b.mono tk⟩⟩
theorem dic_upd {kvs : List Ent} (h : DicOk P w K H' dp kvs) (tk : Tk H' (upd H' x o)) (n : dp ≠ x) : DicOk P w K (upd H' x o) dp kvs := h.tk tk (upd_ne n)
/-- a row written -/
theorem InAt.row (h : InAt P w K H0 H' g C dx fs ln le lb dp nd rows bf) (tk : Tk H' (upd H' x o)) (h0 : H0 x = none) (hg : x ≠ g) (hn : x ≠ ln) (he : x ≠ le) (hb : x ≠ lb) (hd : x ≠ dp) (hr : ∀ rs : List Addr, H' le = some (.lst (rs.map V.ref)) → x ∉ rs) : InAt P w K H0 (upd H' x o) g C dx fs ln le lb dp nd rows bf where
  keep := fun b o' hb e => by rw [upd_ne (ne_of_none e h0)]; exact h.keep b o' hb e
  obj := by rw [upd_ne hg.symm]; exact h.obj
  n := let ⟨xs, a, b⟩ := h.n; ⟨xs, by rw [upd_ne hn.symm]; exact a, b.mono tk⟩
  e := let ⟨rs, a, b, c⟩ := h.e; ⟨rs, by rw [upd_ne he.symm]; exact a, rows_upd b tk (fun r hm e => hr rs a (e ▸ hm)), c⟩
  b := let ⟨xs, a, b⟩ := h.b; ⟨xs, by rw [upd_ne hb.symm]; exact a, b.mono tk⟩
  d := let ⟨kvs, a, b⟩ := h.d; ⟨kvs, dic_upd a tk hd.symm, b⟩
theorem cloD_keep {f : Addr} {F : NF} {fr : List Str} {cd : List PyData} (c : CloD K H0 f (FnO f F) F fr cd) (hg : H0 g = some (.ins C dx [])) (k : ∀ b o, b ≠ g → H0 b = some o → H' b = some o) : CloD K H' f (FnO f F) F fr cd := by
  obtain ⟨ws, c1, c2⟩ := c
  have ng : ∀ {b : Addr} {o : HO}, H0 b = some o → (∀ C dx fs, o ≠ .ins C dx fs) → H' b = some o := fun {b o} e n => k b o (fun z => by
    rw [z, hg] at e
    exact n _ _ _ (Option.some.inj e).symm) e
  refine ⟨ws, ⟨ng c1.fn (fun _ _ _ z => by unfold FnO at z; cases z), ng c1.code (fun _ _ _ z => by unfold LamX.CodeO at z; cases z), fun b e => let ⟨ob, v, z⟩ := c1.known b e; ⟨ob, v, ng z fun _ _ _ q => by cases q⟩, c1.len, c1.inj, fun i y e => let ⟨a, v, ob, z1, z2, z3⟩ := c1.has i y e; ⟨a, v, ob, z1, z2, ng z3 fun _ _ _ q => by cases q⟩⟩, c2.mono fun a xs r => ?_⟩
  rcases r with r | ⟨ob, r⟩
  · exact (ng r fun _ _ _ z => by cases z).trans r.symm
  · exact (ng r fun _ _ _ z => by cases z).trans r.symm
end
section
variable {P : Program} {w : World} {K : Fg} {mg : Str → Option Value} {base : Heap}
abbrev s_Graph___init__ : Stmt := topM 46 0
theorem sc_Graph___init__ : FnScope ["self", "first", "most", "go", "places", "at", "row", "number", "told", "node"] ["self", "first", "most", "go"] (defScope s_Graph___init__) := ⟨rfl, rfl, rfl, by decide +kernel, rfl, by decide +kernel, by decide +kernel⟩
def spInit (K : Fg) (C : Addr) : Sp := fun vs H Q _ => ∃ (g dx f : Addr) (F : NF) (S : Setg) (m place : Nat), EnAll K H [.rf g, .im (encT (firstM S)), .im (.int (m : Int)), .rf f] vs ∧ H g = some (.ins C dx []) ∧ isG F ∧ CloD K H f (FnO f F) F ["place", "setting"] [.int (place : Int), encS S] ∧ S.Ok ∧ m ≤ 3 ∧ place < 6 ∧
  ∀ H' G, (∀ b o, b ≠ g → H b = some o → H' b = some o) → Nonempty (GAt K H' C g S m place G) → G.Ok S m → Q .non H'
theorem d_init {C : Addr} (B : Bn K mg) (gc : GrC K C) (F_step : Df P w K mg base 2 "step" ["setting", "state", "fresh"] (spD K R_step)) {f0 : Addr} {fd0 : FuncData} (F : FunD K "__init__" "Graph.__init__" (defArgs s_Graph___init__) (defBody s_Graph___init__) (defScope s_Graph___init__) [] [] f0 fd0) : FnOk P w K mg base CX0 4 f0 fd0 ["self", "first", "most", "go"] (spInit K C) := by
  refine F.ok sc_Graph___init__ (fun vs H Q E h => by obtain ⟨_, _, _, _, _, _, _, e, _⟩ := h; exact (enAll_len e).symm) fun cdv A outer s H vs Q E hr h => ?_
  obtain ⟨t, h1, h2⟩ : ∃ t, PSs (cxOf CX0 P w K mg base ["self", "first", "most", "go", "places", "at", "row", "number", "told", "node"] "Graph.__init__" (defScope s_Graph___init__) f0 cdv A outer s H E).nox (defBody s_Graph___init__) t ∧ t { nx := fun _ H' => Q .non H', rt := Q } (L2.start ["self", "first", "most", "go", "places", "at", "row", "number", "told", "node"] vs) H := by
    refine ⟨_, (pss_cons (ps_fld (pv 0) (pe_lst (pa_cons (pv 1) pa_nil)) rfl)
  (pss_cons (ps_fld (pv 0) (pe_lst pa_nil) rfl)
  (pss_cons (ps_fld (pv 0) (pe_lst (pa_cons pe_non pa_nil)) rfl)
  (pss_cons (ps_par (i := 4) (j := 5) rfl sc_Graph___init__.nd rfl rfl (by decide) rfl rfl (pa_cons (pe_disp1 hr.units (pv 1) pe_int) (pa_cons pe_int pa_nil)) (by rfl))
  (pss_one (ps_while PassesOwn.never (pt_cmpR op_lt (pv 5) (pe_callB c_len rfl B.len bt_len (pa_cons (pe_fld (pv 0) rfl) pa_nil)) (nomark _)) (pss_cons (ps_set (i := 6) sc_Graph___init__.nd rfl (by first | exact Or.inl rfl | exact Or.inr rfl) (pe_lst pa_nil))
  (pss_cons (ps_for PassesOwn.never rfl (pi_range1 rfl B.range (pa_cons (pe_op op_add (pv 2) pe_int) pa_nil)) (pg_name (i := 7) sc_Graph___init__.nd rfl (by first | exact Or.inl rfl | exact Or.inr rfl)) (pss_cons (ps_asg (pe_go F_step (hr.mono (by decide)) 3 (pa_cons (pe_ix ix_list (pe_fld (pv 0) rfl) (pv 5) (fun _ _ => rfl)) (pa_cons (pv 7) pa_nil))) (pg_tup rfl (pgs_cons (pg_name (i := 8) sc_Graph___init__.nd rfl (by first | exact Or.inl rfl | exact Or.inr rfl)) (pgs_cons (pg_name (i := 9) sc_Graph___init__.nd rfl (by first | exact Or.inl rfl | exact Or.inr rfl)) pgs_nil))))
  (pss_cons (ps_if (pt_cmp (pc_snotin hr.units (pv 9) (pv 4))) (pss_cons (ps_if (pt_cmpR op_eq (pe_callB c_len rfl B.len bt_len (pa_cons (pe_fld (pv 0) rfl) pa_nil)) (pe_gi B.g_LIMIT rfl) (nomark _)) (pss_one ps_never) pss_nil)
  (pss_cons (ps_sput hr.units (pv 4) (pv 9) (pe_callB c_len rfl B.len bt_len (pa_cons (pe_fld (pv 0) rfl) pa_nil)) (by rfl))
  (pss_cons (ps_expr (pe_bm PySem.F.plainAttrs_list PySem.F.slot_list_append PySem.F.type_list_append mt_append (pe_fld (pv 0) rfl) (pa_cons (pv 9) pa_nil)))
  (pss_one (ps_expr (pe_bm PySem.F.plainAttrs_list PySem.F.slot_list_append PySem.F.type_list_append mt_append (pe_fld (pv 0) rfl) (pa_cons (pe_tup (pa_cons (pv 5) (pa_cons (pv 7) pa_nil))) pa_nil))))))) pss_nil)
  (pss_one (ps_expr (pe_bm PySem.F.plainAttrs_list PySem.F.slot_list_append PySem.F.type_list_append mt_append (pv 6) (pa_cons (pe_tup (pa_cons (pv 8) (pa_cons (pe_sget hr.units (pv 4) (pv 9) (fun _ _ => rfl)) pa_nil))) pa_nil)))))))
  (pss_cons (ps_expr (pe_bm PySem.F.plainAttrs_list PySem.F.slot_list_append PySem.F.type_list_append mt_append (pe_fld (pv 0) rfl) (pa_cons (pv 6) pa_nil)))
  (pss_one (ps_set (i := 5) sc_Graph___init__.nd rfl (by first | exact Or.inl rfl | exact Or.inr rfl) (pe_op op_add (pv 5) pe_int)))))))))))), ?_⟩
    obtain ⟨g, dx, f, Fg, S, m, place, hen, hg, hF, hclo, ok, hm3, hpl, k⟩ := h
    have env := env_start (N := ["self", "first", "most", "go", "places", "at", "row", "number", "told", "node"]) hen
    try simp only [unpackE, unpackD, wipeD, unT, List.map_cons, List.map_nil, List.length_cons, List.length_nil, List.cons_append, List.nil_append, List.replicate_succ, List.replicate_zero, List.set_cons_succ, List.set_cons_zero, Nat.reduceAdd, Nat.reduceSub] at env
    walk_at "cx"
    walk_at "sq"
    have w1 := ok.w1
    -- nodes
    refine st_fldL (ds := [encT (firstM S)]) (el_lst (ds := [encT (firstM S)]) (ea_c (ev_v env rfl) ea_n) (by show 1 ≤ sizeLine; decide)) hg gc.cls gc.nodes (by decide) (ev_v env rfl) fun ln xn H1 x1 nln hln hxn hg1 => ?_
    have env := env.mono ((tk_of x1).trans (tk_ins (o := .ins C dx (putF "nodes" (.ref ln) [])) hg1))
    have gln : g ≠ ln := ne_of_none hg nln
    walk_at "sq"
    -- edges
    refine st_fldL (ds := []) (el_lst (ds := []) ea_n (by decide)) upd_same gc.cls gc.edges (by show 1 < 1000; decide) (ev_v env rfl) fun le xe H2 x2 nle hle hxe hg2 => ?_
    cases hxe
    have env := env.mono ((tk_of x2).trans (tk_ins (o := .ins C dx (putF "edges" (.ref le) (putF "nodes" (.ref ln) []))) hg2))
    walk_at "sq"
    have hln1 : upd H1 g (.ins C dx (putF "nodes" (.ref ln) [])) ln = some (.lst xn) := by rw [upd_ne gln.symm]; exact hln
    have gle : g ≠ le := ne_of_none upd_same nle
    have nle' : ln ≠ le := ne_of_none hln1 nle
    -- before
    refine st_fldL (ds := [.none]) (el_lst (ds := [.none]) (ea_c ev_n ea_n) (by show 1 ≤ sizeLine; decide)) upd_same gc.cls gc.before (by show 2 < 1000; decide) (ev_v env rfl) fun lb xb H3 x3 nlb hlb hxb hg3 => ?_
    have env := env.mono ((tk_of x3).trans (tk_ins (o := .ins C dx (putF "before" (.ref lb) (putF "edges" (.ref le) (putF "nodes" (.ref ln) [])))) hg3))
    walk_at "sq"
    have hln2 : upd H2 g (.ins C dx (putF "edges" (.ref le) (putF "nodes" (.ref ln) []))) ln = some (.lst xn) := by rw [upd_ne gln.symm]; exact x2 _ _ hln1
    have hle2 : upd H2 g (.ins C dx (putF "edges" (.ref le) (putF "nodes" (.ref ln) []))) le = some (.lst []) := by rw [upd_ne gle.symm]; exact hle
    have glb : g ≠ lb := ne_of_none upd_same nlb
    have nlb' : ln ≠ lb := ne_of_none hln2 nlb
    have elb' : le ≠ lb := ne_of_none hle2 nlb
    obtain ⟨H4, eH4⟩ : ∃ H4, H4 = upd H3 g (.ins C dx (putF "before" (.ref lb) (putF "edges" (.ref le) (putF "nodes" (.ref ln) [])))) := ⟨_, rfl⟩
    rw [← eH4] at env ⊢
    have hg4 : H4 g = some (.ins C dx (putF "before" (.ref lb) (putF "edges" (.ref le) (putF "nodes" (.ref ln) [])))) := by rw [eH4]; exact upd_same
    have hln4 : H4 ln = some (.lst xn) := by rw [eH4, upd_ne gln.symm]; exact x3 _ _ hln2
    have hle4 : H4 le = some (.lst []) := by rw [eH4, upd_ne gle.symm]; exact x3 _ _ hle2
    have hlb4 : H4 lb = some (.lst xb) := by rw [eH4, upd_ne glb.symm]; exact hlb
    have tk14 : Tk H1 H4 := by
      rw [eH4]
      exact (((tk_ins hg1).trans (tk_of x2)).trans ((tk_ins hg2).trans (tk_of x3))).trans (tk_ins hg3)
    have tk34 : Tk H3 H4 := by rw [eH4]; exact tk_ins hg3
    have keep4 : ∀ b o, b ≠ g → H b = some o → H4 b = some o := fun b o hb e => by
      rw [eH4, upd_ne hb]
      refine x3 _ _ ?_
      rw [upd_ne hb]
      refine x2 _ _ ?_
      rw [upd_ne hb]
      exact x1 _ _ e
    have nln0 : H ln = none := nln
    have nle0 : H le = none := by
      cases z : H le with
      | none => rfl
      | some o =>
        have := x1 _ _ z
        rw [upd_ne gle.symm] at nle
        rw [nle] at this
        cases this
    have nlb0 : H lb = none := by
      cases z : H lb with
      | none => rfl
      | some o =>
        have h1 := x1 _ _ z
        have h2 := x2 lb o (by rw [upd_ne glb.symm]; exact h1)
        rw [upd_ne glb.symm] at nlb
        rw [nlb] at h2
        cases h2
    generalize efs : putF "before" (.ref lb) (putF "edges" (.ref le) (putF "nodes" (.ref ln) ([] : List (Str × V)))) = fs at *
    have fn : fs.lookup ("nodes" : Str) = some (V.ref ln) := by rw [← efs]; rfl
    have fe : fs.lookup ("edges" : Str) = some (V.ref le) := by rw [← efs]; rfl
    have fb : fs.lookup ("before" : Str) = some (V.ref lb) := by rw [← efs]; rfl
    have fm : fs.lookup ("row_to" : Str) = none := by rw [← efs]; rfl
    -- places, at
    refine st_parSD (n := 0) (e2 := .im (.int 0)) env (ky_T (firstM S)) (fun H' x => ev_v (env.mono (tk_of x)) rfl) (fun H' _ => ev_i) (fun H' _ => ev_i) fun dp b0 s5 H5 x5 ndp hdp env => ?_
    try simp only [unpackE, unpackD, wipeD, unT, List.map_cons, List.map_nil, List.length_cons, List.length_nil, List.cons_append, List.nil_append, List.replicate_succ, List.replicate_zero, List.set_cons_succ, List.set_cons_zero, Nat.reduceAdd, Nat.reduceSub] at env
    walk_at "sq"
    have ndp0 : H dp = none := by
      cases z : H dp with
      | none => rfl
      | some o =>
        by_cases hd : dp = g
        · rw [hd] at ndp
          rw [hg4] at ndp
          cases ndp
        · have := keep4 dp o hd z
          rw [ndp] at this
          cases this
    have far : Far H g ln le lb dp := ⟨nln0, nle0, nlb0, ndp0, gln, gle, glb, ne_of_none hg4 ndp, nle', nlb', ne_of_none hln4 ndp, elb', ne_of_none hle4 ndp, ne_of_none hlb4 ndp⟩
    have in5 : InAt P w K H H5 g C dx fs ln le lb dp [firstM S] (rowsP S m place [firstM S] 0) [none] := by
      refine ⟨fun b o hb e => x5 _ _ (keep4 b o hb e), x5 _ _ hg4, ⟨xn, x5 _ _ hln4, hxn.mono (tk14.trans (tk_of x5))⟩, ⟨[], x5 _ _ hle4, ⟨rfl, fun i r row h _ => by simp at h⟩, fun r hr => by cases hr⟩, ⟨xb, x5 _ _ hlb4, hxb.mono (tk34.trans (tk_of x5))⟩, ⟨_, hdp, rfl⟩⟩
    refine st_whileG (K := K) (α := List Stt × List (Option (Nat × Nat)) × Nat) (fun a s' H' => Bfs S m a.1 a.2.1 ∧ a.2.2 ≤ a.1.length ∧ (∀ v k, v < a.2.2 → k ≤ m → nxt S a.1 v k ∈ a.1) ∧ InAt P w K H H' g C dx fs ln le lb dp a.1 (rowsP S m place a.1 a.2.2) a.2.1 ∧
        EnvD K H' s' [some (.rf g), some (.im (encT (firstM S))), some (.im (.int (m : Int))), some (.rf f), some (.rf dp), some (.im (.int (a.2.2 : Int))), none, none, none, none])
      (fun a => 2000 - a.2.2) (fun a => decide (a.2.2 < a.1.length)) ([firstM S], [none], 0) ⟨Bfs.start ok, Nat.zero_le _, fun v k hv => absurd hv (Nat.not_lt_zero _), in5, env⟩ ?_ ?_ ?_ ?_
    · rintro ⟨nd, bf, j⟩ s' H' ⟨q1, q2, q3, q4, env⟩
      obtain ⟨xs, a1, a2⟩ := q4.n
      refine EvT.is (et_test (ev_lt (ev_v env rfl) (ev_lenL (SqL.of a1) (ev_fld gc.cls gc.nodes q4.obj fn (ev_v env rfl))))) ?_
      rw [imAll_len a2, List.length_map]
      exact decide_eq_decide.mpr (by dsimp only; omega)
    · rintro ⟨nd, bf, j⟩ s' H' H6 ⟨q1, q2, q3, q4, env⟩ x6
      exact ⟨q1, q2, q3, q4.mono x6, env.mono (tk_of x6)⟩
    · rintro ⟨nd, bf, j⟩ s' H' ⟨q1, q2, q3, q4, env⟩ ht
      have ht : j < nd.length := of_decide_eq_true ht
      have q1 : Bfs S m nd bf := q1
      have q3 : ∀ v k, v < j → k ≤ m → nxt S nd v k ∈ nd := q3
      have q4 : InAt P w K H H' g C dx fs ln le lb dp nd (rowsP S m place nd j) bf := q4
      refine st_setL env (el_lst (ds := []) ea_n (by decide)) fun lr yr H6 x6 nlr hlr hyr env => ?_
      cases hyr
      try simp only [unpackE, unpackD, wipeD, unT, List.map_cons, List.map_nil, List.length_cons, List.length_nil, List.cons_append, List.nil_append, List.replicate_succ, List.replicate_zero, List.set_cons_succ, List.set_cons_zero, Nat.reduceAdd, Nat.reduceSub] at env
      walk_at "sq"
      have q46 := q4.mono x6
      have lrg : lr ≠ g := fun e => by rw [e, q4.obj] at nlr; cases nlr
      have lr0 : H lr = none := by
        cases z : H lr with
        | none => rfl
        | some o =>
          have := q4.keep lr o lrg z
          rw [nlr] at this
          cases this
      have lrn : lr ≠ ln := fun e => by obtain ⟨xs, a1, _⟩ := q4.n; rw [e, a1] at nlr; cases nlr
      have lre : lr ≠ le := fun e => by obtain ⟨xs, a1, _⟩ := q4.e; rw [e, a1] at nlr; cases nlr
      have lrb : lr ≠ lb := fun e => by obtain ⟨xs, a1, _⟩ := q4.b; rw [e, a1] at nlr; cases nlr
      have lrd : lr ≠ dp := fun e => by obtain ⟨xs, a1, _⟩ := q4.d; rw [e, a1.at_] at nlr; cases nlr
      -- the rows' addresses stay the same while the row is made
      obtain ⟨rs, he0, hrows0, hrs⟩ := q4.e
      have hrl : rs.length = j := by rw [hrows0.1]; unfold rowsP; rw [List.length_map, List.length_range]
      have lrs : lr ∉ rs := fun hm => by
        obtain ⟨i, hi⟩ := List.mem_iff_getElem?.mp hm
        have hi2 := (List.getElem?_eq_some_iff.mp hi).1
        obtain ⟨xs, a1, _⟩ := hrows0.2 i lr _ hi (List.getElem?_eq_getElem (by rw [← hrows0.1]; exact hi2))
        rw [nlr] at a1
        cases a1
      have lrs' : ∀ {Hx : Hp} {rs' : List Addr}, Hx le = some (.lst (rs.map V.ref)) → Hx le = some (.lst (rs'.map V.ref)) → lr ∉ rs' := fun {Hx rs'} e1 e2 => by
        rw [e1] at e2
        have : rs.map V.ref = rs'.map V.ref := HO.lst.inj (Option.some.inj e2)
        have : rs = rs' := (List.map_inj_right (f := V.ref) (fun x y e => by cases e; rfl)).mp this
        rw [← this]
        exact lrs
      refine st_forR (K := K) (n := ((m + 1 : Nat) : Int)) (ea_c (EvE.is (ev_add (ev_v env rfl) ev_i) rfl) ea_n) (by omega) (by omega)
        (fun i s' H' => ∃ nd' bf', Bfs S m nd' bf' ∧ j < nd'.length ∧ (∀ v k, v < j → k ≤ m → nxt S nd' v k ∈ nd') ∧ (∀ k, k < i → nxt S nd' j k ∈ nd') ∧ InAt P w K H H' g C dx fs ln le lb dp nd' (rowsP S m place nd' j) bf' ∧ H' le = some (.lst (rs.map V.ref)) ∧
          (∃ ys, H' lr = some (.lst ys) ∧ ImAll K H' ys (rowP S place nd' j i)) ∧ EnvD K H' s' [some (.rf g), some (.im (encT (firstM S))), some (.im (.int (m : Int))), some (.rf f), some (.rf dp), some (.im (.int (j : Int))), some (.rf lr), none, none, none])
        (fun H7 x7 => ⟨nd, bf, q1, ht, q3, fun k hk => absurd hk (Nat.not_lt_zero _), q46.mono x7, x7 _ _ (x6 _ _ he0), ⟨[], x7 _ _ hlr, .nil⟩, env.mono (tk_of x7)⟩) ?_ ?_
      · rintro i s' H7 hi ⟨nd, bf, b1, b2, b3, b4, b5, b6, ⟨ys, b7, b8⟩, env⟩
        have him : i ≤ m := by omega
        have env := env.set (e := .im (.int (i : Int))) (.int _) 7
        try simp only [unpackE, unpackD, wipeD, unT, List.map_cons, List.map_nil, List.length_cons, List.length_nil, List.cons_append, List.nil_append, List.replicate_succ, List.replicate_zero, List.set_cons_succ, List.set_cons_zero, Nat.reduceAdd, Nat.reduceSub] at env
        dsimp only [gName]
        walk_at "sq"
        obtain ⟨xs, n1, n2⟩ := b5.n
        have hsh := b1.shp _ (List.mem_of_getElem? (b1.get b2))
        -- told, node
        refine st_unpack (is := [8, 9]) (n := 2) (ds := [.int ((stepM S (nd.getD j (firstM S)) (i : Nat)).get place), encT (nxt S nd j i)]) env (ev_clo (ds := [encT (nd.getD j (firstM S)), .int (i : Int)]) env rfl hF (cloD_keep hclo hg b5.keep) (ea_c (ev_ixL (n := j) (SqL.of n1) n2 (ev_fld gc.cls gc.nodes b5.obj fn (ev_v env rfl)) (ev_v env rfl) (by rw [List.getElem?_map, b1.get b2]; rfl)) (ea_c (ev_v env rfl) ea_n)) rfl ⟨S, _, _, place, rfl, rfl, ⟨ok, hsh.ok, by omega, hpl⟩, rfl⟩) rfl rfl fun s8 H8 x8 env => ?_
        try simp only [unpackE, unpackD, wipeD, unT, List.map_cons, List.map_nil, List.length_cons, List.length_nil, List.cons_append, List.nil_append, List.replicate_succ, List.replicate_zero, List.set_cons_succ, List.set_cons_zero, Nat.reduceAdd, Nat.reduceSub] at env
        walk_at "sq"
        have b58 := b5.mono x8
        obtain ⟨kvs, d1, d2⟩ := b58.d
        have hnl := b1.few ok hm3
        have hlrn8 : H8 lr = some (.lst ys) := x8 _ _ b7
        -- the end of the turn
        have rest : ∀ (nd' : List Stt) (bf' : List (Option (Nat × Nat))) (s9 : L2.St) (H9 : Hp) (D : Ends), Bfs S m nd' bf' → j < nd'.length → (∀ v k, v < j → k ≤ m → nxt S nd' v k ∈ nd') → (∀ k, k < i → nxt S nd' j k ∈ nd') → nxt S nd j i = nxt S nd' j i → nd'.getD j (firstM S) = nd.getD j (firstM S) → nxt S nd j i ∈ nd' → rowP S place nd' j i = rowP S place nd j i →
            InAt P w K H H9 g C dx fs ln le lb dp nd' (rowsP S m place nd' j) bf' → H9 le = some (.lst (rs.map V.ref)) → H9 lr = some (.lst ys) → ImAll K H9 ys (rowP S place nd j i) →
            EnvD K H9 s9 [some (.rf g), some (.im (encT (firstM S))), some (.im (.int (m : Int))), some (.rf f), some (.rf dp), some (.im (.int (j : Int))), some (.rf lr), some (.im (.int (i : Int))), some (.im (.int ((stepM S (nd.getD j (firstM S)) (i : Nat)).get place))), some (.im (encT (nxt S nd j i)))] →
            (∀ s' H', (∃ nd' bf', Bfs S m nd' bf' ∧ j < nd'.length ∧ (∀ v k, v < j → k ≤ m → nxt S nd' v k ∈ nd') ∧ (∀ k, k < i + 1 → nxt S nd' j k ∈ nd') ∧ InAt P w K H H' g C dx fs ln le lb dp nd' (rowsP S m place nd' j) bf' ∧ H' le = some (.lst (rs.map V.ref)) ∧
              (∃ ys, H' lr = some (.lst ys) ∧ ImAll K H' ys (rowP S place nd' j (i + 1))) ∧ EnvD K H' s' [some (.rf g), some (.im (encT (firstM S))), some (.im (.int (m : Int))), some (.rf f), some (.rf dp), some (.im (.int (j : Int))), some (.rf lr), none, none, none]) → D.nx s' H') →
            tDrop (tBM K "list" rAppend (tVar 6) (tCons (tTup (tCons (tVar 8) (tCons (tSGet P w K (tVar 4) (tVar 9)) tNil))) tNil)) D s9 H9 := by
          intro nd' bf' s9 H9 D c1 c2 c3 c4 c5 c5b c6 c6b c7 c8 c9 c10 env kD
          obtain ⟨kvs', d1', d2'⟩ := c7.d
          obtain ⟨p, hp, ep1, ep2⟩ := ents_get d2' c6
          have hyl : ys.length = i := by rw [imAll_len b8]; unfold rowP; rw [List.length_map, List.length_range]
          refine st_app c9 (ev_v env rfl) (en := .im (.tuple [.int ((stepM S (nd.getD j (firstM S)) (i : Nat)).get place), .int (nd'.idxOf (nxt S nd j i) : Nat)])) (ev_tup2 (ev_v env rfl) (ev_sget d1' hp ep1 ep2 (ev_v env rfl) (ev_v env rfl))) (by rw [hyl, sizeLine_eq]; omega) fun v Ha xa rv => ?_
          have hlra : Ha lr = some (.lst ys) := xa _ _ c9
          have tka := tk_lst (u := .lst (ys ++ [v])) hlra
          have hlea : Ha le = some (.lst (rs.map V.ref)) := xa _ _ c8
          refine kD _ _ ⟨nd', bf', c1, c2, c3, fun k hk => ?_, (c7.mono xa).row tka lr0 lrg lrn lre lrb lrd (fun rs' e => lrs' hlea e), by rw [upd_ne lre.symm]; exact hlea, ⟨_, upd_same, ?_⟩, (env.mono ((tk_of xa).trans tka)).weak rfl fun i e he => by
            match i with
            | 0 | 1 | 2 | 3 | 4 | 5 | 6 => exact he
            | 7 | 8 | 9 => cases he⟩
          · by_cases ek : k = i
            · rw [ek, ← c5]; exact c6
            · exact c4 k (by omega)
          · have e1 : rowP S place nd' j (i + 1) = rowP S place nd' j i ++ [.tuple [.int ((stepM S (nd.getD j (firstM S)) (i : Nat)).get place), .int (nd'.idxOf (nxt S nd j i) : Nat)]] := by
              unfold rowP
              rw [List.range_succ, List.map_append, ← c5b, c5]
              rfl
            rw [e1, c6b]
            exact imAll_app (c10.mono ((tk_of xa).trans tka)) (.cons (Im.mono tka rv) .nil)
        by_cases hmem : nxt S nd j i ∈ nd
        · obtain ⟨p, hp, ep1, ep2⟩ := ents_get d2 hmem
          refine st_if env (b := false) (et_B (ev_snot d1 (ky_T _) (fun h => by cases h) (fun _ => ⟨p, hp, ep1⟩) (ev_v env rfl) (ev_v env rfl))) (fun h => by cases h) fun _ H9 x9 env => ?_
          exact rest nd bf _ H9 _ b1 b2 b3 b4 rfl rfl hmem rfl (b58.mono x9) (x9 _ _ (x8 _ _ b6)) (x9 _ _ hlrn8) (b8.mono (tk_of (x8.trans x9))) env fun s' H' z => z
        · refine st_if env (b := true) (et_B (ev_snot d1 (ky_T _) (fun _ => ents_not d2 hmem) (fun h => by cases h) (ev_v env rfl) (ev_v env rfl))) (fun _ H9 x9 env => ?_) (fun h => by cases h)
          walk_at "sq"
          have b59 := b58.mono x9
          obtain ⟨xs9, m1, m2⟩ := b59.n
          have hx9 : xs9.length = nd.length := by rw [imAll_len m2, List.length_map]
          refine st_if env (b := false) (EvT.is (et_test (ev_eqI (ev_lenL (SqL.of m1) (ev_fld gc.cls gc.nodes b59.obj fn (ev_v env rfl))) ev_i)) (by rw [hx9]; exact decide_eq_false (by omega))) (fun h => by cases h) fun _ Ha xa env => ?_
          walk_at "sq"
          have b5a := b59.mono xa
          -- places[node] = len(self.nodes)
          refine st_sput (i := (nd.length : Int)) (d1.mono (x9.trans xa)) (ky_T _) (EvE.is (ev_lenL (SqL.of (xa _ _ m1)) (ev_fld gc.cls gc.nodes b5a.obj fn (ev_v env rfl))) (by rw [hx9])) (ev_v env rfl) (ev_v env rfl) (ents_not d2 hmem) (by rw [ents_length d2, sizeLine_eq]; omega) fun kb Hb xb rkb => ?_
          have b5b := b5a.mono xb
          have hdb := (d1.mono ((x9.trans xa).trans xb))
          have tkb := tk_kds (o := KDs P w dp (kvs ++ [(encT (nxt S nd j i), kb, .int (nd.length : Int))])) hdb.at_
          have env := env.mono ((tk_of xb).trans tkb)
          walk_at "sq"
          obtain ⟨Hc, eHc⟩ : ∃ Hc, Hc = upd Hb dp (KDs P w dp (kvs ++ [(encT (nxt S nd j i), kb, .int (nd.length : Int))])) := ⟨_, rfl⟩
          have eHc' : upd Hb dp (KDs P w dp (kvs ++ [(PyData.tuple [.int (nxt S nd j i).dead, encQ (nxt S nd j i).queue, .tuple [encI (nxt S nd j i).later], .int (nxt S nd j i).tokens, .int (nxt S nd j i).door], kb, V.int (nd.length : Int))])) = Hc := eHc.symm
          rw [← eHc] at env
          first
            | rw [eHc']
            | rw [← eHc]
          have tkc : Tk Hb Hc := by rw [eHc]; exact tkb
          have atc : ∀ {b : Addr}, b ≠ dp → Hc b = Hb b := fun {b} n => by rw [eHc, upd_ne n]
          have m1b : Hb ln = some (.lst xs9) := xb _ _ (xa _ _ m1)
          have m1c : Hc ln = some (.lst xs9) := by rw [atc far.nd]; exact m1b
          have hgc : Hc g = some (.ins C dx fs) := by rw [atc far.gd]; exact b5b.obj
          -- self.nodes.append(node)
          refine st_app m1c (ev_fld gc.cls gc.nodes hgc fn (ev_v env rfl)) (ev_v env rfl) (by rw [hx9, sizeLine_eq]; omega) fun v Hd xd rv => ?_
          have m1d := xd _ _ m1c
          have tkd := tk_lst (u := .lst (xs9 ++ [v])) m1d
          have env := env.mono ((tk_of xd).trans tkd)
          walk_at "sq"
          obtain ⟨He, eHe⟩ : ∃ He, He = upd Hd ln (.lst (xs9 ++ [v])) := ⟨_, rfl⟩
          rw [← eHe] at env ⊢
          have tke : Tk Hd He := by rw [eHe]; exact tkd
          have ate : ∀ {b : Addr}, b ≠ ln → He b = Hd b := fun {b} n => by rw [eHe, upd_ne n]
          obtain ⟨bs, o1, o2⟩ := b5b.b
          have o1c : Hc lb = some (.lst bs) := by rw [atc far.bd]; exact o1
          have o1e : He lb = some (.lst bs) := by rw [ate far.nb.symm]; exact xd _ _ o1c
          have hge : He g = some (.ins C dx fs) := by rw [ate far.gn]; exact xd _ _ hgc
          have hbl : bs.length = nd.length := by rw [imAll_len o2, List.length_map, b1.lb]
          -- self.before.append((at, number))
          refine st_app o1e (ev_fld gc.cls gc.before hge fb (ev_v env rfl)) (en := .im (.tuple [.int (j : Int), .int (i : Int)])) (ev_tup2 (ev_v env rfl) (ev_v env rfl)) (by rw [hbl, sizeLine_eq]; omega) fun v2 Hf xf rv2 => ?_
          have o1f := xf _ _ o1e
          have tkf := tk_lst (u := .lst (bs ++ [v2])) o1f
          have env := env.mono ((tk_of xf).trans tkf)
          obtain ⟨Hg, eHg⟩ : ∃ Hg, Hg = upd Hf lb (.lst (bs ++ [v2])) := ⟨_, rfl⟩
          rw [← eHg] at env ⊢
          have tkg : Tk Hf Hg := by rw [eHg]; exact tkf
          have atg : ∀ {b : Addr}, b ≠ lb → Hg b = Hf b := fun {b} n => by rw [eHg, upd_ne n]
          have c1 := b1.push ok b2 him hmem
          -- from Hb to Hg
          have thru : ∀ {b : Addr} {o : HO}, b ≠ dp → b ≠ ln → b ≠ lb → Hb b = some o → Hg b = some o := fun {b o} n1 n2 n3 e => by
            rw [atg n3]
            refine xf _ _ ?_
            rw [ate n2]
            refine xd _ _ ?_
            rw [atc n1]
            exact e
          have tkbg : Tk Hb Hg := ((tkc.trans (tk_of xd)).trans (tke.trans (tk_of xf))).trans tkg
          have hln9 : Hg ln = some (.lst (xs9 ++ [v])) := by
            rw [atg far.nb]
            refine xf _ _ ?_
            rw [eHe]
            exact upd_same
          have hdp9 : Hg dp = some (KDs P w dp (kvs ++ [(encT (nxt S nd j i), kb, .int (nd.length : Int))])) := by
            rw [atg far.bd.symm]
            refine xf _ _ ?_
            rw [ate far.nd.symm]
            refine xd _ _ ?_
            rw [eHc]
            exact upd_same
          obtain ⟨rs9, r1, r2, r3⟩ := b5b.e
          have him2 : InAt P w K H Hg g C dx fs ln le lb dp (nd ++ [nxt S nd j i]) (rowsP S m place (nd ++ [nxt S nd j i]) j) (bf ++ [some (j, i)]) := by
            refine ⟨fun b o hb e => ?_, thru far.gd far.gn far.gb b5b.obj, ⟨_, hln9, ?_⟩, ⟨rs9, thru far.ed far.ne.symm far.eb r1, ?_, r3⟩, ⟨_, by rw [eHg]; exact upd_same, ?_⟩, ⟨_, ⟨hdp9, fun p hp => ?_⟩, ents_push d2 _ kb⟩⟩
            · exact thru (ne_of_none e far.d0) (ne_of_none e far.n0) (ne_of_none e far.b0) (b5b.keep b o hb e)
            · rw [List.map_append]
              exact imAll_app (m2.mono ((tk_of (xa.trans xb)).trans tkbg)) (.cons (Im.mono ((tke.trans (tk_of xf)).trans tkg) rv) .nil)
            · rw [rowsP_app (by omega) b3]
              refine ⟨r2.1, fun a r row e1 e2 => ?_⟩
              obtain ⟨xs, z1, z2⟩ := r2.2 a r row e1 e2
              obtain ⟨n1, n2, n3, n4, _⟩ := r3 r (List.mem_of_getElem? e1)
              exact ⟨xs, thru n4 n1 n3 z1, z2.mono tkbg⟩
            · rw [List.map_append]
              exact imAll_app (o2.mono tkbg) (.cons (Im.mono tkg rv2) .nil)
            · rcases List.mem_append.mp hp with z | z
              · exact ⟨Im.mono tkbg (hdb.key p z).1, (hdb.key p z).2⟩
              · rw [List.mem_singleton.mp z]
                exact ⟨Im.mono tkbg rkb, ky_T _⟩
          have hlrb : Hb lr = some (.lst ys) := xb _ _ (xa _ _ (x9 _ _ hlrn8))
          have hleb : Hb le = some (.lst (rs.map V.ref)) := xb _ _ (xa _ _ (x9 _ _ (x8 _ _ b6)))
          exact rest (nd ++ [nxt S nd j i]) (bf ++ [some (j, i)]) _ Hg _ c1 (by rw [List.length_append]; omega) (fun v k hv hk => by rw [nxt_app (by omega)]; exact List.mem_append_left _ (b3 v k hv hk)) (fun k hk => by rw [nxt_app b2]; exact List.mem_append_left _ (b4 k hk)) (nxt_app b2 _).symm (getD_app b2 _) (List.mem_append_right _ (by simp)) (rowP_app b2 b4 _) him2 (thru far.ed far.ne.symm far.eb hleb) (thru lrd lrn lrb hlrb) (b8.mono ((tk_of ((x8.trans x9).trans (xa.trans xb))).trans tkbg)) env fun s' H' z => z
      · rintro s' H7 ⟨nd, bf, b1, b2, b3, b4, b5, b6, ⟨ys, b7, b8⟩, env⟩
        have em : (((m + 1 : Nat) : Int)).toNat = m + 1 := Int.toNat_natCast _
        rw [em] at b4 b8
        walk_at "sq"
        have hrl' : (rs.map V.ref).length = j := by rw [List.length_map, hrl]
        have hnl := b1.few ok hm3
        -- self.edges.append(row)
        refine st_app b6 (ev_fld gc.cls gc.edges b5.obj fe (ev_v env rfl)) (en := .rf lr) (ev_v env rfl) (by rw [hrl', sizeLine_eq]; omega) fun v H8 x8 rv => ?_
        obtain rfl : v = .ref lr := rv
        have b68 := x8 _ _ b6
        have tk8 := tk_lst (u := .lst (rs.map V.ref ++ [V.ref lr])) b68
        have env := env.mono ((tk_of x8).trans tk8)
        have b58 := b5.mono x8
        walk_at "sq"
        refine st_set env (en := .im (.int ((j + 1 : Nat) : Int))) (EvE.is (ev_add (ev_v env rfl) ev_i) (by rw [show ((j + 1 : Nat) : Int) = (j : Int) + 1 from rfl])) fun _ H9 x9 _ env => ?_
        try simp only [unpackE, unpackD, wipeD, unT, List.map_cons, List.map_nil, List.length_cons, List.length_nil, List.cons_append, List.nil_append, List.replicate_succ, List.replicate_zero, List.set_cons_succ, List.set_cons_zero, Nat.reduceAdd, Nat.reduceSub] at env
        have cl : ∀ v k, v < j + 1 → k ≤ m → nxt S nd v k ∈ nd := fun v k hv hk => by
          by_cases ev : v = j
          · rw [ev]; exact b4 k (by omega)
          · exact b3 v k (by omega) hk
        have in9 : InAt P w K H H9 g C dx fs ln le lb dp nd (rowsP S m place nd (j + 1)) bf := by
          obtain ⟨xs, n1, n2⟩ := b58.n
          obtain ⟨rs9, r1, r2, r3⟩ := b58.e
          have ers : rs9 = rs := by
            rw [b68] at r1
            have : rs.map V.ref = rs9.map V.ref := HO.lst.inj (Option.some.inj r1)
            exact ((List.map_inj_right (f := V.ref) (fun x y e => by cases e; rfl)).mp this).symm
          subst ers
          obtain ⟨bs, o1, o2⟩ := b58.b
          obtain ⟨kvs, d1, d2⟩ := b58.d
          refine InAt.mono (H' := upd H8 le (.lst (rs9.map V.ref ++ [V.ref lr]))) ⟨fun b o hb e => ?_, by rw [upd_ne far.ge]; exact b58.obj, ⟨xs, by rw [upd_ne far.ne]; exact n1, n2.mono tk8⟩, ⟨rs9 ++ [lr], by rw [upd_same, List.map_append]; rfl, ⟨?_, fun a r row e1 e2 => ?_⟩, fun r hr => ?_⟩, ⟨bs, by rw [upd_ne far.eb.symm]; exact o1, o2.mono tk8⟩, ⟨kvs, dic_upd d1 tk8 far.ed.symm, d2⟩⟩ x9
          · rw [upd_ne (ne_of_none e far.e0)]
            exact b58.keep b o hb e
          · rw [List.length_append, hrl]
            unfold rowsP
            rw [List.length_map, List.length_range]
            rfl
          · have erow : rowsP S m place nd (j + 1) = rowsP S m place nd j ++ [rowP S place nd j (m + 1)] := by
              unfold rowsP
              rw [List.range_succ, List.map_append]
              rfl
            rw [erow] at e2
            have hl2 : (rowsP S m place nd j).length = rs9.length := by rw [hrl]; unfold rowsP; rw [List.length_map, List.length_range]
            by_cases ha : a < rs9.length
            · rw [List.getElem?_append_left ha] at e1
              rw [List.getElem?_append_left (by omega)] at e2
              obtain ⟨zs, z1, z2⟩ := r2.2 a r row e1 e2
              exact ⟨zs, by rw [upd_ne (r3 r (List.mem_of_getElem? e1)).2.1]; exact z1, z2.mono tk8⟩
            · rw [List.getElem?_append_right (by omega)] at e1
              rw [List.getElem?_append_right (by omega), hl2] at e2
              have h0 : a - rs9.length = 0 := by
                have := (List.getElem?_eq_some_iff.mp e1).1
                have e3 : [lr].length = 1 := rfl
                omega
              rw [h0] at e1 e2
              cases e1
              cases e2
              exact ⟨ys, by rw [upd_ne lre]; exact x8 _ _ b7, b8.mono ((tk_of x8).trans tk8)⟩
          · rcases List.mem_append.mp hr with z | z
            · exact r3 r z
            · rw [List.mem_singleton.mp z]
              exact ⟨lrn, lre, lrb, lrd, lr0, lrg⟩
        exact ⟨(nd, bf, j + 1), by show 2000 - (j + 1) < 2000 - j; omega, b1, by show j + 1 ≤ nd.length; omega, cl, in9, env.weak rfl fun i e he => by
          match i with
          | 0 | 1 | 2 | 3 | 4 | 5 => exact he
          | 6 | 7 | 8 | 9 => cases he⟩
    · rintro ⟨nd, bf, j⟩ s' H' ⟨q1, q2, q3, q4, env⟩ ht
      have ht : ¬ j < nd.length := of_decide_eq_false ht
      have q2 : j ≤ nd.length := q2
      have ej : j = nd.length := by omega
      subst ej
      have q1 : Bfs S m nd bf := q1
      have q3 : ∀ v k, v < nd.length → k ≤ m → nxt S nd v k ∈ nd := q3
      have q4 : InAt P w K H H' g C dx fs ln le lb dp nd (rowsP S m place nd nd.length) bf := q4
      obtain ⟨xs, n1, n2⟩ := q4.n
      obtain ⟨rs, r1, r2, _⟩ := q4.e
      obtain ⟨bs, o1, o2⟩ := q4.b
      exact k H' (graphM S nd bf) q4.keep ⟨⟨dx, fs, ln, le, lb, xs, rs, bs, q4.obj, fn, fe, fb, fm, n1, r1, o1, n2, r2, o2⟩⟩ (q1.done ok hm3 q3)
  exact ⟨t, PSs.nox h1, h2⟩
end
end CB

/-! ## KC6 -/
set_option Elab.async false
set_option linter.all false
set_option maxRecDepth 100000
set_option maxHeartbeats 2000000
/-! Calls that lend the caller's cells: a class made, a def called. -/
namespace CB
open PySem PySem.Spec PyProof.Rows L2 LamX NdefX
section
variable {X : Cx} {k : Nat} {C f : Addr} {fd : FuncData} {ps : List Str} {sp : Sp} {ds : List Value} {x : Str} {t : TA} {e : Expr} {es : List Expr} {p pos : Pos} {O : Addr → NF → HO} {cl : List (Str × Addr)} {fr : List Str} {js : List Nat}
def LentTo (H : Hp) (L : List (Addr × HO)) : Prop := ∀ b o, L.lookup b = some o → H b = none ∧ ∃ ob v, o = .frz ob (CellO b v)
/-- C(.., f, ..): f a closure of the frame's own -/
def tMakeL (C : Addr) (O : Addr → NF → HO) (cl : List (Str × Addr)) (fr : List Str) (js : List Nat) (sp : Sp) (E : XK) (t : TA) : TE := fun σ H Q => t σ H fun vs H1 => ∃ (f' : Addr) (F : NF) (ws : List V), F.cl = cl ∧ H1 f' = some (O f' F) ∧ H1 F.c = some (CodeO F.c F.qual) ∧ js.map (slotAt σ) = ws.map some ∧
  ∀ (x dx : Addr) (L : List (Addr × HO)), H1 x = none → H1 dx = none → dx ≠ x → LentTo (upd (upd H1 dx (.own x)) x (.ins C dx [])) L → CloAt (lend (upd (upd H1 dx (.own x)) x (.ins C dx [])) L) f' (O f' F) F fr ws →
    sp (.ref x :: vs) (lend (upd (upd H1 dx (.own x)) x (.ins C dx [])) L) (fun v H3 => v = .non ∧ Q (.ref x) (unl H3 L)) E
theorem pe_makeL (M : Mk X.K C f) (F : FnOk X.prog X.w X.K X.mg X.base CX0 k f fd ps sp) (hr : Room (k + 1) X.A) (hg : Gl X x) (hm : X.mg x = some (.ref C)) (hb : Binds X.K fd ps []) (ow : Own X cl fr js) (ha : PA X (e :: es) t)
    (hdb : (x == ("__debug__" : Str)) = false := by decide) (he : starEach (e :: es) X.env = (false, eval e X.env) :: starEach es X.env := by rfl) (hpl : (backTo pos (starEach es X.env)).any (·.1) = false := by rfl) :
    PE X (.Call (.Name x p) (e :: es) [] pos) (tMakeL C O cl fr js sp E0 t) := by
  refine ⟨fun pins s σ H Q I h => ?_⟩
  refine wpAny_Call_Name_kw (ld_glob I hg hm ?_ hdb)
  refine PySem.W.callWith_K (h₀ := X.base) I.ok.mod.kin M.kp (thn (ha.run pos pins s σ H _ I h) fun us s1 ⟨vs, H1, I1, r, f', F', ws, ecl, g1, g2, g3, g4⟩ => ⟨I1.kIn, ?_⟩) he hpl
  show wpAny _ _ (call (.ref C) us) _ _ _
  have n1 : H1 (s1.heap.objs.size + 1) = none := I1.hok.fresh (Nat.le_succ _)
  have n2 : H1 s1.heap.objs.size = none := I1.hok.fresh (Nat.le_refl _)
  have n12 : s1.heap.objs.size ≠ s1.heap.objs.size + 1 := Nat.ne_of_lt (Nat.lt_succ_self _)
  have I2 := Inv.made (C := C) I1
  have hs2 : ∀ b o, H1 b = some o → upd (upd H1 s1.heap.objs.size (.own (s1.heap.objs.size + 1))) (s1.heap.objs.size + 1) (.ins C s1.heap.objs.size []) b = some o := fun b o e => by
    rw [upd_ne (ne_of_none e n1), upd_ne (ne_of_none e n2)]
    exact e
  obtain ⟨L, l1, _, _, clo⟩ := lendClo (O := O f' F') I2 (ecl ▸ ow) g3 (hs2 _ _ g1) (hs2 _ _ g2)
  have hq := g4 (s1.heap.objs.size + 1) s1.heap.objs.size L n1 n2 n12 (fun b o e => let ⟨a, _, _, b'⟩ := l1 b o e; let ⟨ob, v, z, _⟩ := b'; ⟨a, ob, v, z⟩) clo
  have r2 : Vals (V.ref (s1.heap.objs.size + 1) :: vs) (Value.ref (s1.heap.objs.size + 1) :: us) := .cons rfl r
  have hl : (Value.ref (s1.heap.objs.size + 1) :: us ++ []).length = ps.length := by
    have e := r2.length
    rw [F.len _ _ _ _ hq] at e
    rw [List.append_nil]
    exact e.symm
  have hb2 := hb _ (Value.ref (s1.heap.objs.size + 1) :: us) I2.kIn hl
  rw [List.append_nil] at hb2
  refine wpAny_call (make_map (f := f) I1.kIn M.makes M.init (beq_iff_eq.mp M.fn) (codeAny_mono (F.run _ X.stack _ _ ⟨Value.ref (s1.heap.objs.size + 1) :: us, []⟩ (Value.ref (s1.heap.objs.size + 1) :: us) _ _ E0 (hr.make C us [])
    (l1.env0 (I2.env0.make C us [])) hb2 r2 hq) fun r s' hq' => ?_))
  cases r with
  | error e => exact (show False from hq').elim
  | ok fl =>
    cases fl with
    | ret u =>
      obtain ⟨v, H', I3, rv, ev, q3⟩ := I2.after (l1.back (Q := fun v H3 => v = .non ∧ Q (.ref (s1.heap.objs.size + 1)) H3) hq' fun v H3 z => z)
      subst ev
      exact ⟨rv, ⟨V.ref (s1.heap.objs.size + 1), H', I3, rfl, q3⟩⟩
    | next => exact False.elim hq'
    | brk => exact False.elim hq'
    | cont => exact False.elim hq'
/-- f(.., g, ..), f a def of the module, g a closure of the frame's own -/
def tCallL (O : Addr → NF → HO) (cl : List (Str × Addr)) (fr : List Str) (js : List Nat) (sp : Sp) (E : XK) (t : TA) : TE := fun σ H Q => t σ H fun vs H1 => ∃ (f' : Addr) (F : NF) (ws : List V), F.cl = cl ∧ H1 f' = some (O f' F) ∧ H1 F.c = some (CodeO F.c F.qual) ∧ js.map (slotAt σ) = ws.map some ∧
  ∀ (L : List (Addr × HO)), LentTo H1 L → CloAt (lend H1 L) f' (O f' F) F fr ws → sp vs (lend H1 L) (fun v H3 => Q v (unl H3 L)) E
theorem pe_callLn (F : Df X.prog X.w X.K X.mg X.base k x ps sp) (hr : Room k X.A) (hg : Gl X x) (ow : Own X cl fr js) (ha : PA X (e :: es) t) (hdb : (x == ("__debug__" : Str)) = false := by decide)
    (he : starEach (e :: es) X.env = (false, eval e X.env) :: starEach es X.env := by rfl) (hpl : (backTo pos (starEach es X.env)).any (·.1) = false := by rfl) :
    PE X (.Call (.Name x p) (e :: es) [] pos) (tCallL O cl fr js sp E0 t) := by
  obtain ⟨f, fd, hm, F, kp, hb⟩ := F
  refine ⟨fun pins s σ H Q I h => ?_⟩
  refine wpAny_Call_Name_kw (ld_glob I hg hm ?_ hdb)
  refine PySem.W.callWith_K (h₀ := X.base) I.ok.mod.kin kp (thn (ha.run pos pins s σ H _ I h) fun us s1 ⟨vs, H1, I1, r, f', F', ws, ecl, g1, g2, g3, g4⟩ => ⟨I1.kIn, ?_⟩) he hpl
  show wpAny _ _ (call (.ref f) us) _ _ _
  obtain ⟨L, l1, _, _, clo⟩ := lendClo (O := O f' F') I1 (ecl ▸ ow) g3 g1 g2
  have hq := g4 L (fun b o e => let ⟨a, _, _, b'⟩ := l1 b o e; let ⟨ob, v, z, _⟩ := b'; ⟨a, ob, v, z⟩) clo
  have hl : (us ++ []).length = ps.length := by
    rw [List.append_nil, ← F.len _ _ _ _ hq]
    exact (Vals.length r).symm
  have hb2 := hb s1 us I1.kIn hl
  rw [List.append_nil] at hb2
  refine wpAny_call (codeAny_mono (F.run X.A X.stack s1 (lend H1 L) ⟨us, []⟩ us vs _ E0 hr (l1.env0 I1.env0) hb2 r hq) fun r s' hq' => ?_)
  cases r with
  | error e => exact (show False from hq').elim
  | ok fl =>
    cases fl with
    | ret u => exact I1.after (l1.back hq' fun v H3 z => z)
    | next => exact False.elim hq'
    | brk => exact False.elim hq'
    | cont => exact False.elim hq'
end
section
variable {K : Fg} {H H' : Hp} {L : List (Addr × HO)}
theorem LentTo.same (l : LentTo H L) : Same H (lend H L) := fun b o e => by
  have : L.lookup b = none := by
    cases q : L.lookup b with
    | none => rfl
    | some o' =>
      have := (l b o' q).1
      rw [e] at this
      cases this
  rw [lend_none this]
  exact e
/-- what is no cell, stays behind the giving back -/
theorem LentTo.out (l : LentTo H L) (k : ∀ b o, L.lookup b = some o → H' b = some o) {b : Addr} {o : HO} (e : H' b = some o) (n : ∀ ob v, o ≠ .frz ob (CellO b v)) : unl H' L b = some o := by
  have : L.lookup b = none := by
    cases q : L.lookup b with
    | none => rfl
    | some o' =>
      obtain ⟨_, ob, v, rfl⟩ := l b o' q
      have := k b _ q
      rw [e] at this
      exact absurd (Option.some.inj this) (n ob v)
  rw [unl_none this]
  exact e
theorem LentTo.tk (l : LentTo H L) (k : ∀ b o, L.lookup b = some o → H' b = some o) : Tk H' (unl H' L) := fun a xs r => by
  rcases r with r | ⟨ob, r⟩
  · exact (l.out k r fun _ _ z => by cases z).trans r.symm
  · exact (l.out k r fun _ _ z => by unfold CellO at z; cases z).trans r.symm
/-- the graph, behind the giving back -/
def GObj.back {C g : Addr} {nd bf : List PyData} {ed : List (List PyData)} (h : GObj K H' C g nd ed bf) (l : LentTo H L) (k : ∀ b o, L.lookup b = some o → H' b = some o) : GObj K (unl H' L) C g nd ed bf :=
  ⟨h.dx, h.fs, h.ln, h.le, h.lb, h.ns, h.rs, h.bs, l.out k h.at_ (fun _ _ z => by cases z), h.fn, h.fe, h.fb, h.fm, l.out k h.hn (fun _ _ z => by cases z), l.out k h.he (fun _ _ z => by cases z), l.out k h.hb (fun _ _ z => by cases z), h.en.mono (l.tk k), ⟨h.ee.1, fun i r row e1 e2 => let ⟨xs, a, b⟩ := h.ee.2 i r row e1 e2; ⟨xs, l.out k a (fun _ _ z => by cases z), b.mono (l.tk k)⟩⟩, h.eb.mono (l.tk k)⟩
def GObj.ext {C g : Addr} {nd bf : List PyData} {ed : List (List PyData)} (h : GObj K H C g nd ed bf) (x : ExtN H H') : GObj K H' C g nd ed bf :=
  ⟨h.dx, h.fs, h.ln, h.le, h.lb, h.ns, h.rs, h.bs, x _ _ h.at_ (fun _ z => by cases z), h.fn, h.fe, h.fb, h.fm, x _ _ h.hn (fun _ z => by cases z), x _ _ h.he (fun _ z => by cases z), x _ _ h.hb (fun _ z => by cases z), h.en.mono (extN_tk x), ⟨h.ee.1, fun i r row e1 e2 => let ⟨xs, a, b⟩ := h.ee.2 i r row e1 e2; ⟨xs, x _ _ a (fun _ z => by cases z), b.mono (extN_tk x)⟩⟩, h.eb.mono (extN_tk x)⟩
end
/-- Graph(first, most, go) -/
theorem made_graph {K : Fg} {C : Addr} {cl : List (Str × Addr)} {js : List Nat} {σ : L2.St} {H : Hp} {t : TA} {Q : VK} {f : Addr} {cG : Addr} {S : Setg} {m place : Nat} {v1 v2 : V} (ha : EvA K σ H t [.im (encT (firstM S)), .im (.int (m : Int)), .rf f])
    (hf : H f = some (FnO f (gF cl cG))) (hc : H cG = some (CodeO cG (gF cl cG).qual)) (hj : js.map (slotAt σ) = [v1, v2].map some) (h1 : Im K H v1 (.int (place : Int))) (h2 : Im K H v2 (encS S)) (ok : S.Ok) (hm : m ≤ 3) (hp : place < 6)
    (k : ∀ g H3 G, Same H H3 → Nonempty (GAt K H3 C g S m place G) → G.Ok S m → Q (.ref g) H3) : tMakeL C FnO cl ["place", "setting"] js (spInit K C) E0 t σ H Q :=
  ha H (Same.refl _) _ fun vs H1 x1 rs => by
    refine ⟨f, gF cl cG, [v1, v2], rfl, x1 _ _ hf, x1 _ _ hc, hj, fun x dx L nx ndx ne l clo => ?_⟩
    have hs2 : Same H1 (upd (upd H1 dx (.own x)) x (.ins C dx [])) := fun b o e => by
      rw [upd_ne (ne_of_none e nx), upd_ne (ne_of_none e ndx)]
      exact e
    have hl := l.same
    have tkA := tk_of (x1.trans (hs2.trans hl))
    have hx : lend (upd (upd H1 dx (.own x)) x (.ins C dx [])) L x = some (.ins C dx []) := hl _ _ upd_same
    refine ⟨x, dx, f, gF cl cG, S, m, place, .cons rfl (rs.mono (tk_of (hs2.trans hl))), hx, ⟨cl, cG, rfl⟩, ⟨_, clo, .cons (Im.mono tkA h1) (.cons (Im.mono tkA h2) .nil)⟩, ok, hm, hp, fun H' G kp gat okG => ⟨rfl, ?_⟩⟩
    have kL : ∀ b o, L.lookup b = some o → H' b = some o := fun b o e => kp b o (fun z => by
      have := (l b o e).1
      rw [z, upd_same] at this
      cases this) (lend_some e)
    refine k x _ G (fun b o e => ?_) (gat.elim fun ga => ⟨GObj.back ga l kL⟩) okG
    have e1 := hs2 _ _ (x1 _ _ e)
    have hbL : L.lookup b = none := by
      cases q : L.lookup b with
      | none => rfl
      | some o' =>
        have := (l b o' q).1
        rw [e1] at this
        cases this
    rw [unl_none hbL]
    exact kp b o (ne_of_none (x1 _ _ e) nx) (hl _ _ e1)
end CB

/-! ## KZ1 -/
set_option Elab.async false
set_option linter.all false
set_option maxRecDepth 100000
set_option maxHeartbeats 4000000
/-! the items of zip of two lists, in a new list -/
namespace CB.ZL
open PySem PySem.W PySem.Calls PyProof.Rows PyProof.V PySem.Spec
theorem no_len : typeLookup (.type "zip") "__len__" = pure none := by rw [typeLookup_type, builtinLookup_eq_fast]; kernel_rfl
theorem no_hint : typeLookup (.type "zip") "__length_hint__" = pure none := by rw [typeLookup_type, builtinLookup_eq_fast]; kernel_rfl
structure ZSt (h : Heap) (z TI TO i1 i2 l1 l2 S : Addr) (k : Nat) (xs ys : Array Value) : Prop where
  ti : IsPair h TI (.ref i1) (.ref i2)
  a1 : h.IsListIter i1 l1 k
  a2 : h.IsListIter i2 l2 k
  b1 : h.IsList l1 xs
  b2 : h.IsList l2 ys
  z : (IsZip h z TI TO .none ∧ ∃ a b, IsPair h TO a b) ∨ ∃ T f oT, IsZipHeld h z TI TO T f ∧ h.get? T = some oT ∧ T ≠ z ∧ T ≠ i1 ∧ T ≠ i2 ∧ T ≠ S
structure Off (z TI TO i1 i2 l1 l2 S : Addr) : Prop where
  z : S ≠ z
  TI : S ≠ TI
  TO : S ≠ TO
  i1 : S ≠ i1
  i2 : S ≠ i2
  l1 : S ≠ l1
  l2 : S ≠ l2
section
variable {prog : Program} {w : World} {A : Around} {E : Value → Shared → Prop} {s : Shared} {z TI TO i1 i2 l1 l2 S : Addr} {k : Nat} {xs ys : Array Value}
theorem ZSt.keep {h h' : Heap} (st : ZSt h z TI TO i1 i2 l1 l2 S k xs ys) (o : Off z TI TO i1 i2 l1 l2 S) (kp : ∀ b o, b ≠ S → h.get? b = some o → h'.get? b = some o) : ZSt h' z TI TO i1 i2 l1 l2 S k xs ys where
  ti := kp _ _ (Ne.symm o.TI) st.ti
  a1 := st.a1.at fun x e => kp _ x (Ne.symm o.i1) e
  a2 := st.a2.at fun x e => kp _ x (Ne.symm o.i2) e
  b1 := st.b1.at fun x e => kp _ x (Ne.symm o.l1) e
  b2 := st.b2.at fun x e => kp _ x (Ne.symm o.l2) e
  z := by
    rcases st.z with ⟨hz, a, b, hTO⟩ | ⟨T, f, oT, hz, hT, r1, r2, r3, r4⟩
    · exact .inl ⟨kp _ _ (Ne.symm o.z) hz, a, b, kp _ _ (Ne.symm o.TO) hTO⟩
    · exact .inr ⟨T, f, oT, kp _ _ (Ne.symm o.z) hz, kp _ _ r4 hT, r1, r2, r3, r4⟩
theorem ZSt.zin {h : Heap} (st : ZSt h z TI TO i1 i2 l1 l2 S k xs ys) : ∃ f g a b c d, h.get? z = some { cls := .type "zip", dict := none, data := .fields #[f, g, a, b, c], slots := d } := by
  rcases st.z with ⟨hz, _⟩ | ⟨T, f, oT, hz, _⟩
  · exact ⟨_, _, _, _, _, _, hz⟩
  · exact ⟨_, _, _, _, _, _, hz⟩
theorem ZSt.type {s : Shared} (st : ZSt s.heap z TI TO i1 i2 l1 l2 S k xs ys) : s.TypeIs (.ref z) "zip" := by
  obtain ⟨_, _, _, _, _, _, hz⟩ := st.zin
  exact ⟨_, hz, rfl⟩
theorem z_nxt {Q : Option Value → Shared → Prop} (D : ZipApart z TI TO i1 i2 l1 l2) (o : Off z TI TO i1 i2 l1 l2 S) (hS : S < s.heap.objs.size) (st : ZSt s.heap z TI TO i1 i2 l1 l2 S k xs ys) {x y : Value} (hx : xs[k]? = some x) (hy : ys[k]? = some y)
    (h : ∀ h', ZSt h' z TI TO i1 i2 l1 l2 S (k + 1) xs ys → IsPair h' s.heap.objs.size x y → h'.objs.size = s.heap.objs.size + 1 → (∀ c u, c ≠ z → c ≠ TO → c ≠ i1 → c ≠ i2 → s.heap.get? c = some u → h'.get? c = some u) → Q (some (.ref s.heap.objs.size)) { s with heap := h' }) :
    wpAny (model prog w) A (pyNext (.ref z)) Q E s := by
  have lt : ∀ {c u}, s.heap.get? c = some u → s.heap.objs.size ≠ c := fun e => Nat.ne_of_gt (Heap.lt_size e)
  have n1 : s.heap.objs.size ≠ i1 := let ⟨_, e, _⟩ := st.a1; lt e
  have n2 : s.heap.objs.size ≠ i2 := let ⟨_, e, _⟩ := st.a2; lt e
  rcases st.z with ⟨hz, a, b, hTO⟩ | ⟨T, f, oT, hz, hT, r1, r2, r3, r4⟩
  · refine wpAny_pyNext_zip_item D hz st.ti hTO st.a1 st.a2 st.b1 st.b2 hx hy fun h' a1 a2 a3 a4 a5 a6 hk => ?_
    exact h h' ⟨hk _ _ D.TIz D.TITO D.TIi1 D.TIi2 st.ti, a3, a4, st.b1.at fun u e => hk _ u D.l1z D.l1TO D.l1i1 D.l1i2 e, st.b2.at fun u e => hk _ u D.l2z D.l2TO D.l2i1 D.l2i2 e, .inr ⟨s.heap.objs.size, false, _, a1, a5, lt hz, n1, n2, Nat.ne_of_gt hS⟩⟩ a5 a6 hk
  · refine wpAny_pyNext_zip_item_held D hz hT st.ti st.a1 st.a2 st.b1 st.b2 hx hy fun h' a1 a3 a4 a5 a6 hk => ?_
    exact h h' ⟨hk _ _ D.TIz D.TIi1 D.TIi2 st.ti, a3, a4, st.b1.at fun u e => hk _ u D.l1z D.l1i1 D.l1i2 e, st.b2.at fun u e => hk _ u D.l2z D.l2i1 D.l2i2 e, .inr ⟨T, true, oT, a1, hk _ _ r1 r2 r3 hT, r1, r2, r3, r4⟩⟩ a5 a6 fun c u c1 _ c3 c4 e => hk c u c1 c3 c4 e
theorem z_end {Q : Option Value → Shared → Prop} (hh : A.handled = none) (D : ZipApart z TI TO i1 i2 l1 l2) (st : ZSt s.heap z TI TO i1 i2 l1 l2 S k xs ys) (hend : xs[k]? = none ∨ ys[k]? = none)
    (h : ∀ h', (∀ c u, c ≠ z → c ≠ TO → c ≠ i1 → c ≠ i2 → s.heap.get? c = some u → h'.get? c = some u) → Q none { s with heap := h' }) :
    wpAny (model prog w) A (pyNext (.ref z)) Q E s := by
  rcases st.z with ⟨hz, a, b, hTO⟩ | ⟨T, f, oT, hz, hT, r1, r2, r3, r4⟩
  · exact wpAny_pyNext_zip_end hh D hz st.ti hTO st.a1 st.a2 st.b1 st.b2 hend h
  · exact wpAny_pyNext_zip_end_held hh D hz hT st.ti st.a1 st.a2 st.b1 st.b2 hend fun h' hk => h h' fun c u c1 _ c3 c4 e => hk c u c1 c3 c4 e
end
/-- the pairs made, at addresses of their own from lo on -/
structure MadeZ (xs ys : Array Value) (lo : Addr) (h : Heap) (as : List Addr) : Prop where
  rise : as.Pairwise (· < ·)
  above : ∀ a ∈ as, lo < a
  pairs : ∀ (j : Nat) (a : Addr), as[j]? = some a → ∃ x y, xs[j]? = some x ∧ ys[j]? = some y ∧ h.get? a = some { cls := .type "tuple", data := .seq #[x, y] }
theorem MadeZ.there {xs ys : Array Value} {lo : Addr} {h : Heap} {as : List Addr} (g : MadeZ xs ys lo h as) {a : Addr} (ha : a ∈ as) : a < h.objs.size := by
  obtain ⟨j, hj⟩ := List.mem_iff_getElem?.mp ha
  obtain ⟨_, _, _, _, e⟩ := g.pairs j a hj
  exact Heap.lt_size e
section
variable {prog : Program} {w : World} {A : Around} {s : Shared} {R : Result → Shared → Prop} {z TI TO i1 i2 l1 l2 S : Addr} {xs ys : Array Value}
theorem loopZ (D : ZipApart z TI TO i1 i2 l1 l2) (o : Off z TI TO i1 i2 l1 l2 S) (hh : A.handled = none) (hz0 : z < S) (hTO0 : TO < S) (hi10 : i1 < S) (hi20 : i2 < S) (hxy : xs.size = ys.size) (hn : xs.size ≤ sizeLine) (res : Value) {h₁ : Heap} (h1s : h₁.objs.size = S)
    (hR : ∀ h' tk acc c as, (∀ b u, b ≠ z → b ≠ TO → b ≠ i1 → b ≠ i2 → h₁.get? b = some u → h'.get? b = some u) → h'.get? S = some { cls := .type "list", dict := none, data := .seq acc c, slots := #[] } → as.length = xs.size → MadeZ xs ys S h' as →
      acc.toList = as.map Value.ref → R (.ok (.ret res)) { s with heap := h', toks := tk }) :
    ∀ (m i : Nat) (h : Heap) (tk c : Nat) (acc : Array Value) (as : List Addr), xs.size - i = m → i ≤ xs.size → ZSt h z TI TO i1 i2 l1 l2 S i xs ys → (∀ b u, b ≠ z → b ≠ TO → b ≠ i1 → b ≠ i2 → h₁.get? b = some u → h.get? b = some u) →
      h.get? S = some { cls := .type "list", dict := none, data := .seq acc c, slots := #[] } → acc.toList = as.map Value.ref → as.length = i → MadeZ xs ys S h as →
      codeAny (model prog w) A (.builtin "list.extend.loop" ⟨[.ref S, .ref z, res], []⟩) R { s with heap := h, toks := tk } := by
  intro m
  induction m with
  | zero =>
    intro i h tk c acc as hk hi hst hkeep hS hacc hal hG
    refine codeAny_builtin PySem.F.entry_extend_loop ?_
    rw [Around.under_plainId PySem.F.plain_extend_loop _]
    show wpAny _ A.in1 (pyNext (.ref z) >>= _) _ _ _
    refine wpAny_bind (z_end (s := { s with heap := h, toks := tk }) (A := A.in1) hh D hst (.inl (Array.getElem?_eq_none (by omega))) fun h' he => ?_)
    have up : ∀ a, S < a → ∀ u, h.get? a = some u → h'.get? a = some u := fun a ha u e => he a u (Nat.ne_of_gt (Nat.lt_trans hz0 ha)) (Nat.ne_of_gt (Nat.lt_trans hTO0 ha)) (Nat.ne_of_gt (Nat.lt_trans hi10 ha)) (Nat.ne_of_gt (Nat.lt_trans hi20 ha)) e
    refine wpAny_pure (hR h' tk acc c as (fun b u c1 c2 c3 c4 e => he b u c1 c2 c3 c4 (hkeep b u c1 c2 c3 c4 e)) (he S _ o.z o.TO o.i1 o.i2 hS) (by omega) ⟨hG.rise, hG.above, fun j a hj => ?_⟩ hacc)
    obtain ⟨x, y, e1, e2, e3⟩ := hG.pairs j a hj
    exact ⟨x, y, e1, e2, up a (hG.above a (List.mem_of_getElem? hj)) _ e3⟩
  | succ m ih =>
    intro i h tk c acc as hk hi hst hkeep hS hacc hal hG
    have hlt : i < xs.size := by omega
    have hsz : acc.size = i := by rw [← Array.length_toList, hacc, List.length_map, hal]
    have ex := Array.getElem?_eq_getElem hlt
    have ey := Array.getElem?_eq_getElem (show i < ys.size by omega)
    have hSl : S < h.objs.size := Heap.lt_size hS
    refine codeAny_builtin PySem.F.entry_extend_loop ?_
    rw [Around.under_plainId PySem.F.plain_extend_loop _]
    show wpAny _ A.in1 (pyNext (.ref z) >>= _) _ _ _
    refine wpAny_bind (z_nxt (s := { s with heap := h, toks := tk }) D o hSl hst ex ey fun h' hst' ht hz hkp => ?_)
    dsimp only at ht hz hkp ⊢
    have hS' := hkp S _ o.z o.TO o.i1 o.i2 hS
    have up : ∀ b u, b ≠ S → h'.get? b = some u → (h'.update S (Obj.mapSeq (·.push (Value.ref h.objs.size)))).get? b = some u := fun b u hb e => (Heap.get?_update_other _ _ (Ne.symm hb)).trans e
    have ab : ∀ b, S < b → ∀ u, h.get? b = some u → h'.get? b = some u := fun b hb u e => hkp b u (Nat.ne_of_gt (Nat.lt_trans hz0 hb)) (Nat.ne_of_gt (Nat.lt_trans hTO0 hb)) (Nat.ne_of_gt (Nat.lt_trans hi10 hb)) (Nat.ne_of_gt (Nat.lt_trans hi20 hb)) e
    show wpAny _ A.in1 (updateSeq S (·.push (Value.ref h.objs.size)) >>= _) _ _ _
    refine wpAny_bind ?_
    refine wpAny_updateSeq hS' rfl (wpAny_pure ⟨plainId_quiet PySem.F.plain_extend_loop _, ih (i + 1) _ tk _ (acc.push (Value.ref h.objs.size)) (as ++ [h.objs.size]) (by omega) hlt (hst'.keep o fun b u hb e => up b u hb e)
      (fun b u c1 c2 c3 c4 e => up b u (Nat.ne_of_lt (h1s ▸ Heap.lt_size e)) (hkp b u c1 c2 c3 c4 (hkeep b u c1 c2 c3 c4 e))) (Heap.get?_update_self _ hS' rfl) (by rw [Array.toList_push, hacc, List.map_append]; rfl) (by rw [List.length_append, hal]; rfl) ⟨?_, ?_, ?_⟩⟩) (by rw [hsz]; omega) (by show (acc.push (Value.ref h.objs.size)).size ≤ sizeLine + 1; rw [Array.size_push, hsz]; omega)
    · refine List.pairwise_append.mpr ⟨hG.rise, List.pairwise_singleton _ _, fun a ha b hb => ?_⟩
      rw [List.mem_singleton.mp hb]
      exact hG.there ha
    · intro a ha
      rcases List.mem_append.mp ha with ha | ha
      · exact hG.above a ha
      · rw [List.mem_singleton.mp ha]; exact hSl
    · intro j b hj
      rcases Nat.lt_trichotomy j as.length with h1 | h1 | h1
      · rw [List.getElem?_append_left h1] at hj
        obtain ⟨x, y, e1, e2, e3⟩ := hG.pairs j b hj
        have hb := hG.above b (List.mem_of_getElem? hj)
        exact ⟨x, y, e1, e2, up b _ (Nat.ne_of_gt hb) (ab b hb _ e3)⟩
      · subst h1
        have hb : h.objs.size = b := by simpa using hj
        subst hb
        rw [hal]
        exact ⟨_, _, ex, ey, up _ _ (Nat.ne_of_gt hSl) ht⟩
      · have hnone : (as ++ [h.objs.size])[j]? = none := List.getElem?_eq_none (by rw [List.length_append, List.length_singleton]; omega)
        rw [hnone] at hj; cases hj
end
section
variable {prog : Program} {w : World} {A : Around} {E : Value → Shared → Prop} {s : Shared} {z TI TO i1 i2 l1 l2 : Addr} {xs ys : Array Value}
theorem z_hint {S : Addr} {k : Nat} {Q : Bool → Shared → Prop} (st : ZSt s.heap z TI TO i1 i2 l1 l2 S k xs ys) (h : Q true s) : wpAny (model prog w) A (Builtin.List.listLengthHint (.ref z)) Q E s := by
  unfold Builtin.List.listLengthHint
  refine wpAny_bind (wpAny_specialOf st.type no_len ?_)
  refine wpAny_bind (wpAny_specialOf st.type no_hint ?_)
  exact wpAny_pure h
theorem collectZ {R : List Value → Shared → Prop} (hh : A.handled = none) (D : ZipApart z TI TO i1 i2 l1 l2) (hz : IsZip s.heap z TI TO .none) (hTI : IsPair s.heap TI (.ref i1) (.ref i2)) {a0 b0 : Value} (hTO : IsPair s.heap TO a0 b0)
    (h1 : s.heap.IsListIter i1 l1 0) (h2 : s.heap.IsListIter i2 l2 0) (hl1 : s.heap.IsList l1 xs) (hl2 : s.heap.IsList l2 ys) (hxy : xs.size = ys.size) (hn : xs.size ≤ sizeLine)
    (h : ∀ (h' : Heap) (tk : Nat) (as : List Addr), (∀ b u, b ≠ z → b ≠ TO → b ≠ i1 → b ≠ i2 → s.heap.get? b = some u → h'.get? b = some u) → s.heap.objs.size < h'.objs.size → as.length = xs.size → MadeZ xs ys s.heap.objs.size h' as → R (as.map Value.ref) { s with heap := h', toks := tk }) :
    wpAny (model prog w) A (collect (.ref z)) R E s := by
  have zl : z < s.heap.objs.size := Heap.lt_size hz
  have TIl : TI < s.heap.objs.size := Heap.lt_size hTI
  have TOl : TO < s.heap.objs.size := Heap.lt_size hTO
  have i1l : i1 < s.heap.objs.size := let ⟨_, e, _⟩ := h1; Heap.lt_size e
  have i2l : i2 < s.heap.objs.size := let ⟨_, e, _⟩ := h2; Heap.lt_size e
  have l1l : l1 < s.heap.objs.size := let ⟨_, e, _⟩ := hl1; Heap.lt_size e
  have l2l : l2 < s.heap.objs.size := let ⟨_, e, _⟩ := hl2; Heap.lt_size e
  have o : Off z TI TO i1 i2 l1 l2 s.heap.objs.size := ⟨Nat.ne_of_gt zl, Nat.ne_of_gt TIl, Nat.ne_of_gt TOl, Nat.ne_of_gt i1l, Nat.ne_of_gt i2l, Nat.ne_of_gt l1l, Nat.ne_of_gt l2l⟩
  unfold collect
  refine wpAny_bind (wpAny_runValue (codeAny_builtin entry_proto_collect' ?_))
  rw [Around.under_plainId PySem.F.plain_proto_collect _]
  show wpAny _ A.in1 (newList [] >>= fun l => again (.builtin "list.__iadd__" ⟨[l, .ref z], []⟩)) _ _ s
  refine wpAny_bind (wpAny_newObj_type ?_)
  refine wpAny_pure ⟨plainId_quiet PySem.F.plain_list_iadd _, codeAny_builtin entry_list_iadd' ?_⟩
  rw [Around.under_plainId PySem.F.plain_list_iadd _]
  have hS₁ : (s.heap.push { cls := .type "list", data := .seq ([] : List Value).toArray }).get? s.heap.objs.size = some { cls := .type "list", data := .seq #[] } := Heap.get?_push_size _ rfl
  have st : ZSt (s.heap.push { cls := .type "list", data := .seq ([] : List Value).toArray }) z TI TO i1 i2 l1 l2 s.heap.objs.size 0 xs ys :=
    ⟨Heap.get?_push_of_some _ hTI, h1.at fun u e => Heap.get?_push_of_some _ e, h2.at fun u e => Heap.get?_push_of_some _ e, hl1.at fun u e => Heap.get?_push_of_some _ e, hl2.at fun u e => Heap.get?_push_of_some _ e, .inl ⟨Heap.get?_push_of_some _ hz, _, _, Heap.get?_push_of_some _ hTO⟩⟩
  show wpAny _ A.in1 (Builtin.List.listExtendWith (.ref s.heap.objs.size) (.ref z) (.ref s.heap.objs.size)) _ _ _
  unfold Builtin.List.listExtendWith
  refine wpAny_bind (wpAny_typeOf (T := "zip") st.type ?_)
  have g1 : Builtin.List.listSameRef (.ref s.heap.objs.size) (.ref z) = false := by simp [Builtin.List.listSameRef, Nat.ne_of_gt zl]
  have g2 : (Value.type "zip" == Value.type "list") = false := by decide
  have g3 : (Value.type "zip" == Value.type "tuple") = false := by decide
  simp only [g1, g2, g3, Bool.or_false, Bool.false_eq_true, if_false]
  refine wpAny_bind (wpAny_pyIter_zip (Heap.get?_push_of_some _ hz) ?_)
  refine wpAny_bind (wpAny_holding (z_hint st ?_))
  refine wpAny_ite_split (fun _ => ?_) (fun q => absurd rfl q)
  refine wpAny_bind (wpAny_rule ?_)
  refine wpAny_bind ?_
  show wpAny _ _ (updateSeq s.heap.objs.size (·.push .none) >>= fun _ => updateSeq s.heap.objs.size (·.pop)) _ _ _
  refine wpAny_bind (wpAny_updateSeq hS₁ rfl ?_)
  have hS₂ := Heap.get?_update_self (Obj.mapSeq (·.push Value.none)) hS₁ rfl
  refine wpAny_updateSeq (hz := by seq_fits) hS₂ rfl ?_
  have hS₃ := Heap.get?_update_self (Obj.mapSeq (·.pop)) hS₂ rfl
  have kp : ∀ b u, b ≠ s.heap.objs.size → (s.heap.push { cls := .type "list", data := .seq ([] : List Value).toArray }).get? b = some u → (((s.heap.push { cls := .type "list", data := .seq ([] : List Value).toArray }).update s.heap.objs.size (Obj.mapSeq (·.push Value.none))).update s.heap.objs.size (Obj.mapSeq (·.pop))).get? b = some u :=
    fun b u hb e => (Heap.get?_update_other _ _ (Ne.symm hb)).trans ((Heap.get?_update_other _ _ (Ne.symm hb)).trans e)
  refine wpAny_pure ⟨plainId_quiet PySem.F.plain_extend_loop _, ?_⟩
  refine loopZ (s := s) (h₁ := s.heap) D o hh zl TOl i1l i2l hxy hn _ rfl (fun h' tk acc c as hk hS' hal hG hacc => ?_) xs.size 0 _ _ _ #[] [] (Nat.sub_zero _) (Nat.zero_le _) (st.keep o kp) (fun b u c1 c2 c3 c4 e => kp b u (Nat.ne_of_lt (Heap.lt_size e)) (Heap.get?_push_of_some _ e)) hS₃ rfl rfl ⟨List.Pairwise.nil, (fun _ ha => nomatch ha), (fun j a hj => by simp at hj)⟩
  show wpAny _ A (load s.heap.objs.size >>= _) _ _ _
  refine wpAny_bind (wpAny_load hS' ?_)
  refine wpAny_pure ?_
  show R acc.toList _
  rw [hacc]
  exact h h' tk as hk (Heap.lt_size hS') hal hG
end
end CB.ZL

/-! ## KZ2 -/
set_option Elab.async false
set_option linter.all false
set_option maxRecDepth 100000
set_option maxHeartbeats 4000000
/-! sorted(zip(a, b)) of two lists of data -/
namespace CB
open PySem PySem.Spec PySem.W PySem.Calls PyProof.Rows L2
mutual
theorem reads_as {h : Heap} : ∀ (d : PyData) (v : Value) (as : List Addr), itD d = true → Reads h v d as → as = []
  | .int _, _, _, _, r => by cases r; rfl
  | .tuple xs, _, _, hd, r => by
    cases r with
    | tuple h1 h2 h3 h4 => exact readsAll_as xs _ _ (by simpa only [itD] using hd) h4
  | .none, _, _, h, _ | .bool _, _, _, h, _ | .str _, _, _, h, _ | .list _, _, _, h, _ | .dict _, _, _, h, _ => by simp [itD] at h
theorem readsAll_as {h : Heap} : ∀ (ds : List PyData) (vs : List Value) (as : List Addr), itDs ds = true → ReadsAll h vs ds as → as = []
  | [], _, _, _, r => by cases r; rfl
  | d :: ds, _, _, hd, r => by
    simp only [itDs, Bool.and_eq_true] at hd
    cases r with
    | cons h1 h2 => rw [reads_as d _ _ hd.1 h1, readsAll_as ds _ _ hd.2 h2]; rfl
end
theorem alike_P : ∀ xs ys : List (Int × Int), alikeAll (xs.map encP) (ys.map encP) = true
  | [], _ => by simp [alikeAll]
  | _ :: _, [] => by simp [alikeAll]
  | x :: xs, y :: ys => by
    simp [alikeAll, alike, encP, alike_P xs ys]
theorem alike_T (t u : Stt) : alike (encT t) (encT u) = true := by
  simp [encT, encQ, encI, alike, alikeAll, alike_P, alike_ints]
def pairD (d e : PyData) : PyData := .tuple [d, e]
theorem pairs_get {ds es : List PyData} {j : Nat} {d e : PyData} (h1 : ds[j]? = some d) (h2 : es[j]? = some e) : (List.zipWith pairD ds es)[j]? = some (pairD d e) := by
  rw [List.getElem?_zipWith, h1, h2]
theorem imAll_of {K : Fg} {H : Hp} : ∀ {vs : List V} {ds : List PyData}, vs.length = ds.length → (∀ (j : Nat) v d, vs[j]? = some v → ds[j]? = some d → Im K H v d) → ImAll K H vs ds
  | [], [], _, _ => .nil
  | v :: vs, d :: ds, hl, h => .cons (h 0 v d rfl rfl) (imAll_of (by simpa using hl) fun j v' d' e1 e2 => h (j + 1) v' d' (by simpa using e1) (by simpa using e2))
  | [], _ :: _, hl, _ => by simp at hl
  | _ :: _, [], hl, _ => by simp at hl
theorem vals_each : ∀ {out : List Value} {bs : List (V × PyData)}, EachIs (fun (v : Value) (b : V × PyData) => RelV b.1 v) out bs → Vals (bs.map Prod.fst) out
  | _, _, .nil => .nil
  | _, _, .cons h t => .cons h (vals_each t)
def sortP (ps : List PyData) : List PyData := ps.mergeSort (dataLe false id)
theorem sortP_perm (ps : List PyData) : (sortP ps).Perm ps := List.mergeSort_perm ps _
def tSortZip (K : Fg) (ta : TA) : TE := fun σ H Q => ta σ H fun vs H1 => ∃ (a b : Addr) (xs ys : List V) (ds es : List PyData), vs = [.ref a, .ref b] ∧ SqL K H1 a xs ∧ SqL K H1 b ys ∧ ImAll K H1 xs ds ∧ ImAll K H1 ys es ∧ ds.length = es.length ∧ ds.length ≤ sizeLine ∧
  (∀ d, d ∈ List.zipWith pairD ds es → itD d = true ∧ d.depth ≤ 8) ∧ AllAlike (List.zipWith pairD ds es) ∧
  ∀ (H' : Hp) (l : Addr) (zs : List V), Same H1 H' → H1 l = none → H' l = some (.lst zs) → ImAll K H' zs (sortP (List.zipWith pairD ds es)) → Q (.ref l) H'
theorem pe_sortZip {X : Cx} {a b : Expr} {ta : TA} {p p2 q pos : Pos} (hu : X.A.units + 64 < cLine) (hg : Gl X "sorted") (hm : X.mg "sorted" = none) (hg2 : Gl X "zip") (hm2 : X.mg "zip" = none) (ha : PA X [a, b] ta) (hc : X.calm = true := by rfl)
    (hs : starEach [a, b] X.env = (false, eval a X.env) :: starEach [b] X.env := by rfl) (hpl : (backTo q (starEach [b] X.env)).any (·.1) = false := by rfl)
    (na : starEach [.Call (.Name "zip" p2) [a, b] [] q] X.env = (false, eval (.Call (.Name "zip" p2) [a, b] [] q) X.env) :: starEach [] X.env := by rfl) :
    PE X (.Call (.Name "sorted" p) [.Call (.Name "zip" p2) [a, b] [] q] [] pos) (tSortZip X.K ta) := by
  refine ⟨fun pins s σ H Q I h => ?_⟩
  refine Call_ (ld_blt I hg hm boot_sorted ?_)
  refine PyProof.Rows.callWith_builtin1 (PyProof.Rows.args_cons ?_ rfl) na rfl
  refine Call_ (ld_blt I hg2 hm2 boot_zip (PyProof.Rows.callWith_type1 (thn (ha.run q pins s σ H _ I h) fun us s1 ⟨vs, H1, I1, r1, q1⟩ => ?_) hs hpl))
  obtain ⟨l1, l2, xs, ys, ds, es, rfl, qx, qy, ix, iy, hl, hz, hit, hal, q1⟩ := q1
  cases r1 with
  | cons r rr =>
  cases rr with
  | cons r' rr =>
  cases rr
  cases r
  cases r'
  obtain ⟨its, rv, p1, _⟩ := I1.list qx
  obtain ⟨its2, rv2, p2, _⟩ := I1.list qy
  have n1 : its.length = ds.length := by rw [← rv.length, imAll_len ix]
  have n2 : its2.length = es.length := by rw [← rv2.length, imAll_len iy]
  have hh : X.A.handled = none := I1.ok.hd hc
  refine call_zip_2 p1.isList p2.isList fun h0 hz0 hTI hTO h1 h2 hsz hk => ?_
  refine PyProof.Rows.args_nil ?_
  refine call_function_entry kind_sorted plain_sorted entry_sorted (args_sorted1 _) ?_
  unfold Builtin.«sorted»
  refine wpAny_bind (m := checkCount "sorted" 1 1 _) (wpAny_pure ?_)
  have hl1 : h0.IsList l1 its.toArray := p1.isList.at fun o e => hk _ o e
  have hl2 : h0.IsList l2 its2.toArray := p2.isList.at fun o e => hk _ o e
  refine wpAny_bind (ZL.collectZ (s := { s1 with heap := h0 }) (A := X.A.in1) hh (PySem.W.ktu_apart s1.heap.objs.size l1 l2 p1.lt p2.lt) hz0 hTI hTO h1 h2 hl1 hl2 (by rw [List.size_toArray, List.size_toArray]; omega) (by rw [List.size_toArray]; omega) fun h' tk as hk' hlt hla hG => ?_)
  dsimp only at hk' hlt hG ⊢
  rw [List.size_toArray] at hla
  refine wpAny_bind (wpAny_newList ?_ (by rw [List.length_map]; omega))
  have kk : ∀ b o, s1.heap.get? b = some o → h'.get? b = some o := fun b o e => by
    have lt := Heap.lt_size e
    exact hk' b o (Nat.ne_of_lt (Nat.lt_add_right 4 lt)) (Nat.ne_of_lt (Nat.lt_add_right 3 lt)) (Nat.ne_of_lt lt) (Nat.ne_of_lt (Nat.lt_add_right 1 lt)) (hk b o e)
  have up2 : s1.heap.objs.size ≤ h'.objs.size := by rw [hsz] at hlt; omega
  have hob : (h'.push { cls := .type "list", data := .seq (as.map Value.ref).toArray }).get? h'.objs.size = some (seqObj "list" (as.map Value.ref).toArray 0) := Heap.get?_push_size _ rfl
  have ka : ∀ b o, h'.get? b = some o → (h'.push { cls := .type "list", data := .seq (as.map Value.ref).toArray }).get? b = some o := fun b o e => Heap.get?_push_of_some _ e
  have ne0 : ∀ b o, h'.get? b = some o → b ≠ h'.objs.size := fun b o e => Nat.ne_of_lt (Heap.lt_size e)
  generalize h'.push { cls := .type "list", data := .seq (as.map Value.ref).toArray } = h2 at hob ka ⊢
  have nd : as.Nodup := List.Pairwise.imp (fun h => Nat.ne_of_lt h) hG.rise
  -- the pairs tracked, in whatever heap keeps them
  have build : ∀ (hF : Heap) (t' : Nat) (H1' : Hp), Inv X pins σ H1' { s1 with heap := hF, toks := t' } → Same H1 H1' → (∀ b, b ∈ as → H1' b = none) → (∀ b o, b ≠ h'.objs.size → h2.get? b = some o → hF.get? b = some o) →
      ∃ H2, Inv X pins σ H2 { s1 with heap := hF, toks := t' } ∧ Same H1' H2 ∧ ImAll X.K H2 (as.map V.ref) (List.zipWith pairD ds es) := by
    intro hF t' H1' I2 g0 hno kF
    obtain ⟨H2, I3, g, qt⟩ := DX.takeT (P := fun b vs => ∃ (j : Nat) (x y : V), as[j]? = some b ∧ xs[j]? = some x ∧ ys[j]? = some y ∧ vs = [x, y]) I1 as H1' I2 nd fun b hb => by
      obtain ⟨j, hj⟩ := List.mem_iff_getElem?.mp hb
      obtain ⟨x', y', e1, e2, e3⟩ := hG.pairs j b hj
      have lj : j < xs.length := by
        have := (List.getElem?_eq_some_iff.mp hj).1
        rw [imAll_len ix]
        omega
      have lj2 : j < ys.length := by
        rw [imAll_len iy, ← hl, ← imAll_len ix]
        exact lj
      have ex := List.getElem?_eq_getElem lj
      have ey := List.getElem?_eq_getElem lj2
      obtain ⟨u, hu1, ru⟩ := rv.get ex
      obtain ⟨u2, hu2, ru2⟩ := rv2.get ey
      have hx' : x' = u := by
        have : its[j]? = some x' := by simpa using e1
        exact Option.some.inj (this.symm.trans hu1)
      have hy' : y' = u2 := by
        have : its2[j]? = some y' := by simpa using e2
        exact Option.some.inj (this.symm.trans hu2)
      subst hx' hy'
      have hbl : s1.heap.objs.size ≤ b := by
        have := hG.above b hb
        exact Nat.le_trans (by rw [hsz]; exact Nat.le_add_right _ 5) (Nat.le_of_lt this)
      exact ⟨hbl, hno b hb, [xs[j], ys[j]], ⟨j, _, _, hj, ex, ey, rfl⟩, fun H3 => ⟨(by rw [sizeLine_eq]; show 2 ≤ 16777216; omega), [x', y'], .cons ru (.cons ru2 .nil), ⟨_, kF _ _ (ne0 _ _ e3) (ka _ _ e3), rfl, 0, rfl⟩⟩⟩
    refine ⟨H2, I3, g, imAll_of ?_ fun j v d hv hd => ?_⟩
    · rw [List.length_map, List.length_zipWith]
      omega
    · rw [List.getElem?_map] at hv
      cases ej : as[j]? with
      | none => rw [ej] at hv; cases hv
      | some b =>
        rw [ej] at hv
        obtain rfl := Option.some.inj hv
        obtain ⟨vs, ⟨j', x, y, j1, j2, j3, rfl⟩, hH⟩ := qt b (List.mem_of_getElem? ej)
        have eij : j = j' := (List.getElem?_inj (List.getElem?_eq_some_iff.mp ej).1 nd).mp (ej.trans j1.symm)
        subst eij
        obtain ⟨d1, f1, g1⟩ := imAll_get' ix j2
        obtain ⟨d2, f2, g2⟩ := imAll_get' iy j3
        rw [pairs_get f1 f2] at hd
        obtain rfl := Option.some.inj hd
        have t : Tk H1 H2 := tk_of (g0.trans g)
        exact .tup (SqT.of hH) (.cons (g1.mono t) (.cons (g2.mono t) .nil))
  have kS : ∀ (hF : Heap), (∀ b o, b ≠ h'.objs.size → h2.get? b = some o → hF.get? b = some o) → ∀ b o, s1.heap.get? b = some o → hF.get? b = some o := fun hF kF b o e => kF b o (ne0 _ _ (kk b o e)) (ka _ _ (kk b o e))
  have hno : ∀ b, b ∈ as → H1 b = none := fun b hb => I1.hok.fresh (Nat.le_trans (by rw [hsz]; exact Nat.le_add_right _ 5) (Nat.le_of_lt (hG.above b hb)))
  obtain ⟨Hb, Ib, gb, imb⟩ := build h2 tk H1 (I1.kept (t' := tk) (kS h2 fun _ _ _ e => e)) (Same.refl _) hno fun _ _ _ e => e
  have lpd : (as.map V.ref).length = (List.zipWith pairD ds es).length := imAll_len imb
  have lpa : as.length = (List.zipWith pairD ds es).length := by rw [← lpd, List.length_map]
  have e1 : ((as.map V.ref).zip (List.zipWith pairD ds es)).map Prod.snd = List.zipWith pairD ds es := List.map_snd_zip (by omega)
  have e2 : ((as.map V.ref).zip (List.zipWith pairD ds es)).map Prod.fst = as.map V.ref := List.map_fst_zip (by omega)
  have eR : EachIs (fun (v : Value) (b : V × PyData) => RelV b.1 v) (as.map Value.ref) ((as.map V.ref).zip (List.zipWith pairD ds es)) := by
    refine EachIs.of_zip (by rw [List.length_zip, List.length_map, List.length_map]; omega) fun z hzm => ?_
    obtain ⟨j, hj⟩ := List.mem_iff_getElem?.mp hzm
    obtain ⟨f1, f2⟩ := List.getElem?_zip_eq_some.mp hj
    obtain ⟨f3, f4⟩ := List.getElem?_zip_eq_some.mp f2
    rw [List.getElem?_map] at f1 f3
    cases ej : as[j]? with
    | none => rw [ej] at f1; cases f1
    | some b =>
      rw [ej] at f1 f3
      rw [← Option.some.inj f1, ← Option.some.inj f3]
      rfl
  have mem : ∀ b : V × PyData, b ∈ (as.map V.ref).zip (List.zipWith pairD ds es) → b.2 ∈ List.zipWith pairD ds es ∧ Im X.K Hb b.1 b.2 := fun b hb => by
    obtain ⟨j, hj⟩ := List.mem_iff_getElem?.mp hb
    obtain ⟨f1, f2⟩ := List.getElem?_zip_eq_some.mp hj
    obtain ⟨v, g1, g2⟩ := imAll_get imb f2
    rw [f1] at g1
    obtain rfl := Option.some.inj g1
    exact ⟨List.mem_of_getElem? f2, g2⟩
  refine wpAny_bind (wpAny_holding ?_)
  refine list_sort_data (s := { s1 with heap := h2, toks := tk }) (R := fun (v : Value) (b : V × PyData) => RelV b.1 v) (enc := Prod.snd) (bs := (as.map V.ref).zip (List.zipWith pairD ds es)) hob eR ?_ (by rw [e1]; exact hal) ?_ (by rw [List.length_zip, List.length_map]; omega) ?_ fun out lo eo => ?_
  · have em := each_mem eR
    refine em.mono fun v b ⟨rb, hb⟩ => ?_
    obtain ⟨m1, m2⟩ := mem b hb
    obtain ⟨as', r⟩ := Dp.reads Ib b.2 b.1 v (Im.dp (it_lay _ (hit _ m1).1) m2) rb
    have e := reads_as b.2 v as' (hit _ m1).1 r
    exact ⟨as', r, by rw [e]; exact List.not_mem_nil⟩
  · rw [e1]
    refine .inl fun d hd => ?_
    obtain ⟨j, hj⟩ := List.mem_iff_getElem?.mp hd
    rw [List.getElem?_zipWith] at hj
    cases f1 : ds[j]? with
    | none => rw [f1] at hj; simp at hj
    | some d1 =>
      cases f2 : es[j]? with
      | none => rw [f1, f2] at hj; simp at hj
      | some d2 =>
        rw [f1, f2] at hj
        exact ⟨d1, [d2], (Option.some.inj hj).symm⟩
  · intro b hb
    have := (hit _ (mem b hb).1).2
    show X.A.units + 1 + 1 + b.2.depth < cLine
    omega
  · refine wpAny_pure ⟨_, rfl, ?_⟩
    have kF : ∀ b o, b ≠ h'.objs.size → h2.get? b = some o → (sortedHeap h2 h'.objs.size (as.map Value.ref) out.toArray).get? b = some o := fun b o hb e => (PyProof.Rows.sortedHeap_old hb (Heap.lt_size e)).trans e
    obtain ⟨eF, heF⟩ := PyProof.Rows.sortedHeap_at (vs := as.map Value.ref) (out := out.toArray) hob
    have I2 : Inv X pins σ H1 { s1 with heap := sortedHeap h2 h'.objs.size (as.map Value.ref) out.toArray, toks := tk } := I1.kept (t' := tk) (kS _ kF)
    have hn0 : H1 h'.objs.size = none := I1.hok.fresh up2
    have pm := List.mergeSort_perm ((as.map V.ref).zip (List.zipWith pairD ds es)) (dataLe false Prod.snd)
    have rvo : Vals ((((as.map V.ref).zip (List.zipWith pairD ds es)).mergeSort (dataLe false Prod.snd)).map Prod.fst) out := vals_each eo
    have I4 := I2.take (h' := sortedHeap h2 h'.objs.size (as.map Value.ref) out.toArray) (t' := tk) (it := h'.objs.size) (o := .lst ((((as.map V.ref).zip (List.zipWith pairD ds es)).mergeSort (dataLe false Prod.snd)).map Prod.fst)) (fun b ob _ e => e) (I1.fpOk up2 hn0)
      ⟨by rw [List.length_map, pm.length_eq, List.length_zip, List.length_map]; omega, out, eF, rvo, heF⟩
    obtain ⟨Hc, Ic, gc, imc⟩ := build _ tk _ I4 (same_new hn0) (fun b hb => by
      rw [upd_ne (Nat.ne_of_lt (hG.there hb))]
      exact hno b hb) kF
    refine ⟨.ref h'.objs.size, Hc, Ic, rfl, q1 Hc h'.objs.size _ ((same_new hn0).trans gc) hn0 (gc _ _ upd_same) ?_⟩
    · have em : sortP (List.zipWith pairD ds es) = (((as.map V.ref).zip (List.zipWith pairD ds es)).mergeSort (dataLe false Prod.snd)).map Prod.snd := by
        unfold sortP
        rw [List.map_mergeSort (r := dataLe false Prod.snd) (s := dataLe false id) (f := Prod.snd) fun a _ b _ => rfl, e1]
      rw [em]
      refine imAll_of (by rw [List.length_map, List.length_map]) fun j v d hv hd => ?_
      rw [List.getElem?_map] at hv hd
      cases ez : (((as.map V.ref).zip (List.zipWith pairD ds es)).mergeSort (dataLe false Prod.snd))[j]? with
      | none => rw [ez] at hv; cases hv
      | some z =>
        rw [ez] at hv hd
        obtain rfl := Option.some.inj hv
        obtain rfl := Option.some.inj hd
        have hzm := pm.mem_iff.mp (List.mem_of_getElem? ez)
        obtain ⟨j2, hj2⟩ := List.mem_iff_getElem?.mp hzm
        obtain ⟨f1, f2⟩ := List.getElem?_zip_eq_some.mp hj2
        obtain ⟨v, g1, g2⟩ := imAll_get imc f2
        rw [f1] at g1
        obtain rfl := Option.some.inj g1
        exact g2
section
variable {K : Fg} {s : L2.St} {H : Hp} {ta : TA} {ds es : List PyData}
theorem el_sortZip {a b : Addr} {xs ys : List V} (h : EvA K s H ta [.rf a, .rf b]) (qx : SqL K H a xs) (qy : SqL K H b ys) (ix : ImAll K H xs ds) (iy : ImAll K H ys es) (hl : ds.length = es.length) (hz : ds.length ≤ sizeLine)
    (hit : ∀ d, d ∈ List.zipWith pairD ds es → itD d = true ∧ d.depth ≤ 8) (hal : AllAlike (List.zipWith pairD ds es)) : EvL K s H (tSortZip K ta) (sortP (List.zipWith pairD ds es)) := fun H1 x1 Q q =>
  h H1 x1 _ fun vs H2 x2 rr => ⟨a, b, xs, ys, ds, es, by
    cases rr with
    | cons r1 rr =>
      cases rr with
      | cons r2 rr =>
        cases rr
        obtain rfl : _ = V.ref a := r1
        obtain rfl : _ = V.ref b := r2
        rfl, (x1.trans x2).seq qx, (x1.trans x2).seq qy, ix.mono (tk_of (x1.trans x2)), iy.mono (tk_of (x1.trans x2)), hl, hz, hit, hal, fun H' l zs g1 g2 g3 g4 => q l zs H' (x2.trans g1) (by
    cases e : H1 l with
    | none => rfl
    | some o =>
      have := x2 _ _ e
      rw [g2] at this
      cases this) g3 g4⟩
end
end CB

/-! ## KR3 -/
set_option Elab.async false
set_option linter.all false
set_option maxRecDepth 100000
set_option maxHeartbeats 4000000
/-! tuple(list) whose object is known; names of defs as values. -/
namespace CB
open PySem PySem.Spec PyProof.Rows L2
/-- tuple(l): a new tuple whose object has no dict -/
def rTupP (K : Fg) : List V → Hp → VK → Prop := fun xs H Q => ∃ p ys, xs = [.ref p] ∧ SqL K H p ys ∧ ∀ l ob, H l = none → ob.dict = none → Q (.ref l) (upd H l (.frz ob (.tup ys)))
theorem c_tupP {X : Cx} : CallR X (.type "tuple") (rTupP X.K) := by
  intro pins s σ H xs us Q I r h
  obtain ⟨p, ys, rfl, hq, q⟩ := h
  obtain ⟨u, rfl, rx⟩ := vals1 r
  cases rx
  obtain ⟨its, r', pl, hz⟩ := I.list hq
  have hlen := r'.length
  refine call_tuple_list pl.isList (fun h' kp => ?_) (by simp only [List.size_toArray] <;> omega)
  have I1 : Inv X pins σ H { s with heap := h' } := I.kept (t' := s.toks) kp
  have I2 : Inv X pins σ (upd H h'.objs.size (.frz { cls := .type "tuple", data := .seq its.toArray } (.tup ys))) { s with heap := h'.push { cls := .type "tuple", data := .seq its.toArray } } :=
    I1.laid (t' := s.toks) (fun b o e => Heap.get?_push_of_some _ e) (Nat.le_refl _) (show ObjOk X.prog X.w _ _ _ (.frz _ (.tup ys)) from ⟨Heap.get?_push_size _ rfl, hz, its, r', IsTup.new _ _⟩)
  exact ⟨.ref h'.objs.size, _, I2, rfl, q _ _ (I1.hok.fresh (Nat.le_refl _)) rfl⟩
theorem ev_tupP {K : Fg} {s : L2.St} {H : Hp} {te : TE} {zs : List (PyData × PyData)} (h : EvL K s H te (zs.map pairK)) : EvE K s H (tCB (rTupP K) (tCons te tNil)) (.im (.dict zs)) := fun H1 x1 Q q =>
  h H1 x1 _ fun p xs H2 x2 np hp r => ⟨p, xs, rfl, SqL.of hp, fun l ob nl hd => q _ _ (x2.trans (same_new nl)) (.ptp upd_same hd (r.mono (tk_of (same_new nl))))⟩
section
variable {X : Cx}
/-- the name of a def of the module -/
theorem pe_gv {x : Str} {p : Pos} {f : Addr} (hg : Gl X x) (hm : X.mg x = some (.ref f)) (hdb : (x == ("__debug__" : Str)) = false := by decide) : PE X (.Name x p) (tC (.ref f)) := by
  refine ⟨fun pins s σ H Q I h => ?_⟩
  exact ld_glob I hg hm ⟨.ref f, H, I, rfl, h⟩ hdb
theorem ev_gv {K : Fg} {s : L2.St} {H : Hp} {f : Addr} : EvE K s H (tC (.ref f)) (.rf f) := fun H1 _ Q q => q _ H1 (Same.refl _) rfl
end
end CB

/-! ## KD3 -/
set_option Elab.async false
set_option linter.all false
set_option maxRecDepth 100000
set_option maxHeartbeats 2000000
/-! len(d), d.get(k), dict(t) where keys are nested tuples. -/
namespace CB
open PySem PySem.Spec PyProof.Rows L2
section
variable {X : Cx}
def rLenS (P : Program) (w : World) (K : Fg) : List V → Hp → VK → Prop := fun xs H Q => ∃ (d : Addr) (kvs : List Ent), xs = [V.ref d] ∧ DicOk P w K H d kvs ∧ kvs.length ≤ sizeLine ∧ Q (.int kvs.length) H
theorem c_lenS : CallR X (.builtin "len") (rLenS X.prog X.w X.K) := by
  intro pins s σ H vs us Q I r h
  obtain ⟨d, kvs, rfl, g, hz, q⟩ := h
  rw [Vals.ref1 r]
  obtain ⟨hd, xs, rr, dd⟩ := g.to I
  have hl : (pairsH xs).length = kvs.length := by rw [pairsH_length, ents_len rr]
  rw [sizeLine_eq] at hz
  refine PyProof.Rows.call_len_slot (n := ((pairsH xs).length : Int)) dd.typeIs PySem.F.slot_dict_len (fun Q' hQ => len_keyed hd ⟨xs, dd, rfl⟩ hQ) (by omega) (by rw [hl]; omega) ?_
  rw [hl]
  exact ⟨.int kvs.length, H, I.tok _, ⟨_, rfl⟩, q⟩
theorem ev_lenS {P : Program} {w : World} {K : Fg} {s : L2.St} {H : Hp} {ta : TE} {d : Addr} {kvs : List Ent} (g : DicOk P w K H d kvs) (hz : kvs.length ≤ sizeLine) (ha : EvE K s H ta (.rf d)) : EvE K s H (tCB (rLenS P w K) (tCons ta tNil)) (.im (.int (kvs.length : Nat))) :=
  ev_cb (ea_c ha ea_n) fun vs H1 Q x r q => by
    obtain ⟨v, e1, r1⟩ := enAll1 r
    obtain rfl : v = V.ref d := r1
    exact ⟨d, kvs, e1, g.mono x, hz, q _ H1 (Same.refl _) (.int _)⟩
/-- dict(t), t a tuple of pairs, the keys nested tuples that differ -/
structure EntsAre (kvs : List Ent) (zs : List (PyData × PyData)) (K : Fg) (H : Hp) : Prop where
  keys : kvs.map Prod.fst = zs.map Prod.fst
  has : ∀ z, z ∈ zs → ∃ p, p ∈ kvs ∧ p.1 = z.1 ∧ Im K H p.2.2 z.2
def rDictS (P : Program) (w : World) (K : Fg) : List V → Hp → VK → Prop := fun vs H Q => ∃ (a : Addr) (zs : List (PyData × PyData)), vs = [V.ref a] ∧ Im K H (.ref a) (.dict zs) ∧ zs.length ≤ sizeLine ∧ (∀ z, z ∈ zs → Ky z.1 ∧ ∃ ds, z.1 = .tuple ds) ∧ (zs.map Prod.fst).Nodup ∧
  ∀ (d : Addr) (kvs : List Ent) (H' : Hp), Same H H' → H d = none → DicOk P w K H' d kvs → EntsAre kvs zs K H' → Q (.ref d) H'
theorem storedAll_new {κ : Type} [DecidableEq κ] : ∀ (ps xs : List (κ × Addr × Value)), ((xs ++ ps).map (·.1)).Nodup → storedAllH xs ps = xs ++ ps
  | [], xs, _ => by simp [storedAllH]
  | p :: ps, xs, h => by
    have hn : atKey xs p.1 = none := by
      unfold atKey
      rw [Option.map_eq_none_iff, List.find?_eq_none]
      intro q hq z
      have z : q.1 = p.1 := by simpa using z
      rw [List.map_append, List.nodup_append] at h
      exact h.2.2 q.1 (List.mem_map.mpr ⟨q, hq, rfl⟩) p.1 (List.mem_map.mpr ⟨p, List.mem_cons_self, rfl⟩) z
    have e : storedAllH xs (p :: ps) = storedAllH (storedH xs p.1 p.2.1 p.2.2) ps := rfl
    rw [e, storedH_new hn, storedAll_new ps (xs ++ [(p.1, p.2.1, p.2.2)]) (by simpa using h)]
    simp
theorem keyOf_nodup {zs : List (PyData × PyData)} (hk : ∀ z, z ∈ zs → Ky z.1) (h : (zs.map Prod.fst).Nodup) : (zs.map fun z => keyOf z.1).Nodup := by
  induction zs with
  | nil => exact List.nodup_nil
  | cons z zs ih =>
    rw [List.map_cons, List.nodup_cons] at h ⊢
    refine ⟨fun hm => ?_, ih (fun z hz => hk z (List.mem_cons_of_mem _ hz)) h.2⟩
    obtain ⟨y, hy, e⟩ := List.mem_map.mp hm
    exact h.1 (List.mem_map.mpr ⟨y, hy, keyOf_inj _ _ (hk y (List.mem_cons_of_mem _ hy)).it (hk z List.mem_cons_self).it e⟩)
abbrev TQ := Addr × Addr × V × Value × (PyData × PyData)
/-- what stands in the pairs of a tuple of pairs -/
structure PairsAt (K : Fg) (H : Hp) (h : Heap) (us : List Value) (zs : List (PyData × PyData)) (ts : List TQ) : Prop where
  lu : us = ts.map fun t => Value.ref t.1
  lz : zs = ts.map fun t => t.2.2.2.2
  at_ : ∀ t, t ∈ ts → h.IsTuple t.1 #[.ref t.2.1, t.2.2.2.1] ∧ RelV t.2.2.1 t.2.2.2.1 ∧ Im K H (.ref t.2.1) t.2.2.2.2.1 ∧ Im K H t.2.2.1 t.2.2.2.2.2
theorem pairs_at {pins : List (Addr × Obj)} {σ : L2.St} {H : Hp} {s : Shared} (I : Inv X pins σ H s) : ∀ {zs : List (PyData × PyData)} {vs : List V} {us : List Value}, (∀ z, z ∈ zs → ∃ ds, z.1 = .tuple ds) → ImAll X.K H vs (zs.map pairK) → Vals vs us → ∃ ts, PairsAt X.K H s.heap us zs ts
  | [], _, _, _, h, r => by
    cases h
    cases r
    exact ⟨[], rfl, rfl, fun t e => by cases e⟩
  | z :: zs, _, _, hz, h, r => by
    have h : ImAll X.K H _ (pairK z :: zs.map pairK) := h
    cases h with
    | cons a t =>
    cases r with
    | cons ra rt =>
    obtain ⟨ts, h1, h2, h3⟩ := pairs_at I (fun z hz' => hz z (List.mem_cons_of_mem _ hz')) t rt
    obtain ⟨b, xs, rfl, hq, hs⟩ := im_tup a
    cases hs with
    | cons k1 hs =>
    cases hs with
    | @cons v2 _ _ _ k2 hs =>
    cases hs
    obtain ⟨ds, ed⟩ := hz z List.mem_cons_self
    rw [ed] at k1
    obtain ⟨c, _, rfl, _, _⟩ := im_tup k1
    rw [← ed] at k1
    cases ra
    obtain ⟨its, rv, p, _⟩ := I.tuple hq
    cases rv with
    | cons r1 rv =>
    cases rv with
    | @cons _ u2 _ _ r2 rv =>
    cases rv
    cases r1
    refine ⟨(b, c, v2, u2, z) :: ts, by rw [h1]; rfl, by rw [List.map_cons, ← h2], fun t e => ?_⟩
    rcases List.mem_cons.mp e with rfl | e
    · exact ⟨p, r2, k1, k2⟩
    · exact h3 t e
theorem c_dictS (hc : X.calm = true) (hu : X.A.units + 64 < cLine) : CallR X (.type "dict") (rDictS X.prog X.w X.K) := by
  intro pins s σ H vs us Q I r h
  obtain ⟨a, zs, rfl, hi, hz, hk, nd, q⟩ := h
  rw [Vals.ref1 r]
  cases hi with
  | @ptp _ xs ob _ hfz hdn hs =>
  obtain ⟨its, rv, _, _⟩ := I.tuple (a := a) (xs := xs) (.inl (.inr ⟨ob, hfz⟩))
  obtain ⟨hob, _, its', rv', ⟨o, ho, hcl, n, hdt⟩⟩ : s.heap.get? a = some ob ∧ _ := I.hok a _ hfz
  rw [hob] at ho
  obtain rfl := Option.some.inj ho
  obtain ⟨ts, h1, h2, h3⟩ := pairs_at I (fun z hz' => (hk z hz').2) hs rv'
  have lt : ts.length = zs.length := by rw [h2, List.length_map]
  have hb : (s.heap.objs.size == sysModules) = false := beq_eq_false_iff_ne.mpr (Ne.symm (Nat.ne_of_lt I.big))
  have hn := I.hok.fresh (Nat.le_refl s.heap.objs.size)
  have mz : ∀ t : TQ, t ∈ ts → t.2.2.2.2 ∈ zs := fun t ht => by rw [h2]; exact List.mem_map.mpr ⟨t, ht, rfl⟩
  have ndk : ((ts.map fun t : TQ => (keyOf t.2.2.2.2.1, t.2.1, t.2.2.2.1)).map (·.1)).Nodup := by
    have := keyOf_nodup (zs := zs) (fun z hz' => (hk z hz').1) nd
    rw [h2, List.map_map] at this
    rw [List.map_map]
    exact this
  refine call_dict_pairsH (A := X.A) (knd := nestedKind X.prog X.w) (ps := ts.map fun t : TQ => (keyOf t.2.2.2.2.1, t.2.1, t.2.2.2.1)) (PairArg.tuple a its'.toArray (fun j => (ts.map fun t : TQ => t.1).getD j 0) (ts.map fun t : TQ => (Value.ref t.2.1, t.2.2.2.1))) (I.ok.hd hc) (kroom2 (X := X) hu) ⟨⟨_, n, hob, hcl, hdn, hdt⟩, ?_, ?_⟩ ⟨?_, ?_⟩ ?_ ?_ ?_
  · rw [h1, List.size_toArray, List.length_map, List.length_map]
  · intro j k v hj
    rw [List.getElem?_map] at hj
    cases ej : ts[j]? with
    | none => rw [ej] at hj; cases hj
    | some t =>
      rw [ej] at hj
      obtain ⟨rfl, rfl⟩ := Prod.mk.inj (Option.some.inj hj)
      have e1 : (ts.map fun t : TQ => t.1).getD j 0 = t.1 := by rw [List.getD_eq_getElem?_getD, List.getElem?_map, ej]; rfl
      show its'.toArray[j]? = some (Value.ref ((ts.map fun t : TQ => t.1).getD j 0)) ∧ PairAt s.heap ((ts.map fun t : TQ => t.1).getD j 0) _ _
      rw [e1]
      refine ⟨?_, .inl (h3 t (List.mem_of_getElem? ej)).1⟩
      rw [h1]
      simp [ej]
  · rw [List.length_map, List.length_map]
  · intro i key v hrel
    have hrel : (ts.map fun t : TQ => (Value.ref t.2.1, t.2.2.2.1))[i]? = some (key, v) := hrel
    rw [List.getElem?_map] at hrel
    cases ej : ts[i]? with
    | none => rw [ej] at hrel; cases hrel
    | some t =>
      rw [ej] at hrel
      obtain ⟨rfl, rfl⟩ := Prod.mk.inj (Option.some.inj hrel)
      exact ⟨_, _, by rw [List.getElem?_map, ej]; rfl, rfl⟩
  · intro h' kp x hx
    obtain ⟨t, ht, rfl⟩ := List.mem_map.mp hx
    have I' : Inv X pins σ H { s with heap := h', toks := s.toks } := I.kept (t' := s.toks) fun b o e => kp b o (Nat.ne_of_lt (Heap.lt_size e)) (by simp) e
    exact key_is I' (h3 t ht).2.2.1 (hk _ (mz t ht)).1
  · rw [List.length_map, lt]; exact hz
  · intro h' tk hd' kp
    rw [storedAll_new _ [] (by simpa using ndk), List.nil_append] at hd'
    obtain ⟨o', es, ep, ho', he', hdt', hes', hky', nd'⟩ := hd'
    have rr : EntsR (ts.map fun t : TQ => (t.2.2.2.2.1, t.2.1, t.2.2.1)) (ts.map fun t : TQ => (keyOf t.2.2.2.2.1, t.2.1, t.2.2.2.1)) := by
      clear h1 h2 hes' nd' ndk lt mz hky'
      induction ts with
      | nil => exact .nil
      | cons t ts ih => exact .cons ⟨rfl, rfl, (h3 t List.mem_cons_self).2.1⟩ (ih fun t ht => h3 t (List.mem_cons_of_mem _ ht))
    have I2 := I.laid (a := s.heap.objs.size) (o := KDs X.prog X.w s.heap.objs.size (ts.map fun t : TQ => (t.2.2.2.2.1, t.2.1, t.2.2.1))) (h' := h') (t' := tk) (fun b o e => kp b o (by simp) e) (Nat.le_refl _) (kds_ok hb rr ho' he' hdt' hes' nd')
    have sm : Same H (upd H s.heap.objs.size (KDs X.prog X.w s.heap.objs.size (ts.map fun t : TQ => (t.2.2.2.2.1, t.2.1, t.2.2.1)))) := same_new hn
    refine ⟨.ref s.heap.objs.size, _, I2, rfl, q _ (ts.map fun t : TQ => (t.2.2.2.2.1, t.2.1, t.2.2.1)) _ sm hn ⟨upd_same, fun p hp => ?_⟩ ⟨?_, fun z hz' => ?_⟩⟩
    · obtain ⟨t, ht, rfl⟩ := List.mem_map.mp hp
      exact ⟨Im.mono (tk_of sm) (h3 t ht).2.2.1, (hk _ (mz t ht)).1⟩
    · rw [h2, List.map_map, List.map_map]
      rfl
    · rw [h2] at hz'
      obtain ⟨t, ht, rfl⟩ := List.mem_map.mp hz'
      exact ⟨_, List.mem_map.mpr ⟨t, ht, rfl⟩, rfl, Im.mono (tk_of sm) (h3 t ht).2.2.2⟩
/-- o.get(k) -/
def tSGetM (P : Program) (w : World) (K : Fg) (td : TE) (t : TA) : TE := fun σ H Q => td σ H fun x H1 => (∃ (d : Addr) (kvs : List Ent), x = .ref d ∧ DicOk P w K H1 d kvs) ∧ t σ H1 fun ys H2 => ∃ (d b : Addr) (kvs : List Ent) (e : PyData) (v : V), x = .ref d ∧ ys = [.ref b] ∧ DicOk P w K H2 d kvs ∧ Im K H2 (.ref b) e ∧ Ky e ∧
  ((∃ p, p ∈ kvs ∧ p.1 = e ∧ v = p.2.2) ∨ ((∀ p, p ∈ kvs → p.1 ≠ e) ∧ v = .non)) ∧ Q v H2
theorem pe_sgetM {o e : Expr} {es : List Expr} {to : TE} {t : TA} {apos cpos : Pos} (hu : X.A.units + 64 < cLine) (ho : PE X o to) (ha : PA X (e :: es) t)
    (hbase : attributeBase o "get" X.env (eval o X.env) = eval o X.env := by rfl)
    (hfew : ((backTo cpos (starEach (e :: es) X.env)).all (fun x => !x.1) && (backToKw cpos (keywordEach [] X.env)).all (fun x => x.1.isSome)
      && decide ((e :: es).length + ([] : List Keyword).length + (if ([] : List Keyword).isEmpty then 0 else 1) < 30)) = true := by rfl)
    (hline : (apos.endLine == cpos.line) = true := by rfl) (hs : starEach (e :: es) X.env = (false, eval e X.env) :: starEach es X.env := by rfl) (hplain : (backTo cpos (starEach es X.env)).any (·.1) = false := by rfl) :
    PE X (.Call (.Attribute o "get" apos) (e :: es) [] cpos) (tSGetM X.prog X.w X.K to t) := by
  refine ⟨fun pins s σ H Q I h => ?_⟩
  refine wpAny_Call_method_late hbase hfew hline rfl (thn (ho.run pins s σ H _ I h) fun v s1 ⟨x, H1, I1, r1, ty, q1⟩ => ?_)
  obtain ⟨d0, kvs0, rfl, g0⟩ := ty
  obtain rfl : v = Value.ref d0 := r1
  obtain ⟨_, xs0, _, dd0⟩ := g0.to I1
  refine ⟨"dict", "dict.get", PySem.F.plainAttrs_dict, PySem.F.slot_dict_get, PySem.F.type_dict_get, dd0.typeIs, fun a ea => ?_, ?_⟩
  · obtain ⟨o, es', ep, ho', he, _⟩ := dd0
    cases ea
    exact ⟨o, ho', he.2.1⟩
  have hA := ha.run cpos pins s1 σ H1 _ I1 q1
  rw [hs] at hA ⊢
  refine Calls.callWith_builtin (by show (false || (backTo cpos (starEach es X.env)).any (·.1)) = false; rw [hplain] <;> rfl) (Calls.evalArgs_plain ?_)
  refine thn hA fun us s2 ⟨vs, H2, I2, r2, d, b, kvs, e', v', ex, ey, g, ge, ke, hv, q2⟩ => ?_
  cases ex
  subst ey
  rw [Vals.ref1 r2]
  obtain ⟨hd, xs, rr, dd⟩ := g.to I2
  refine call_meetsIn PySem.F.slot_dict_get dd.typeIs PySem.F.entry_dict_get (PySem.F.args_dict_get_2 _ _) (meetsH_dict_get (nestedKind X.prog X.w) d0 b hd) ⟨kroom (X := X) hu, keyOf e', xs, key_is I2 ge ke, dd, ?_⟩
  rcases hv with ⟨p, hp, ep, rfl⟩ | ⟨hn, rfl⟩
  · have nd : (xs.map (·.1)).Nodup := by
      obtain ⟨_, _, _, _, _, _, _, _, nd⟩ := dd
      exact nd
    obtain ⟨u, h1, h2⟩ := ents_some rr (fun p hp => (g.key p hp).2) ke nd hp ep
    rw [h1]
    exact ⟨p.2.2, H2, I2.tok _, h2, q2⟩
  · rw [ents_none rr (fun p hp => (g.key p hp).2) ke hn]
    exact ⟨.non, H2, I2.tok _, rfl, q2⟩
theorem ev_sgetM {P : Program} {w : World} {K : Fg} {s : L2.St} {H : Hp} {td ty : TE} {d : Addr} {kvs : List Ent} {e x : PyData} (g : DicOk P w K H d kvs) (ha : EvE K s H td (.rf d)) (hy : EvE K s H ty (.im e)) (ke : Ky e) (ht : ∃ ds, e = .tuple ds)
    (hx : (∃ p, p ∈ kvs ∧ p.1 = e ∧ Im K H p.2.2 x) ∨ ((∀ p, p ∈ kvs → p.1 ≠ e) ∧ x = .none)) : EvE K s H (tSGetM P w K td (tCons ty tNil)) (.im x) := fun H1 x1 Q q =>
  ha H1 x1 _ fun v H2 x2 r => by
    obtain rfl : v = V.ref d := r
    refine ⟨⟨d, kvs, rfl, g.mono (x1.trans x2)⟩, hy H2 (x1.trans x2) _ fun u H3 x3 r3 => ?_⟩
    obtain ⟨ds, rfl⟩ := ht
    obtain ⟨b, ys, rfl, _, _⟩ := im_tup r3
    have x13 := (x1.trans x2).trans x3
    rcases hx with ⟨p, hp, ep, hi⟩ | ⟨hn, rfl⟩
    · exact ⟨d, b, kvs, _, p.2.2, rfl, rfl, g.mono x13, r3, ke, .inl ⟨p, hp, ep, rfl⟩, q _ H3 (x2.trans x3) (Im.mono (tk_of x13) hi)⟩
    · exact ⟨d, b, kvs, _, .non, rfl, rfl, g.mono x13, r3, ke, .inr ⟨hn, rfl⟩, q _ H3 (x2.trans x3) .non⟩
end
end CB

/-! ## KC7 -/
set_option Elab.async false
set_option linter.all false
set_option maxRecDepth 100000
set_option maxHeartbeats 4000000
/-! is_value, a def of the module in a slot; the tuple of pairs as data. -/
namespace CB
open PySem PySem.Spec PyProof.Rows L2 LamX NdefX
theorem im_plain {K : Fg} {H : Hp} {v : V} {zs : List (PyData × PyData)} (h : Im K H v (.dict zs)) : Im K H v (.tuple (zs.map pairK)) := by
  cases h with
  | ptp h hd hs => exact .tup (.inl (.inr ⟨_, h⟩)) hs
theorem EvE.plain {K : Fg} {s : L2.St} {H : Hp} {te : TE} {zs : List (PyData × PyData)} (h : EvE K s H te (.im (.dict zs))) : EvE K s H te (.im (.tuple (zs.map pairK))) := fun H1 x1 Q q => h H1 x1 Q fun v H2 x2 r => q v H2 x2 (im_plain r)
def tIsV (K : Fg) (mg : Str → Option Value) (i : Nat) (t : TA) : TE := fun σ H Q => ∃ f, mg "is_price" = some (.ref f) ∧ σ[i]? = some (some (.ref f)) ∧ t σ H fun vs H1 => spD K R_price (vs ++ []) H1 Q E0
section
variable {X : Cx} {e : Expr} {es : List Expr} {t : TA} {x : Str} {p pos : Pos}
theorem pe_isvalue (F : Df X.prog X.w X.K X.mg X.base 1 "is_price" ["thing"] (spD X.K R_price)) (hr : Room 1 X.A) (i : Nat) (ha : PA X (e :: es) t) (hN : X.N[i]? = some x := by rfl) (hv : Vis X.env.scope x := by first | exact Or.inl rfl | exact Or.inr (Or.inl rfl) | exact Or.inr (Or.inr rfl))
    (hd : (x == ("__debug__" : Str)) = false := by decide) (hcd : (x == ("__classdict__" : Str)) = false := by decide)
    (he : starEach (e :: es) X.env = (false, eval e X.env) :: starEach es X.env := by rfl) (hpl : (backTo pos (starEach es X.env)).any (·.1) = false := by rfl) : PE X (.Call (.Name x p) (e :: es) [] pos) (tIsV X.K X.mg i t) := by
  obtain ⟨f, fd, hm, G, kp, hb⟩ := F
  refine ⟨fun pins s σ H Q I h => ?_⟩
  obtain ⟨f', hm', hs, h⟩ := h
  rw [hm] at hm'
  cases hm'
  exact (pe_callL (i := i) (f := f) (sp := spD X.K R_price) (dvs := []) (E := E0) G hr hN hv kp hb .nil pass0 ha hd hcd he hpl).run pins s σ H Q I ⟨hs, h⟩
end
theorem ev_isv {K : Fg} {mg : Str → Option Value} {s : L2.St} {H : Hp} {c : Dn} {i : Nat} {t : TA} {f : Addr} {a : Int} (env : EnvD K H s c) (hi : c[i]? = some (some (.rf f))) (hm : mg "is_price" = some (.ref f)) (ha : EvA K s H t [.im (.int a)]) : EvE K s H (tIsV K mg i t) (.im (.bool true)) := fun H1 x1 Q q => by
  obtain ⟨v, h1, h2⟩ := env.get hi
  obtain rfl : v = .ref f := h2
  refine ⟨f, hm, h1, ha H1 x1 _ fun vs H2 x2 r => ⟨[.int a], _, by rw [List.append_nil]; exact enAll_im r, ⟨a, rfl, rfl⟩, fun v H3 x3 r3 => q v H3 (x2.trans x3) r3⟩⟩
def encE (z : Stt × Int) : PyData × PyData := (encT z.1, .int z.2)
/-- the price list -/
def encPs (prices : List (Stt × Int)) : PyData := .dict (prices.map encE)
theorem encE_map (prices : List (Stt × Int)) : (prices.map encE).map pairK = prices.map fun z => PyData.tuple [encT z.1, .int z.2] := by
  rw [List.map_map]
  rfl
theorem encE_keys {prices : List (Stt × Int)} (h : (prices.map Prod.fst).Nodup) : ((prices.map encE).map Prod.fst).Nodup := by
  have e : (prices.map encE).map Prod.fst = (prices.map Prod.fst).map encT := by
    rw [List.map_map, List.map_map]
    rfl
  rw [e]
  exact List.Pairwise.map encT (fun a b hne q => hne (encT_inj q)) h
end CB

/-! ## KB14 -/
set_option Elab.async false
set_option linter.all false
set_option maxRecDepth 100000
set_option maxHeartbeats 4000000
/-! long_run. -/
namespace CB
open PySem PySem.Spec PyProof.Rows L2 LamX NdefX
local macro_rules | `(tactic| walk_at "ev1") => `(tactic| (first
  | exact ev_i | exact ev_b | exact ev_n | exact ev_s | exact ev_v (by assumption) rfl | exact ea_n
  | refine' ea_c ?_ ?_ | with_reducible refine' ev_ixT ?_ ?_ ?_ | with_reducible refine' ev_ixTl ?_ ?_ ?_
  | with_reducible refine' ev_add ?_ ?_ | with_reducible refine' ev_sub ?_ ?_
  | with_reducible refine' ev_lt ?_ ?_ | with_reducible refine' ev_le ?_ ?_ | with_reducible refine' ev_gt ?_ ?_ | with_reducible refine' ev_ge ?_ ?_
  | with_reducible refine' ev_eqI ?_ ?_ | with_reducible refine' ev_neI ?_ ?_ | with_reducible refine' ev_eqS ?_ ?_
  | with_reducible refine' ev_isN ?_ | with_reducible refine' ev_notN ?_ | with_reducible refine' ev_chain ?_ ?_ ?_ | with_reducible refine' ev_neg ?_
  | with_reducible refine' is_ii ?_ | with_reducible refine' is_ib ?_ | with_reducible refine' is_bb ?_ | with_reducible refine' is_ss ?_ | with_reducible refine' is_tt ?_
  | with_reducible refine' ev_andV ?_ ?_ | with_reducible refine' ev_orV ?_ ?_ | with_reducible refine' ev_notV ?_
  | with_reducible refine' ev_lenT ?_ | with_reducible refine' ev_min ?_ ?_ | with_reducible refine' ev_max ?_ ?_
  | with_reducible refine' et_test ?_ | with_reducible refine' et_B ?_ | with_reducible refine' et_not ?_ | with_reducible refine' et_and ?_ ?_ | with_reducible refine' et_or ?_ ?_ | exact et_yes
  | with_reducible refine' eo_some ?_ | exact eo_none | (with_reducible intro _) | rfl))
local macro_rules | `(tactic| walk_at "ev") => `(tactic| repeat' walk_at "ev1")
local macro_rules | `(tactic| walk_at "sq") => `(tactic| try dsimp only [tSeq, tNext])
local macro_rules | `(tactic| walk_at "cx") => `(tactic| try dsimp only [cxOf, Cx.nox, Cx.wish])

section
variable {K : Fg} {s : L2.St} {H : Hp} {c : Dn} {D : Ends}
/-- read as one of many data -/
def EvX (K : Fg) (s : L2.St) (H : Hp) (te : TE) (P : PyData → Prop) : Prop := ∀ H1, Same H H1 → ∀ Q : VK, (∀ d v H2, P d → Same H1 H2 → Im K H2 v d → Q v H2) → te s H1 Q
theorem st_ret4 {t1 t2 t3 t4 : TE} {d1 d3 d4 : PyData} {P : PyData → Prop} (h1 : EvE K s H t1 (.im d1)) (h2 : EvX K s H t2 P) (h3 : EvE K s H t3 (.im d3)) (h4 : EvE K s H t4 (.im d4))
    (k : ∀ d2 v H', P d2 → Same H H' → Im K H' v (.tuple [d1, d2, d3, d4]) → D.rt v H') : tRet (tTup (tCons t1 (tCons t2 (tCons t3 (tCons t4 tNil))))) D s H :=
  h1 H (Same.refl _) _ fun v1 H1 x1 r1 => h2 H1 x1 _ fun d2 v2 H2 p2 x2 r2 => h3 H2 (x1.trans x2) _ fun v3 H3 x3 r3 => h4 H3 ((x1.trans x2).trans x3) _ fun v4 H4 x4 r4 => by
    refine ⟨by show 4 ≤ sizeLine; decide, fun p np => ?_⟩
    have y : Same H4 (upd H4 p (.tup [v1, v2, v3, v4])) := same_new np
    have t4 := tk_of y
    have t3 := (tk_of x4).trans t4
    have t2 := (tk_of x3).trans t3
    have t1 := (tk_of x2).trans t2
    exact k d2 _ _ p2 ((((x1.trans x2).trans x3).trans x4).trans y) (.tup (SqT.of upd_same) (.cons (Im.mono t1 r1) (.cons (Im.mono t2 r2) (.cons (Im.mono t3 r3) (.cons (Im.mono t4 r4) .nil)))))
theorem same_extN {A B C : Hp} (x : ExtN A B) (y : Same B C) : ExtN A C := x.trans (extN_of y)
/-- prices, found = climbed(graph, worth_of(fraction, sign)) -/
theorem st_climb {T : List NTab} {C g : Addr} {S : Setg} {m place : Nat} {sign p q : Int} {G : Gr} (env : EnvD K H s c) (h5 : c[5]? = some (some (.rf g))) (h8 : c[8]? = some (some (.im (.tuple [.int p, .int q])))) (h3 : c[3]? = some (some (.im (.int sign)))) (gc : GrC K C)
    (gat : Nonempty (GAt K H C g S m place G)) (okG : G.Ok S m) (hT : TabsN T H) (hb : (-(2 ^ 64) < p ∧ p < 2 ^ 64) ∧ (-(2 ^ 64) < q ∧ q < 2 ^ 64) ∧ -(2 ^ 64) < sign ∧ sign < 2 ^ 64)
    (k1 : ∀ (b : BF.B) lp ps s' H', ExtN H H' → TabsN T H' → BF.J (G.g S m place sign p q) b → BF.Acyc (G.g S m place sign p q) b.st → Closed G m (G.wt S place sign p q) b.pr → H' lp = some (.lst ps) → ImAll K H' ps (b.pr.map encPr) → EnvD K H' s' ((c.set 9 (some (.rf lp))).set 10 (some (.im .none))) → D.nx s' H')
    (k2 : ∀ (b : BF.B) (a : Nat) ks s' H', ExtN H H' → TabsN T H' → BF.J (G.g S m place sign p q) b → BF.Pth b.st a a ks → ks.length ≤ G.nodes.length → EnvD K H' s' ((c.set 9 (some (.im .none))).set 10 (some (.im (.tuple [.int (a : Int), encI (toI ks.reverse)])))) → D.nx s' H') :
    tAsg (tCall (spClimb K) [] E0 (tCons (tVar 5) (tCons (tCall (spWorth K T) [] E0 (tCons (tVar 8) (tCons (tVar 3) tNil))) tNil))) (gTup K 2 (gCons (gName 9) (gCons (gName 10) gNil))) D s H := by
  obtain ⟨v5, e5, r5⟩ := env.get h5
  obtain ⟨v8, e8, r8⟩ := env.get h8
  obtain ⟨v3, e3, r3⟩ := env.get h3
  refine ⟨v5, e5, v8, e8, v3, e3, ?_⟩
  refine ⟨p, q, sign, .cons r8 (.cons r3 .nil), hT, fun f F H1 x1 T1 isw clo => ?_⟩
  refine ⟨C, g, S, m, place, sign, p, q, G, f, F, .cons r5 (.cons rfl .nil), gc, gat.elim fun ga => ⟨GObj.ext ga x1⟩, okG, isw, clo, hb, ?_, ?_⟩
  · intro b a lp ps H' x2 j ac cl ha hlp him
    refine ⟨a, [.ref lp, .non], rfl, SqT.of ha, rfl, _, _, rfl, _, _, rfl, rfl, ?_⟩
    have t := extN_tk (same_extN x1 x2)
    exact k1 b lp ps _ H' (same_extN x1 x2) (tabs_same T1 x2) j ac cl hlp him (((env.mono t).set (e := .rf lp) rfl 9).set (e := .im .none) .non 10)
  · intro b a ks v H' x2 j hp hl r
    obtain ⟨a', xs, f1, f2, f3⟩ := im_tup r
    refine ⟨a', xs, f1, f2, by rw [imAll_len f3]; rfl, ?_⟩
    have t := extN_tk (same_extN x1 x2)
    exact gNames_ok [9, 10] xs _ s c rfl f3 (env.mono t) fun s' env' => k2 b a ks s' H' (same_extN x1 x2) (tabs_same T1 x2) j hp hl env'
/-- what stands in prices and found behind it -/
def CT (K : Fg) (S : Setg) (m place : Nat) (sign p q : Int) (G : Gr) (c : Dn) : Option (Nat × List Nat) → L2.St → Hp → Prop
  | none => fun s' H' => ∃ (b : BF.B) (lp : Addr) (ps : List V), BF.J (G.g S m place sign p q) b ∧ BF.Acyc (G.g S m place sign p q) b.st ∧ Closed G m (G.wt S place sign p q) b.pr ∧ H' lp = some (.lst ps) ∧ ImAll K H' ps (b.pr.map encPr) ∧ EnvD K H' s' ((c.set 9 (some (.rf lp))).set 10 (some (.im .none)))
  | some (a, ks) => fun s' H' => ∃ (b : BF.B) (ks' : List Nat), ks = ks'.reverse ∧ BF.J (G.g S m place sign p q) b ∧ BF.Pth b.st a a ks' ∧ ks'.length ≤ G.nodes.length ∧ EnvD K H' s' ((c.set 9 (some (.im .none))).set 10 (some (.im (.tuple [.int (a : Int), encI (toI ks)]))))
theorem CT.mono {S : Setg} {m place : Nat} {sign p q : Int} {G : Gr} {H' : Hp} (x : Same H H') : ∀ {o : Option (Nat × List Nat)}, CT K S m place sign p q G c o s H → CT K S m place sign p q G c o s H'
  | none, h => by
    obtain ⟨b, lp, ps, a1, a2, a3, a4, a5, a6⟩ := h
    exact ⟨b, lp, ps, a1, a2, a3, x _ _ a4, a5.mono (tk_of x), a6.mono (tk_of x)⟩
  | some (a, ks), h => by
    obtain ⟨b, ks', a1, a2, a3, a4, a5⟩ := h
    exact ⟨b, ks', a1, a2, a3, a4, a5.mono (tk_of x)⟩
theorem st_climbC {T : List NTab} {C g : Addr} {S : Setg} {m place : Nat} {sign p q : Int} {G : Gr} (c0 : Dn) (env : EnvD K H s c) (hc : ∀ x y, (c.set 9 x).set 10 y = (c0.set 9 x).set 10 y) (h5 : c[5]? = some (some (.rf g))) (h8 : c[8]? = some (some (.im (.tuple [.int p, .int q])))) (h3 : c[3]? = some (some (.im (.int sign)))) (gc : GrC K C)
    (gat : Nonempty (GAt K H C g S m place G)) (okG : G.Ok S m) (hT : TabsN T H) (hb : (-(2 ^ 64) < p ∧ p < 2 ^ 64) ∧ (-(2 ^ 64) < q ∧ q < 2 ^ 64) ∧ -(2 ^ 64) < sign ∧ sign < 2 ^ 64)
    (k : ∀ o s' H', ExtN H H' → TabsN T H' → CT K S m place sign p q G c0 o s' H' → D.nx s' H') :
    tAsg (tCall (spClimb K) [] E0 (tCons (tVar 5) (tCons (tCall (spWorth K T) [] E0 (tCons (tVar 8) (tCons (tVar 3) tNil))) tNil))) (gTup K 2 (gCons (gName 9) (gCons (gName 10) gNil))) D s H :=
  st_climb env h5 h8 h3 gc gat okG hT hb (fun b lp ps s' H' x1 x2 x3 x4 x5 x6 x7 e => k none s' H' x1 x2 ⟨b, lp, ps, x3, x4, x5, x6, x7, by rw [← hc]; exact e⟩)
    fun b a ks s' H' x1 x2 x3 x4 x5 e => k (some (a, ks.reverse)) s' H' x1 x2 ⟨b, ks, rfl, x3, x4, x5, by rw [← hc]; exact e⟩
/-- quotient(graph, at, around) -/
theorem ev_quot {C g : Addr} {S : Setg} {m place a : Nat} {ks : List Nat} {p q : Int} {G : Gr} (env : EnvD K H s c) (h5 : c[5]? = some (some (.rf g))) (h6 : c[6]? = some (some (.im (.int (a : Int))))) (h7 : c[7]? = some (some (.im (encI (toI ks))))) (gc : GrC K C)
    (gat : Nonempty (GAt K H C g S m place G)) (ok : S.Ok) (okG : G.Ok S m) (hm : m ≤ 3) (hp : place = 0 ∨ place = 1) (r : Rnd S m place G a ks) (f : Frac S place G a ks p q) :
    EvE K s H (tCall (spQuot K) [] E0 (tCons (tVar 5) (tCons (tVar 6) (tCons (tVar 7) tNil)))) (.im (.tuple [.int p, .int q])) := fun H1 x1 Q k => by
  obtain ⟨v5, e5, r5⟩ := env.get h5
  obtain ⟨v6, e6, r6⟩ := env.get h6
  obtain ⟨v7, e7, r7⟩ := env.get h7
  refine ⟨v5, e5, v6, e6, v7, e7, ?_⟩
  have t := tk_of x1
  have hs := toI_sum r.le
  have hl := r.len
  have hG := okG.len
  have hsum : (toI ks).sum ≤ 1000000 := by
    have : (ks.length : Int) * m ≤ 2000 * 3 := Int.mul_le_mul (by omega) (by omega) (by omega) (by omega)
    omega
  refine ⟨C, g, S, m, place, G, a, ks, .cons r5 (.cons (Im.mono t r6) (.cons (Im.mono t r7) .nil)), gc, gat.elim fun ga => ⟨ga.mono x1⟩, okG, r.lt, r.le, r.pos, hsum, (Rnd.told ok okG r.lt r.le r.back hp).1, fun v H' x2 r => ?_⟩
  rw [← f.p, ← f.q] at r
  exact k v H' x2 r
/-- graph.row_to(at) -/
theorem ex_row {C g : Addr} {S : Setg} {m place a : Nat} {G : Gr} (env : EnvD K H s c) (h5 : c[5]? = some (some (.rf g))) (h6 : c[6]? = some (some (.im (.int (a : Int))))) (gat : Nonempty (GAt K H C g S m place G)) (okG : G.Ok S m) (ha : a < G.nodes.length) :
    EvX K s H (tMeth C "row_to" (spRowTo K C) [] E0 (tVar 5) (tCons (tVar 6) tNil)) (fun d => ∃ wy, d = encI (toI wy) ∧ BF.wlk G.nx 0 wy = a ∧ (∀ k, k ∈ wy → k ≤ m) ∧ wy.length ≤ a) := fun H1 x1 Q k => by
  obtain ⟨v5, e5, r5⟩ := env.get h5
  obtain ⟨v6, e6, r6⟩ := env.get h6
  obtain ⟨ga⟩ := gat
  have ga := ga.mono x1
  refine ⟨v5, e5, g, ga.dx, ga.fs, r5, ga.at_, ga.fm, v6, e6, ?_⟩
  refine ⟨g, S, m, place, G, a, .cons r5 (.cons (Im.mono (tk_of x1) r6) .nil), ⟨ga⟩, okG, ha, fun wy v H' x2 hw hk hl r => k _ v H' ⟨wy, rfl, hw, hk, hl⟩ x2 r⟩
end
/-- bounds -/
structure Bd (p q : Int) (way around : List Int) : Prop where
  q : q ≤ 6000
  p : p ≤ 12000
  way : way.length ≤ 2000
  around : around.length ≤ 2000
def encZ (z : Stt × Int) : PyData := .tuple [encT z.1, .int z.2]
theorem zip_enc {S : Setg} {m : Nat} {G : Gr} {pr : BF.Pr} (okG : G.Ok S m) (hl : pr.length = G.nodes.length) (hs : ∀ v, v < G.nodes.length → ∃ x, BF.prA pr v = some x) : List.zipWith pairD (G.nodes.map encT) (pr.map encPr) = (pricesM S G pr).map encZ := by
  refine List.ext_getElem? fun v => ?_
  unfold pricesM
  rw [List.getElem?_zipWith, List.getElem?_map, List.getElem?_map, List.getElem?_map, List.getElem?_map]
  by_cases hv : v < G.nodes.length
  · obtain ⟨x, hx⟩ := hs v hv
    rw [okG.node_get hv, List.getElem?_range hv]
    have e : pr[v]? = some (some x) := by
      unfold BF.prA at hx
      rw [List.getD_eq_getElem?_getD, List.getElem?_eq_getElem (by rw [hl]; exact hv)] at hx
      rw [List.getElem?_eq_getElem (by rw [hl]; exact hv)]
      exact congrArg some hx
    rw [e]
    show some (pairD (encT (G.node S v)) (encPr (some x))) = some (encZ (G.node S v, (BF.prA pr v).getD 0))
    rw [hx]
    rfl
  · rw [List.getElem?_eq_none (by omega), List.getElem?_eq_none (l := List.range _) (by rw [List.length_range]; omega)]
    rfl
theorem it_Z (z : Stt × Int) : itD (encZ z) = true ∧ (encZ z).depth ≤ 8 := by
  have := dep_T z.1
  unfold encZ
  simp only [itD, itDs, it_T, Bool.and_self, PyData.depth, PyData.depthAll, true_and]
  omega
theorem alike_Z (l : List (Stt × Int)) : PySem.W.AllAlike (l.map encZ) := by
  refine PySem.W.AllAlike.of fun x y => ?_
  simp [encZ, PySem.W.alike, PySem.W.alikeAll, alike_T]
theorem sort_Z (l : List (Stt × Int)) : ∃ l' : List (Stt × Int), l'.Perm l ∧ sortP (l.map encZ) = l'.map encZ := by
  refine ⟨l.mergeSort fun x y => PySem.W.dataLe false id (encZ x) (encZ y), List.mergeSort_perm _ _, ?_⟩
  unfold sortP
  rw [List.map_mergeSort (r := fun x y => PySem.W.dataLe false id (encZ x) (encZ y)) (s := PySem.W.dataLe false id) (f := encZ) fun a _ b _ => rfl]
theorem rep_sum : ∀ (L m : Nat), (toI (List.replicate L m)).sum = (L : Int) * m
  | 0, m => by simp [toI]
  | L + 1, m => by
    have := rep_sum L m
    unfold toI at this ⊢
    rw [List.replicate_succ, List.map_cons, List.sum_cons, this]
    have : ((L + 1 : Nat) : Int) * m = (L : Int) * m + m := by rw [Int.natCast_add, Int.add_mul]; simp
    omega
section
variable {P : Program} {w : World} {K : Fg} {mg : Str → Option Value} {base : Heap}
abbrev s_long_run : Stmt := top 60
theorem sc_long_run : FnScope ["setting", "most", "place", "sign", "go", "graph", "at", "around", "fraction", "prices", "found"] ["setting", "most", "place", "sign"] (defScope s_long_run) := ⟨rfl, rfl, rfl, by decide +kernel, rfl, by decide +kernel, by decide +kernel⟩
def spLong (K : Fg) (T : List NTab) : Sp := fun vs H Q _ => ∃ (S : Setg) (m place : Nat) (sign : Int), ImAll K H vs [encS S, .int (m : Int), .int (place : Int), .int sign] ∧ TabsN T H ∧ S.Ok ∧ 1 ≤ m ∧ m ≤ 3 ∧ (place = 0 ∧ sign = 1 ∨ place = 1 ∧ sign = -1) ∧
  ∀ p q way around prices v H', ExtN H H' → TabsN T H' → LR S m place sign p q way around prices → Bd p q way around → Im K H' v (.tuple [.tuple [.int p, .int q], encI way, encI around, encPs prices]) → Q v H'
theorem own_go {n : Nat} {X : Cx} (hN : X.N = (["setting", "most", "place", "sign", "go", "graph", "at", "around", "fraction", "prices", "found"] : List Str)) (hsc : X.env.scope = defScope s_long_run) (hc : X.env.cells = cellsFrom (n + 1) (defScope s_long_run).names []) (hf : ∀ x, X.fn x = true) :
    Own X (cloFrom X.env.cells (C8.fnScope s_go).names []) ["place", "setting"] [2, 0] := by
  have ec : cloFrom X.env.cells (C8.fnScope s_go).names [] = [(("setting" : Str), n + 1), ("place", n + 1 + 1)] := by rw [hc]; rfl
  have e1 : X.env.cells.lookup ("setting" : Str) = some (n + 1) := by rw [hc]; rfl
  have e2 : X.env.cells.lookup ("place" : Str) = some (n + 1 + 1) := by rw [hc]; rfl
  rw [ec]
  refine ⟨hf, by rw [hN]; exact sc_long_run.nd, fun p hp => ?_, fun y hy => ?_, fun y hy => ?_, by rw [hN]; rfl⟩
  · rcases List.mem_cons.mp hp with rfl | hp
    · exact ⟨e1, show ("setting" : Str) ∈ [("place" : Str), "setting"] by decide⟩
    · rw [List.mem_singleton.mp hp]
      exact ⟨e2, show ("place" : Str) ∈ [("place" : Str), "setting"] by decide⟩
  · rw [hsc]
    rcases List.mem_cons.mp hy with rfl | hy
    · exact Or.inl rfl
    · rw [List.mem_singleton.mp hy]
      exact Or.inl rfl
  · rcases List.mem_cons.mp hy with rfl | hy
    · exact ⟨_, rfl⟩
    · rw [List.mem_singleton.mp hy]
      exact ⟨_, rfl⟩
theorem d_long_run {C fi : Addr} {fdi : FuncData} (t : Tbl mg base) (B : Bn K mg) (gc : GrC K C) (mk : Mk K C fi) (hmG : mg "Graph" = some (.ref C)) (F_init : FnOk P w K mg base CX0 4 fi fdi ["self", "first", "most", "go"] (spInit K C)) (bnI : Binds K fdi ["self", "first", "most", "go"] [])
    (F_first_of : Df P w K mg base 2 "first_of" ["setting"] (spD K R_first)) (F_full_round : Df P w K mg base 1 "full_round" ["graph", "most"] (spFull K)) (F_quotient : Df P w K mg base 2 "quotient" ["graph", "at", "around"] (spQuot K)) (F_climbed : Df P w K mg base 3 "climbed" ["graph", "worth"] (spClimb K)) (F_worth_of : Df P w K mg base 1 "worth_of" ["fraction", "sign"] (spWorth K t.T))
    (F_row_to : DfM P w K mg base 1 C "row_to" ["self", "at"] (spRowTo K C)) (F : FnT K mg "long_run" s_long_run t.cL) : Df P w K mg base 6 "long_run" ["setting", "most", "place", "sign"] (spLong K t.T) := by
  refine dft_nox F sc_long_run (fun vs H Q E h => by obtain ⟨_, _, _, _, e, _⟩ := h; exact imAll_len e) (fun _ _ _ _ _ _ us hl => match us, hl with | [_, _, _, _], _ => rfl) fun f A outer s H vs Q E hr h => ?_
  have hmem : (t.PL, qL) ∈ t.Ts := by unfold Tbl.Ts; simp
  have OW := own_go (n := s.heap.objs.size) (X := (cxOf CX0 P w K mg base ["setting", "most", "place", "sign", "go", "graph", "at", "around", "fraction", "prices", "found"] "long_run" (defScope s_long_run) f (.ref t.cL) A outer s H E).nox) rfl rfl rfl (fun _ => rfl)
  refine ⟨_, (pss_cons (ps_ndefMS (i := 4) rfl t.bL rfl (t.mN hmem) rfl (t.uN hmem) (ndef_free (sc := defScope s_long_run) (nsc := C8.fnScope s_go) (fr := ["place", "setting"]) (by decide +kernel)) rfl rfl rfl sc_long_run.nd rfl (Or.inl rfl) (Or.inl rfl))
  (pss_cons (ps_set (i := 5) sc_long_run.nd rfl (by first | exact Or.inl rfl | exact Or.inr rfl) (pe_makeL (O := FnO) mk F_init (hr.mono (by decide)) rfl hmG bnI (by exact OW) (pa_cons (pe_df F_first_of (hr.mono (by decide)) rfl (pa_cons (pv 0) pa_nil)) (pa_cons (pv 1) (pa_cons (pv 4) pa_nil)))))
  (pss_cons (ps_asg (pe_df F_full_round (hr.mono (by decide)) rfl (pa_cons (pv 5) (pa_cons (pv 1) pa_nil))) (pg_tup rfl (pgs_cons (pg_name (i := 6) sc_long_run.nd rfl (by first | exact Or.inl rfl | exact Or.inr rfl)) (pgs_cons (pg_name (i := 7) sc_long_run.nd rfl (by first | exact Or.inl rfl | exact Or.inr rfl)) pgs_nil))))
  (pss_cons (ps_set (i := 8) sc_long_run.nd rfl (by first | exact Or.inl rfl | exact Or.inr rfl) (pe_df F_quotient (hr.mono (by decide)) rfl (pa_cons (pv 5) (pa_cons (pv 6) (pa_cons (pv 7) pa_nil)))))
  (pss_cons (ps_asg (pe_df F_climbed (hr.mono (by decide)) rfl (pa_cons (pv 5) (pa_cons (pe_df F_worth_of (hr.mono (by decide)) rfl (pa_cons (pv 8) (pa_cons (pv 3) pa_nil))) pa_nil))) (pg_tup rfl (pgs_cons (pg_name (i := 9) sc_long_run.nd rfl (by first | exact Or.inl rfl | exact Or.inr rfl)) (pgs_cons (pg_name (i := 10) sc_long_run.nd rfl (by first | exact Or.inl rfl | exact Or.inr rfl)) pgs_nil))))
  (pss_cons (ps_while PassesOwn.never (pt_cmpR o_isN (pv 9) pe_non (nomark _)) (pss_cons (ps_asg (pv 10) (pg_tup rfl (pgs_cons (pg_name (i := 6) sc_long_run.nd rfl (by first | exact Or.inl rfl | exact Or.inr rfl)) (pgs_cons (pg_name (i := 7) sc_long_run.nd rfl (by first | exact Or.inl rfl | exact Or.inr rfl)) pgs_nil))))
  (pss_cons (ps_set (i := 8) sc_long_run.nd rfl (by first | exact Or.inl rfl | exact Or.inr rfl) (pe_df F_quotient (hr.mono (by decide)) rfl (pa_cons (pv 5) (pa_cons (pv 6) (pa_cons (pv 7) pa_nil)))))
  (pss_one (ps_asg (pe_df F_climbed (hr.mono (by decide)) rfl (pa_cons (pv 5) (pa_cons (pe_df F_worth_of (hr.mono (by decide)) rfl (pa_cons (pv 8) (pa_cons (pv 3) pa_nil))) pa_nil))) (pg_tup rfl (pgs_cons (pg_name (i := 9) sc_long_run.nd rfl (by first | exact Or.inl rfl | exact Or.inr rfl)) (pgs_cons (pg_name (i := 10) sc_long_run.nd rfl (by first | exact Or.inl rfl | exact Or.inr rfl)) pgs_nil))))))))
  (pss_one (ps_ret (pe_tup (pa_cons (pv 8) (pa_cons (pe_dfm F_row_to gc.cls (hr.mono (by decide)) (pv 5) (pa_cons (pv 6) pa_nil)) (pa_cons (pv 7) (pa_cons (pe_callTy c_tupP rfl B.tuple bt_tuple (pa_cons (pe_sortZip hr.units rfl B.sorted rfl B.zip (pa_cons (pe_fld (pv 5) rfl) (pa_cons (pv 9) pa_nil))) pa_nil)) pa_nil))))))))))))), ?_⟩
  obtain ⟨S, m, place, sign, him, hT, ok, m1, m3, hp, k⟩ := h
  have env := env_d (N := ["setting", "most", "place", "sign", "go", "graph", "at", "around", "fraction", "prices", "found"]) him
  try simp only [unpackE, unpackD, wipeD, unT, List.map_cons, List.map_nil, List.length_cons, List.length_nil, List.cons_append, List.nil_append, List.replicate_succ, List.replicate_zero, List.set_cons_succ, List.set_cons_zero, Nat.reduceAdd, Nat.reduceSub] at env
  walk_at "cx"
  walk_at "sq"
  refine ⟨hT, fun fg cg H1 e1 nn T1 f0 f1 c1 => ?_⟩
  have env := (env.mono (extN_tk e1)).set (e := .rf fg) rfl 4
  try simp only [unpackE, unpackD, wipeD, unT, List.map_cons, List.map_nil, List.length_cons, List.length_nil, List.cons_append, List.nil_append, List.replicate_succ, List.replicate_zero, List.set_cons_succ, List.set_cons_zero, Nat.reduceAdd, Nat.reduceSub] at env
  walk_at "sq"
  have pl : place = 0 ∨ place = 1 := hp.imp And.left And.left
  obtain ⟨v2, g2, r2⟩ := env.get (i := 2) rfl
  obtain ⟨v0, g0, r0⟩ := env.get (i := 0) rfl
  refine made_graph (S := S) (m := m) (place := place) (v1 := v2) (v2 := v0) (ea_c (ev_call (ea_c (ev_v env rfl) ea_n) ⟨S, rfl, ok, rfl⟩) (ea_c (ev_v env rfl) (ea_c (ev_v env rfl) ea_n))) f1 c1 (by show [NdefX.slotAt _ 2, NdefX.slotAt _ 0] = _; rw [slotAt_of g2, slotAt_of g0]; rfl) r2 r0 ok m3 (by omega) fun g H3 G x3 gat okG => ?_
  have env := (env.mono (tk_of x3)).set (e := .rf g) rfl 5
  try simp only [unpackE, unpackD, wipeD, unT, List.map_cons, List.map_nil, List.length_cons, List.length_nil, List.cons_append, List.nil_append, List.replicate_succ, List.replicate_zero, List.set_cons_succ, List.set_cons_zero, Nat.reduceAdd, Nat.reduceSub] at env
  walk_at "sq"
  obtain ⟨v5, g5, r5⟩ := env.get (i := 5) rfl
  obtain ⟨v1, g1, r1⟩ := env.get (i := 1) rfl
  refine ⟨v5, g5, v1, g1, C, g, S, m, place, G, .cons r5 (.cons r1 .nil), gc, gat, okG, fun a L v H4 x4 ha hL1 hL2 hback rt => ?_⟩
  have rnd : Rnd S m place G a (List.replicate L m) := ⟨ha, fun k hk => by rw [(List.mem_replicate.mp hk).2]; exact Nat.le_refl _, hback, by rw [List.length_replicate]; exact hL2, by
    rw [rep_sum]
    exact _root_.Int.mul_pos (by omega) (by omega)⟩
  obtain ⟨at4, xs4, f1', f2', f3'⟩ := im_tup rt
  refine ⟨at4, xs4, f1', f2', by rw [imAll_len f3']; rfl, gNames_ok [6, 7] xs4 _ _ _ rfl f3' (env.mono (tk_of x4)) fun s4 env => ?_⟩
  try simp only [unpackE, unpackD, wipeD, unT, List.map_cons, List.map_nil, List.length_cons, List.length_nil, List.cons_append, List.nil_append, List.replicate_succ, List.replicate_zero, List.set_cons_succ, List.set_cons_zero, Nat.reduceAdd, Nat.reduceSub] at env
  have gat := gat.elim fun ga => (⟨ga.mono x4⟩ : Nonempty (GAt K H4 C g S m place G))
  walk_at "sq"
  refine st_set env (ev_quot env rfl rfl rfl gc gat ok okG m3 pl rnd ⟨rfl, rfl⟩) fun _ H5 x5 _ env => ?_
  try simp only [unpackE, unpackD, wipeD, unT, List.map_cons, List.map_nil, List.length_cons, List.length_nil, List.cons_append, List.nil_append, List.replicate_succ, List.replicate_zero, List.set_cons_succ, List.set_cons_zero, Nat.reduceAdd, Nat.reduceSub] at env
  have gat := gat.elim fun ga => (⟨ga.mono x5⟩ : Nonempty (GAt K H5 C g S m place G))
  walk_at "sq"
  generalize ep : BF.wsum G.nx (G.told S place) a (List.replicate L m) / (Int.gcd (BF.wsum G.nx (G.told S place) a (List.replicate L m)) (toI (List.replicate L m)).sum : Int) = p at env
  generalize eq : (toI (List.replicate L m)).sum / (Int.gcd (BF.wsum G.nx (G.told S place) a (List.replicate L m)) (toI (List.replicate L m)).sum : Int) = q at env
  have frac : Frac S place G a (List.replicate L m) p q := ⟨ep.symm, eq.symm⟩
  have bnd : ∀ {a' : Nat} {ks' : List Nat} {p' q' : Int}, Frac S place G a' ks' p' q' → Rnd S m place G a' ks' → (-(2 ^ 64) < p' ∧ p' < 2 ^ 64) ∧ (-(2 ^ 64) < q' ∧ q' < 2 ^ 64) ∧ -(2 ^ 64) < sign ∧ sign < 2 ^ 64 := fun {a' ks' p' q'} f' r' => by
    obtain ⟨b1, b2, _, _, b5, b6⟩ := f'.facts ok okG pl r'
    have hG := okG.len
    have : (G.nodes.length : Int) * m ≤ 2000 * 3 := Int.mul_le_mul (by omega) (by omega) (by omega) (by omega)
    rcases hp with ⟨_, e⟩ | ⟨_, e⟩ <;> omega
  have hT5 : TabsN t.T H5 := tabs_same (tabs_same (tabs_same T1 x3) x4) x5
  have e5 : ExtN H H5 := (e1.trans (extN_of x3)).trans ((extN_of x4).trans (extN_of x5))
  refine st_climbC (m := m) (place := place) (G := G) [some (.im (encS S)), some (.im (.int (m : Int))), some (.im (.int (place : Int))), some (.im (.int sign)), some (.rf fg), some (.rf g), some (.im (.int (a : Int))), some (.im (encI (toI (List.replicate L m)))), some (.im (.tuple [.int p, .int q])), none, none] env (fun _ _ => rfl) rfl rfl rfl gc gat okG hT5 (bnd frac rnd) fun o s6 H6 e6 T6 ct => ?_
  walk_at "sq"
  refine st_whileG (K := K) (α := Nat × List Nat × Int × Int × Option (Nat × List Nat))
    (fun z s' H' => ExtN H H' ∧ TabsN t.T H' ∧ Nonempty (GAt K H' C g S m place G) ∧ Rnd S m place G z.1 z.2.1 ∧ Frac S place G z.1 z.2.1 z.2.2.1 z.2.2.2.1 ∧
      CT K S m place sign z.2.2.1 z.2.2.2.1 G [some (.im (encS S)), some (.im (.int (m : Int))), some (.im (.int (place : Int))), some (.im (.int sign)), some (.rf fg), some (.rf g), some (.im (.int (z.1 : Int))), some (.im (encI (toI z.2.1))), some (.im (.tuple [.int z.2.2.1, .int z.2.2.2.1])), none, none] z.2.2.2.2 s' H')
    (fun z => muOut sign ((G.nodes.length : Int) * m) z.2.2.1 z.2.2.2.1) (fun z => z.2.2.2.2.isSome) (a, List.replicate L m, p, q, o) ⟨e5.trans e6, T6, gat.elim fun ga => ⟨GObj.ext ga e6⟩, rnd, frac, ct⟩ ?_ ?_ ?_ ?_
  · rintro ⟨a, ks, p, q, o⟩ s' H' ⟨_, _, _, _, _, ct⟩
    cases o with
    | none =>
      obtain ⟨b, lp, ps, _, _, _, _, _, env⟩ := ct
      exact EvT.is (et_test (ev_isN (ev_v env rfl))) rfl
    | some z =>
      obtain ⟨a', ks'⟩ := z
      obtain ⟨b, _, _, _, _, _, env⟩ := ct
      exact EvT.is (et_test (ev_isN (ev_v env rfl))) rfl
  · rintro ⟨a, ks, p, q, o⟩ s' H' H2 ⟨q1, q2, q3, q4, q5, ct⟩ x2
    exact ⟨same_extN q1 x2, tabs_same q2 x2, q3.elim fun ga => ⟨ga.mono x2⟩, q4, q5, ct.mono x2⟩
  · rintro ⟨a, ks, p, q, o⟩ s' H' ⟨q1, q2, q3, q4, q5, ct⟩ ht
    cases o with
    | none => cases ht
    | some z =>
    obtain ⟨a', ks'⟩ := z
    obtain ⟨b, kr, rfl, j, hpth, hlen, env⟩ := ct
    have q4 : Rnd S m place G a ks := q4
    have q5 : Frac S place G a ks p q := q5
    obtain ⟨b1, b2, _⟩ := q5.facts ok okG pl q4
    obtain ⟨rnd', hw⟩ := next_round ok okG hp b2 b1 j hpth hlen
    try simp only [unpackE, unpackD, wipeD, unT, List.map_cons, List.map_nil, List.length_cons, List.length_nil, List.cons_append, List.nil_append, List.replicate_succ, List.replicate_zero, List.set_cons_succ, List.set_cons_zero, Nat.reduceAdd, Nat.reduceSub] at env
    refine st_unpack (is := [6, 7]) (n := 2) (ds := [.int (a' : Int), encI (toI kr.reverse)]) env (ev_v env rfl) rfl rfl fun s7 H7 x7 env => ?_
    try simp only [unpackE, unpackD, wipeD, unT, List.map_cons, List.map_nil, List.length_cons, List.length_nil, List.cons_append, List.nil_append, List.replicate_succ, List.replicate_zero, List.set_cons_succ, List.set_cons_zero, Nat.reduceAdd, Nat.reduceSub] at env
    have gat := q3.elim fun ga => (⟨ga.mono x7⟩ : Nonempty (GAt K H7 C g S m place G))
    walk_at "sq"
    refine st_set env (ev_quot env rfl rfl rfl gc gat ok okG m3 pl rnd' ⟨rfl, rfl⟩) fun _ H8 x8 _ env => ?_
    try simp only [unpackE, unpackD, wipeD, unT, List.map_cons, List.map_nil, List.length_cons, List.length_nil, List.cons_append, List.nil_append, List.replicate_succ, List.replicate_zero, List.set_cons_succ, List.set_cons_zero, Nat.reduceAdd, Nat.reduceSub] at env
    have gat := gat.elim fun ga => (⟨ga.mono x8⟩ : Nonempty (GAt K H8 C g S m place G))
    generalize ep' : BF.wsum G.nx (G.told S place) a' kr.reverse / (Int.gcd (BF.wsum G.nx (G.told S place) a' kr.reverse) (toI kr.reverse).sum : Int) = p' at env
    generalize eq' : (toI kr.reverse).sum / (Int.gcd (BF.wsum G.nx (G.told S place) a' kr.reverse) (toI kr.reverse).sum : Int) = q' at env
    have frac' : Frac S place G a' kr.reverse p' q' := ⟨ep'.symm, eq'.symm⟩
    have y8 : Same H' H8 := x7.trans x8
    refine st_climbC (m := m) (place := place) (G := G) [some (.im (encS S)), some (.im (.int (m : Int))), some (.im (.int (place : Int))), some (.im (.int sign)), some (.rf fg), some (.rf g), some (.im (.int (a' : Int))), some (.im (encI (toI kr.reverse))), some (.im (.tuple [.int p', .int q'])), none, none] env (fun _ _ => rfl) rfl rfl rfl gc gat okG (tabs_same q2 y8) (bnd frac' rnd') fun o s9 H9 e9 T9 ct => ?_
    exact ⟨(a', kr.reverse, p', q', o), muOut_lt ok okG hp q5 q4 frac' rnd' hw, (same_extN q1 y8).trans e9, T9, gat.elim fun ga => ⟨GObj.ext ga e9⟩, rnd', frac', ct⟩
  · rintro ⟨a, ks, p, q, o⟩ s' H' ⟨q1, q2, q3, q4, q5, ct⟩ ht
    cases o with
    | some z => cases ht
    | none =>
    obtain ⟨b, lp, ps, j, ac, cl, hlp, him2, env⟩ := ct
    have q4 : Rnd S m place G a ks := q4
    have q5 : Frac S place G a ks p q := q5
    try simp only [unpackE, unpackD, wipeD, unT, List.map_cons, List.map_nil, List.length_cons, List.length_nil, List.cons_append, List.nil_append, List.replicate_succ, List.replicate_zero, List.set_cons_succ, List.set_cons_zero, Nat.reduceAdd, Nat.reduceSub] at env
    obtain ⟨l, hl⟩ := ac 0 okG.pos
    have hs := all_some okG cl (j.zero0 hl okG.g)
    have hz := zip_enc okG j.lp hs
    obtain ⟨pl', hperm, esort⟩ := sort_Z (pricesM S G b.pr)
    obtain ⟨ga⟩ := q3
    have hG := okG.len
    walk_at "sq"
    refine st_ret4 (ev_v env rfl) (ex_row env rfl rfl ⟨ga⟩ okG q4.lt) (ev_v env rfl) (ev_tupP (zs := pl'.map encE) (by
      have h := el_sortZip (K := K) (s := s') (H := H') (ea_c (ev_fld gc.cls gc.nodes ga.at_ ga.fn (ev_v env (i := 5) rfl)) (ea_c (ev_v env (i := 9) rfl) ea_n)) (SqL.of ga.hn) (SqL.of hlp) ga.en him2 (by rw [List.length_map, List.length_map]; exact j.lp.symm) (by rw [List.length_map, sizeLine_eq]; omega) (by
        rw [hz]
        intro d hd
        obtain ⟨z, _, rfl⟩ := List.mem_map.mp hd
        exact it_Z z) (by rw [hz]; exact alike_Z _)
      rw [hz, esort] at h
      rw [encE_map]
      exact h)) fun d2 v H9 pd x9 r => ?_
    obtain ⟨wy, rfl, hw, hwm, hwl⟩ := pd
    exact k p q (toI wy) (toI ks) pl' v H9 (same_extN q1 x9) (tabs_same q2 x9) (lr_of ok okG pl q5 q4 hw hwm j ac cl hperm) (by
      obtain ⟨_, _, _, _, b5, b6⟩ := q5.facts ok okG pl q4
      have : (G.nodes.length : Int) * m ≤ 2000 * 3 := Int.mul_le_mul (by omega) (by omega) (by omega) (by omega)
      have l1 := q4.len
      have l2 := q4.lt
      refine ⟨by omega, by omega, ?_, ?_⟩
      · unfold toI; rw [List.length_map]; omega
      · unfold toI; rw [List.length_map]; omega) r
end
end CB

/-! ## KB15 -/
set_option Elab.async false
set_option linter.all false
set_option maxRecDepth 100000
set_option maxHeartbeats 4000000
/-! table_of. -/
namespace CB
open PySem PySem.Spec PyProof.Rows L2 LamX NdefX
local macro_rules | `(tactic| walk_at "ev1") => `(tactic| (first
  | exact ev_i | exact ev_b | exact ev_n | exact ev_s | exact ev_v (by assumption) rfl | exact ea_n
  | refine' ea_c ?_ ?_ | with_reducible refine' ev_ixT ?_ ?_ ?_ | with_reducible refine' ev_ixTl ?_ ?_ ?_
  | with_reducible refine' ev_add ?_ ?_ | with_reducible refine' ev_sub ?_ ?_
  | with_reducible refine' ev_lt ?_ ?_ | with_reducible refine' ev_le ?_ ?_ | with_reducible refine' ev_gt ?_ ?_ | with_reducible refine' ev_ge ?_ ?_
  | with_reducible refine' ev_eqI ?_ ?_ | with_reducible refine' ev_neI ?_ ?_ | with_reducible refine' ev_eqS ?_ ?_
  | with_reducible refine' ev_isN ?_ | with_reducible refine' ev_notN ?_ | with_reducible refine' ev_chain ?_ ?_ ?_ | with_reducible refine' ev_neg ?_
  | with_reducible refine' is_ii ?_ | with_reducible refine' is_ib ?_ | with_reducible refine' is_bb ?_ | with_reducible refine' is_ss ?_ | with_reducible refine' is_tt ?_
  | with_reducible refine' ev_andV ?_ ?_ | with_reducible refine' ev_orV ?_ ?_ | with_reducible refine' ev_notV ?_
  | with_reducible refine' ev_lenT ?_ | with_reducible refine' ev_min ?_ ?_ | with_reducible refine' ev_max ?_ ?_
  | with_reducible refine' et_test ?_ | with_reducible refine' et_B ?_ | with_reducible refine' et_not ?_ | with_reducible refine' et_and ?_ ?_ | with_reducible refine' et_or ?_ ?_ | exact et_yes
  | with_reducible refine' eo_some ?_ | exact eo_none | (with_reducible intro _) | rfl))
local macro_rules | `(tactic| walk_at "ev") => `(tactic| repeat' walk_at "ev1")
local macro_rules | `(tactic| walk_at "sq") => `(tactic| try dsimp only [tSeq, tNext])
local macro_rules | `(tactic| walk_at "cx") => `(tactic| try dsimp only [cxOf, Cx.nox, Cx.wish])

section
variable {P : Program} {w : World} {K : Fg} {mg : Str → Option Value} {base : Heap}
abbrev s_table_of : Stmt := top 48
theorem sc_table_of : FnScope ["thing", "is_node", "is_value", "pair", "table"] ["thing", "is_node", "is_value"] (defScope s_table_of) := ⟨rfl, rfl, rfl, by decide +kernel, rfl, by decide +kernel, by decide +kernel⟩
def spTable (P : Program) (w : World) (K : Fg) (mg : Str → Option Value) : Sp := fun vs H Q _ => ∃ (S : Setg) (prices : List (Stt × Int)) (fA fp : Addr) (FA : NF), EnAll K H [.im (encPs prices), .rf fA, .rf fp] vs ∧ S.Ok ∧ isA FA ∧ CloD K H fA (LamO aL.2.1 fA FA) FA ["setting"] [encS S] ∧ mg "is_price" = some (.ref fp) ∧
  (∀ z, z ∈ prices → z.1.Ok S) ∧ (prices.map Prod.fst).Nodup ∧ prices.length ≤ 2000 ∧
  ∀ (d : Addr) (kvs : List Ent) (H' : Hp), Same H H' → DicOk P w K H' d kvs → EntsAre kvs (prices.map encE) K H' → Q (.ref d) H'
theorem d_table_of (B : Bn K mg) (F_is_state_of : Df P w K mg base 3 "is_state_of" ["setting", "thing"] (spD K R_state)) (F_is_price : Df P w K mg base 1 "is_price" ["thing"] (spD K R_price)) (F : FnP K mg "table_of" s_table_of) : Df P w K mg base 5 "table_of" ["thing", "is_node", "is_value"] (spTable P w K mg) := by
  refine df_of F sc_table_of (fun vs H Q E h => by obtain ⟨_, _, _, _, _, e, _⟩ := h; exact (enAll_len e).symm) (fun _ _ _ _ _ _ us hl => match us, hl with | [_, _, _], _ => rfl) fun f cdv A outer s H vs Q E hr h => ?_
  refine ⟨_, (pss_cons (ps_if (pt_not (pt_val (pe_callB call_isi rfl B.isinstance bt_isinstance (pa_cons (pv 0) (pa_cons (pe_bltn (v := .ty "tuple") rfl B.tuple bt_tuple rfl) pa_nil))))) (pss_one (ps_ret pe_non)) pss_nil)
  (pss_cons (ps_for PassesOwn.never rfl (pi_tup (pv 0)) (pg_name (i := 3) sc_table_of.nd rfl (by first | exact Or.inl rfl | exact Or.inr rfl)) (pss_one (ps_if (PW.pt (pw_or (pt_not (pt_val (pe_callB call_isi rfl B.isinstance bt_isinstance (pa_cons (pv 3) (pa_cons (pe_bltn (v := .ty "tuple") rfl B.tuple bt_tuple rfl) pa_nil))))) (pw_or (pt_cmpR op_ne (pe_callB c_len rfl B.len bt_len (pa_cons (pv 3) pa_nil)) pe_int (nomark _)) (pw_or (pt_not (pt_val (pe_isnode F_is_state_of (hr.mono (by decide)) 1 (pa_cons (pe_ix ix_tup (pv 3) pe_int (fun _ _ => rfl)) pa_nil)))) (pw_or1 (pt_not (pt_val (pe_isvalue F_is_price (hr.mono (by decide)) 2 (pa_cons (pe_ix ix_tup (pv 3) pe_int (fun _ _ => rfl)) pa_nil))))))))) (pss_one (ps_ret pe_non)) pss_nil)))
  (pss_cons (ps_set (i := 4) sc_table_of.nd rfl (by first | exact Or.inl rfl | exact Or.inr rfl) (pe_callTy (c_dictS rfl hr.units) rfl B.dict bt_dict (pa_cons (pv 0) pa_nil)))
  (pss_one (ps_ret (pe_ifExp (pt_cmpR op_eq (pe_callB c_lenS rfl B.len bt_len (pa_cons (pv 4) pa_nil)) (pe_callB c_len rfl B.len bt_len (pa_cons (pv 0) pa_nil)) (nomark _)) (pv 4) pe_non)))))), ?_⟩
  obtain ⟨S, prices, fA, fp, FA, hen, ok, isa, clo, hmp, hok, hnd, hlen, k⟩ := h
  have env := env_start (N := ["thing", "is_node", "is_value", "pair", "table"]) hen
  try simp only [unpackE, unpackD, wipeD, unT, List.map_cons, List.map_nil, List.length_cons, List.length_nil, List.cons_append, List.nil_append, List.replicate_succ, List.replicate_zero, List.set_cons_succ, List.set_cons_zero, Nat.reduceAdd, Nat.reduceSub] at env
  walk_at "cx"
  walk_at "sq"
  refine st_if env (b := false) (et_not (et_test (b := true) (ev_isi (ev_v env rfl) rfl))) (fun z => nomatch z) fun _ H1 x1 env => ?_
  walk_at "sq"
  refine st_forT (ds := (prices.map encE).map pairK) (EvE.plain (ev_v env rfl)) (fun i s' H' => Same H1 H' ∧ EnvD K H' s' [some (.im (encPs prices)), some (.rf fA), some (.rf fp), none, none]) (fun H2 x2 => ⟨x2, env.mono (tk_of x2)⟩) ?_ ?_
  · intro i d x s' H' hd hx ⟨p1, env⟩
    obtain ⟨z, hz, rfl⟩ : ∃ z, z ∈ prices ∧ d = .tuple [encT z.1, .int z.2] := by
      rw [encE_map] at hd
      obtain ⟨z, hz, e⟩ := List.mem_map.mp (List.mem_of_getElem? hd)
      exact ⟨z, hz, e.symm⟩
    have env := env.set (e := .im (.tuple [encT z.1, .int z.2])) hx 3
    try simp only [unpackE, unpackD, wipeD, unT, List.map_cons, List.map_nil, List.length_cons, List.length_nil, List.cons_append, List.nil_append, List.replicate_succ, List.replicate_zero, List.set_cons_succ, List.set_cons_zero, Nat.reduceAdd, Nat.reduceSub] at env
    dsimp only [gName]
    have p1' := x1.trans p1
    refine st_if env (b := false) (EvT.is (et_or (et_not (et_test (b := true) (ev_isi (ev_v env rfl) rfl))) fun _ => et_or (et_test (ev_neI (ev_lenT (ds := [encT z.1, .int z.2]) (ev_v env rfl)) ev_i)) fun _ =>
      et_or (et_not (et_test (b := true) (ev_clo (ds := [encT z.1]) env rfl isa (clo.mono p1') (ea_c (ev_ixT (n := 0) (ds := [encT z.1, .int z.2]) (ev_v env rfl) ev_i rfl) ea_n) rfl ⟨S, z.1, rfl, rfl, ⟨ok, hok z hz⟩, rfl⟩))) fun _ =>
        et_not (et_test (b := true) (ev_isv env rfl hmp (ea_c (ev_ixT (n := 1) (ds := [encT z.1, .int z.2]) (ev_v env rfl) ev_i rfl) ea_n)))) rfl) (fun z => nomatch z) fun _ H2 x2 env => ?_
    exact ⟨tk_of x2, p1.trans x2, env.weak rfl fun j e he => by
      match j with
      | 0 | 1 | 2 => exact he
      | 3 | 4 => cases he
      | n + 5 => exact he⟩
  · intro s' H' ⟨p1, env⟩
    walk_at "sq"
    obtain ⟨v0, g0, r0⟩ := env.get (i := 0) rfl
    have r0 : Im K H' v0 (.dict (prices.map encE)) := r0
    obtain ⟨a, rfl⟩ : ∃ a, v0 = V.ref a := by
      cases r0 with
      | ptp h hd hs => exact ⟨_, rfl⟩
    refine ⟨_, g0, a, prices.map encE, rfl, r0, by rw [List.length_map, sizeLine_eq]; omega, fun z hz => ?_, encE_keys hnd, fun d kvs H2 x2 nd hd he => ?_⟩
    · obtain ⟨y, _, rfl⟩ := List.mem_map.mp hz
      exact ⟨ky_T y.1, _, rfl⟩
    · have env := (env.mono (tk_of x2)).set (e := .rf d) rfl 4
      try simp only [unpackE, unpackD, wipeD, unT, List.map_cons, List.map_nil, List.length_cons, List.length_nil, List.cons_append, List.nil_append, List.replicate_succ, List.replicate_zero, List.set_cons_succ, List.set_cons_zero, Nat.reduceAdd, Nat.reduceSub] at env
      walk_at "sq"
      have hl : kvs.length = prices.length := by
        have := congrArg List.length he.keys
        rw [List.length_map, List.length_map, List.length_map] at this
        exact this
      refine st_ret (ev_if (b := true) (EvT.is (et_test (ev_eqI (ev_lenS hd (by rw [hl, sizeLine_eq]; omega) (ev_v env rfl)) (ev_lenT (EvE.plain (ev_v env rfl))))) ?_) (fun _ => ev_v env rfl) (fun z => nomatch z)) fun v H3 x3 r => ?_
      · rw [hl, List.length_map, List.length_map]
        exact decide_eq_true rfl
      · obtain rfl : v = V.ref d := r
        exact k d kvs H3 ((x1.trans p1).trans (x2.trans x3)) (hd.mono x3) ⟨he.keys, fun z hz => let ⟨p, a, b, c⟩ := he.has z hz; ⟨p, a, b, Im.mono (tk_of x3) c⟩⟩
end
end CB

/-! ## KB16 -/
set_option Elab.async false
set_option linter.all false
set_option maxRecDepth 100000
set_option maxHeartbeats 4000000
/-! are_prices. -/
namespace CB
open PySem PySem.Spec PyProof.Rows L2 LamX NdefX
local macro_rules | `(tactic| walk_at "ev1") => `(tactic| (first
  | exact ev_i | exact ev_b | exact ev_n | exact ev_s | exact ev_v (by assumption) rfl | exact ea_n
  | refine' ea_c ?_ ?_ | with_reducible refine' ev_ixT ?_ ?_ ?_ | with_reducible refine' ev_ixTl ?_ ?_ ?_
  | with_reducible refine' ev_add ?_ ?_ | with_reducible refine' ev_sub ?_ ?_
  | with_reducible refine' ev_lt ?_ ?_ | with_reducible refine' ev_le ?_ ?_ | with_reducible refine' ev_gt ?_ ?_ | with_reducible refine' ev_ge ?_ ?_
  | with_reducible refine' ev_eqI ?_ ?_ | with_reducible refine' ev_neI ?_ ?_ | with_reducible refine' ev_eqS ?_ ?_
  | with_reducible refine' ev_isN ?_ | with_reducible refine' ev_notN ?_ | with_reducible refine' ev_chain ?_ ?_ ?_ | with_reducible refine' ev_neg ?_
  | with_reducible refine' is_ii ?_ | with_reducible refine' is_ib ?_ | with_reducible refine' is_bb ?_ | with_reducible refine' is_ss ?_ | with_reducible refine' is_tt ?_
  | with_reducible refine' ev_andV ?_ ?_ | with_reducible refine' ev_orV ?_ ?_ | with_reducible refine' ev_notV ?_
  | with_reducible refine' ev_lenT ?_ | with_reducible refine' ev_min ?_ ?_ | with_reducible refine' ev_max ?_ ?_
  | with_reducible refine' et_test ?_ | with_reducible refine' et_B ?_ | with_reducible refine' et_not ?_ | with_reducible refine' et_and ?_ ?_ | with_reducible refine' et_or ?_ ?_ | exact et_yes
  | with_reducible refine' eo_some ?_ | exact eo_none | (with_reducible intro _) | rfl))
local macro_rules | `(tactic| walk_at "ev") => `(tactic| repeat' walk_at "ev1")
local macro_rules | `(tactic| walk_at "sq") => `(tactic| try dsimp only [tSeq, tNext])
local macro_rules | `(tactic| walk_at "cx") => `(tactic| try dsimp only [cxOf, Cx.nox, Cx.wish])

section
variable {P : Program} {w : World} {K : Fg} {mg : Str → Option Value} {base : Heap}
theorem CloD.ext {H H' : Hp} {f : Addr} {O : HO} {F : NF} {fr : List Str} {cd : List PyData} (c : CloD K H f O F fr cd) (x : ExtN H H') (nO : ∀ ps, O ≠ .tbl ps) : CloD K H' f O F fr cd := by
  obtain ⟨ws, a, b⟩ := c
  exact ⟨ws, a.ext x nO, b.mono (extN_tk x)⟩
/-- dict over states, behind the giving back -/
theorem DicOk.back {H H' : Hp} {L : List (Addr × HO)} {d : Addr} {kvs : List Ent} (h : DicOk P w K H' d kvs) (l : LentTo H L) (k : ∀ b o, L.lookup b = some o → H' b = some o) : DicOk P w K (unl H' L) d kvs :=
  ⟨l.out k h.at_ (fun _ _ z => by unfold KDs at z; cases z), fun p hp => ⟨Im.mono (l.tk k) (h.key p hp).1, (h.key p hp).2⟩⟩
/-- what the price list says, for the check -/
structure Pri (S : Setg) (m place : Nat) (sign p q : Int) (prices : List (Stt × Int)) : Prop where
  nodup : (prices.map Prod.fst).Nodup
  first : (firstM S, 0) ∈ prices
  closed : ∀ t x, (t, x) ∈ prices → ∀ n : Int, 0 ≤ n → n ≤ m → ∃ y, ((stepM S t n).next, y) ∈ prices ∧ x + sign * (q * (stepM S t n).get place - p * n) ≤ y
  len : prices.length ≤ 2000
  oks : ∀ t x, (t, x) ∈ prices → t.Ok S
abbrev s_are_prices : Stmt := top 63
theorem sc_are_prices : FnScope ["setting", "most", "place", "worth", "thing", "prices", "state", "price", "fresh", "told"] ["setting", "most", "place", "worth", "thing"] (defScope s_are_prices) := ⟨rfl, rfl, rfl, by decide +kernel, rfl, by decide +kernel, by decide +kernel⟩
def spPrices (K : Fg) (T : List NTab) : Sp := fun vs H Q _ => ∃ (S : Setg) (m place : Nat) (sign p q : Int) (prices : List (Stt × Int)) (fW : Addr) (FW : NF), EnAll K H [.im (encS S), .im (.int (m : Int)), .im (.int (place : Int)), .rf fW, .im (encPs prices)] vs ∧ S.Ok ∧ TabsN T H ∧ isW FW ∧
  CloD K H fW (LamO wL.2.1 fW FW) FW ["p", "q", "sign"] [.int p, .int q, .int sign] ∧ ((-(2 ^ 64) < p ∧ p < 2 ^ 64) ∧ (-(2 ^ 64) < q ∧ q < 2 ^ 64) ∧ -(2 ^ 64) < sign ∧ sign < 2 ^ 64) ∧ (place = 0 ∨ place = 1) ∧ m ≤ 3 ∧ Pri S m place sign p q prices ∧
  ∀ H', ExtN H H' → TabsN T H' → Q (.bl true) H'
theorem own_ap {n : Nat} {X : Cx} (hN : X.N = (["setting", "most", "place", "worth", "thing", "prices", "state", "price", "fresh", "told"] : List Str)) (hsc : X.env.scope = defScope s_are_prices) (hc : X.env.cells = cellsFrom (n + 1) (defScope s_are_prices).names []) (hf : ∀ x, X.fn x = true) :
    Own X (cloFrom X.env.cells aL.2.2.1.names []) ["setting"] [0] := by
  have ec : cloFrom X.env.cells aL.2.2.1.names [] = [(("setting" : Str), n + 1)] := by rw [hc]; rfl
  have e1 : X.env.cells.lookup ("setting" : Str) = some (n + 1) := by rw [hc]; rfl
  rw [ec]
  refine ⟨hf, by rw [hN]; exact sc_are_prices.nd, fun p hp => ?_, fun y hy => ?_, fun y hy => ?_, by rw [hN]; rfl⟩
  · rw [List.mem_singleton.mp hp]
    exact ⟨e1, List.mem_singleton.mpr rfl⟩
  · rw [hsc]
    rw [List.mem_singleton.mp hy]
    exact Or.inl rfl
  · rw [List.mem_singleton.mp hy]
    exact ⟨_, rfl⟩
theorem d_are_prices {fp : Addr} (t : Tbl mg base) (B : Bn K mg) (hmp : mg "is_price" = some (.ref fp)) (F_table_of : Df P w K mg base 5 "table_of" ["thing", "is_node", "is_value"] (spTable P w K mg)) (F_first_of : Df P w K mg base 2 "first_of" ["setting"] (spD K R_first)) (F_step : Df P w K mg base 2 "step" ["setting", "state", "fresh"] (spD K R_step))
    (F : FnT K mg "are_prices" s_are_prices t.cA) : Df P w K mg base 6 "are_prices" ["setting", "most", "place", "worth", "thing"] (spPrices K t.T) := by
  refine dft_nox F sc_are_prices (fun vs H Q E h => by obtain ⟨_, _, _, _, _, _, _, _, _, e, _⟩ := h; exact (enAll_len e).symm) (fun _ _ _ _ _ _ us hl => match us, hl with | [_, _, _, _, _], _ => rfl) fun f A outer s H vs Q E hr h => ?_
  have hmem : (t.PA, qA) ∈ t.Ts := by unfold Tbl.Ts; simp
  have OW := own_ap (n := s.heap.objs.size) (X := (cxOf CX0 P w K mg base ["setting", "most", "place", "worth", "thing", "prices", "state", "price", "fresh", "told"] "are_prices" (defScope s_are_prices) f (.ref t.cA) A outer s H E).nox) rfl rfl rfl (fun _ => rfl)
  refine ⟨_, (pss_cons (ps_set (i := 5) sc_are_prices.nd rfl (by first | exact Or.inl rfl | exact Or.inr rfl) (pe_callLn (O := LamO aL.2.1) F_table_of (hr.mono (by decide)) rfl (by exact OW) (pa_cons (pv 4) (pa_cons (pe_lamN t.bA rfl (t.mN hmem) rfl (t.uN hmem) (ndef_free (sc := defScope s_are_prices) (nsc := aL.2.2.1) (fr := ["setting"]) (by decide +kernel)) rfl) (pa_cons (pe_gv rfl hmp) pa_nil)))))
  (pss_cons (ps_if (PW.pt (pw_or (pt_cmpR o_isN (pv 5) pe_non (nomark _)) (pw_or1 (pt_cmpR op_ne (pe_sgetM hr.units (pv 5) (pa_cons (pe_df F_first_of (hr.mono (by decide)) rfl (pa_cons (pv 0) pa_nil)) pa_nil)) pe_int (nomark _))))) (pss_one (ps_ret pe_bl)) pss_nil)
  (pss_cons (ps_for PassesOwn.never rfl (pi_tup (pv 4)) (pg_tup rfl (pgs_cons (pg_name (i := 6) sc_are_prices.nd rfl (by first | exact Or.inl rfl | exact Or.inr rfl)) (pgs_cons (pg_name (i := 7) sc_are_prices.nd rfl (by first | exact Or.inl rfl | exact Or.inr rfl)) pgs_nil))) (pss_one (ps_for PassesOwn.never rfl (pi_range1 rfl B.range (pa_cons (pe_op op_add (pv 1) pe_int) pa_nil)) (pg_name (i := 8) sc_are_prices.nd rfl (by first | exact Or.inl rfl | exact Or.inr rfl)) (pss_cons (ps_set (i := 9) sc_are_prices.nd rfl (by first | exact Or.inl rfl | exact Or.inr rfl) (pe_df F_step (hr.mono (by decide)) rfl (pa_cons (pv 0) (pa_cons (pv 6) (pa_cons (pv 8) pa_nil)))))
  (pss_one (ps_if (PW.pt (pw_or (pt_cmp (pc_snotin hr.units (pe_ix ix_tup (pv 9) (pe_un un_neg pe_int) (fun _ _ => rfl)) (pv 5))) (pw_or1 (pt_cmpR op_lt (pe_sget hr.units (pv 5) (pe_ix ix_tup (pv 9) (pe_un un_neg pe_int) (fun _ _ => rfl)) (fun _ _ => rfl)) (pe_op op_add (pv 7) (pe_worth (hr.mono (by decide)) 3 (pa_cons (pe_ix ix_tup (pv 9) (pv 2) (fun _ _ => rfl)) (pa_cons (pv 8) pa_nil)))) (nomark _))))) (pss_one (ps_ret pe_bl)) pss_nil))))))
  (pss_one (ps_ret pe_bl))))), ?_⟩
  obtain ⟨S, m, place, sign, p, q, prices, fW, FW, hen, ok, hT, isw, clo, hb, pl, hm, pri, k⟩ := h
  have env := env_start (N := ["setting", "most", "place", "worth", "thing", "prices", "state", "price", "fresh", "told"]) hen
  try simp only [unpackE, unpackD, wipeD, unT, List.map_cons, List.map_nil, List.length_cons, List.length_nil, List.cons_append, List.nil_append, List.replicate_succ, List.replicate_zero, List.set_cons_succ, List.set_cons_zero, Nat.reduceAdd, Nat.reduceSub] at env
  walk_at "cx"
  walk_at "sq"
  obtain ⟨v4, g4, r4⟩ := env.get (i := 4) rfl
  obtain ⟨v0, g0, r0⟩ := env.get (i := 0) rfl
  have r4 : Im K H v4 (encPs prices) := r4
  have r0 : Im K H v0 (encS S) := r0
  refine ⟨v4, g4, hT, fun fA cA H1 e1 nn T1 f0 f1 c1 => ⟨fA, _, [v0], rfl, f1, c1, by show [NdefX.slotAt _ 0] = _; rw [slotAt_of g0]; rfl, fun L l cloA => ?_⟩⟩
  have tA : Tk H (lend H1 L) := extN_tk (same_extN e1 l.same)
  refine ⟨S, prices, fA, fp, _, .cons (Im.mono tA r4) (.cons rfl (.cons rfl .nil)), ok, ⟨_, _, rfl⟩, ⟨[v0], cloA, .cons (Im.mono tA r0) .nil⟩, hmp, fun z hz => pri.oks z.1 z.2 hz, pri.nodup, pri.len, fun d kvs H3 x3 hd he => ?_⟩
  have kL : ∀ b o, L.lookup b = some o → H3 b = some o := fun b o e => x3 b o (lend_some e)
  have s13 : Same H1 (unl H3 L) := fun b o e => by
    have hbL : L.lookup b = none := by
      cases q : L.lookup b with
      | none => rfl
      | some o' =>
        have := (l b o' q).1
        rw [e] at this
        cases this
    rw [unl_none hbL]
    exact x3 b o (l.same b o e)
  have hd := hd.back l kL
  have he : EntsAre kvs (prices.map encE) K (unl H3 L) := ⟨he.keys, fun z hz => let ⟨p, a, b, c⟩ := he.has z hz; ⟨p, a, b, Im.mono (l.tk kL) c⟩⟩
  have e4 : ExtN H (unl H3 L) := same_extN e1 s13
  have T4 := tabs_same T1 s13
  have clo := CloD.ext clo e4 fun ps => lam_ne ps
  have env := (env.mono (extN_tk e4)).set (e := .rf d) rfl 5
  try simp only [unpackE, unpackD, wipeD, unT, List.map_cons, List.map_nil, List.length_cons, List.length_nil, List.cons_append, List.nil_append, List.replicate_succ, List.replicate_zero, List.set_cons_succ, List.set_cons_zero, Nat.reduceAdd, Nat.reduceSub] at env
  walk_at "sq"
  have val : ∀ t x, (t, x) ∈ prices → ∃ e, e ∈ kvs ∧ e.1 = encT t ∧ e.2.2 = .int x := fun t x hx => by
    obtain ⟨e, a, b, c⟩ := he.has (encE (t, x)) (List.mem_map.mpr ⟨_, hx, rfl⟩)
    exact ⟨e, a, b, im_int c⟩
  obtain ⟨e0, m0, k0, w0⟩ := val _ _ pri.first
  refine st_if env (b := false) (EvT.is (et_or (et_test (ev_isN (ev_v env rfl))) fun _ => et_test (ev_neI (ev_sgetM hd (ev_v env rfl) (ev_first (ev_v env rfl) ok) (ky_T _) ⟨_, rfl⟩ (.inl ⟨e0, m0, k0, by rw [w0]; exact .int 0⟩)) ev_i)) rfl) (fun z => nomatch z) fun _ H5 x5 env => ?_
  walk_at "sq"
  refine st_forT (ds := (prices.map encE).map pairK) (EvE.plain (ev_v env rfl)) (fun i s' H' => Same H5 H' ∧ EnvD K H' s' [some (.im (encS S)), some (.im (.int (m : Int))), some (.im (.int (place : Int))), some (.rf fW), some (.im (encPs prices)), some (.rf d), none, none, none, none]) (fun H2 x2 => ⟨x2, env.mono (tk_of x2)⟩) ?_ ?_
  · intro i dd x s' H' hdd hx ⟨p1, env⟩
    obtain ⟨⟨st, pr⟩, hz, rfl⟩ : ∃ z, z ∈ prices ∧ dd = .tuple [encT z.1, .int z.2] := by
      rw [encE_map] at hdd
      obtain ⟨z, hz, e⟩ := List.mem_map.mp (List.mem_of_getElem? hdd)
      exact ⟨z, hz, e.symm⟩
    obtain ⟨a, xs, f1', f2', f3'⟩ := im_tup hx
    refine ⟨a, xs, f1', f2', by rw [imAll_len f3']; rfl, gNames_ok [6, 7] xs _ _ _ rfl f3' env fun s6 env => ?_⟩
    try simp only [unpackE, unpackD, wipeD, unT, List.map_cons, List.map_nil, List.length_cons, List.length_nil, List.cons_append, List.nil_append, List.replicate_succ, List.replicate_zero, List.set_cons_succ, List.set_cons_zero, Nat.reduceAdd, Nat.reduceSub] at env
    walk_at "sq"
    have tok := pri.oks _ _ hz
    refine st_forR (K := K) (n := ((m + 1 : Nat) : Int)) (ea_c (EvE.is (ev_add (ev_v env rfl) ev_i) rfl) ea_n) (by omega) (by omega)
      (fun i s' H6 => Same H' H6 ∧ EnvD K H6 s' [some (.im (encS S)), some (.im (.int (m : Int))), some (.im (.int (place : Int))), some (.rf fW), some (.im (encPs prices)), some (.rf d), some (.im (encT st)), some (.im (.int pr)), none, none])
      (fun H7 x7 => ⟨x7, env.mono (tk_of x7)⟩) ?_ ?_
    · rintro n s' H7 hn ⟨p7, env⟩
      have hnm : n ≤ m := by omega
      have env := env.set (e := .im (.int (n : Int))) (.int _) 8
      try simp only [unpackE, unpackD, wipeD, unT, List.map_cons, List.map_nil, List.length_cons, List.length_nil, List.cons_append, List.nil_append, List.replicate_succ, List.replicate_zero, List.set_cons_succ, List.set_cons_zero, Nat.reduceAdd, Nat.reduceSub] at env
      dsimp only [gName]
      refine st_set env (en := .im (encTold (stepM S st (n : Int)))) (ev_step (ev_v env rfl) (ev_v env rfl) (ev_v env rfl) ok tok (by omega)) fun _ H8 x8 _ env => ?_
      try simp only [unpackE, unpackD, wipeD, unT, List.map_cons, List.map_nil, List.length_cons, List.length_nil, List.cons_append, List.nil_append, List.replicate_succ, List.replicate_zero, List.set_cons_succ, List.set_cons_zero, Nat.reduceAdd, Nat.reduceSub] at env
      walk_at "sq"
      obtain ⟨y, hy, hle⟩ := pri.closed _ _ hz (n : Int) (by omega) (by omega)
      obtain ⟨e1', m1, k1, w1⟩ := val _ _ hy
      have s48 : Same (unl H3 L) H8 := ((x5.trans p1).trans p7).trans x8
      have hpl : place < 6 := by omega
      refine st_if env (b := false) (EvT.is (et_or (et_B (ev_snot (r := false) (hd.mono s48) (ky_T _) (fun z => nomatch z) (fun _ => ⟨e1', m1, k1⟩) (ev_ixTl (ds := [_, _, _, _, _, _, _]) (ev_v env rfl) (by walk_at "ev") rfl) (ev_v env rfl))) fun _ =>
        et_test (ev_lt (ev_sget (hd.mono s48) m1 k1 w1 (ev_v env rfl) (ev_ixTl (ds := [_, _, _, _, _, _, _]) (ev_v env rfl) (by walk_at "ev") rfl)) (ev_add (ev_v env rfl) (ev_clo (ds := [.int ((stepM S st (n : Int)).get place), .int (n : Int)]) (d := .int (sign * (q * (stepM S st (n : Int)).get place - p * (n : Int)))) env rfl isw (clo.mono s48) (ea_c (ev_ixT (n := place) (ds := [_, _, _, _, _, _, _]) (ev_v env rfl) (ev_v env rfl) (at_told hpl _)) (ea_c (ev_v env rfl) ea_n)) rfl ⟨p, q, sign, _, _, rfl, rfl, hb, rfl⟩)))) ?_) (fun z => nomatch z) fun _ H9 x9 env => ?_
      · show (false || decide (y < pr + _)) = false
        rw [Bool.false_or]
        exact decide_eq_false (by omega)
      · exact ⟨(p7.trans x8).trans x9, env.weak rfl fun j e he => by
          match j with
          | 0 | 1 | 2 | 3 | 4 | 5 | 6 | 7 => exact he
          | 8 | 9 => cases he
          | n + 10 => exact he⟩
    · rintro s' H7 ⟨p7, env⟩
      exact ⟨tk_of p7, p1.trans p7, env.weak rfl fun j e he => by
        match j with
        | 0 | 1 | 2 | 3 | 4 | 5 => exact he
        | 6 | 7 | 8 | 9 => cases he
        | n + 10 => exact he⟩
  · intro s' H' ⟨p1, env⟩
    walk_at "sq"
    have s4 : Same (unl H3 L) H' := x5.trans p1
    exact k H' (same_extN e4 s4) (tabs_same T4 s4)
end
end CB

/-! ## KB17 -/
set_option Elab.async false
set_option linter.all false
set_option maxRecDepth 100000
set_option maxHeartbeats 4000000
/-! is_long_run. -/
namespace CB
open PySem PySem.Spec PyProof.Rows L2 LamX NdefX
local macro_rules | `(tactic| walk_at "ev1") => `(tactic| (first
  | exact ev_i | exact ev_b | exact ev_n | exact ev_s | exact ev_v (by assumption) rfl | exact ea_n
  | refine' ea_c ?_ ?_ | with_reducible refine' ev_ixT ?_ ?_ ?_ | with_reducible refine' ev_ixTl ?_ ?_ ?_
  | with_reducible refine' ev_add ?_ ?_ | with_reducible refine' ev_sub ?_ ?_
  | with_reducible refine' ev_lt ?_ ?_ | with_reducible refine' ev_le ?_ ?_ | with_reducible refine' ev_gt ?_ ?_ | with_reducible refine' ev_ge ?_ ?_
  | with_reducible refine' ev_eqI ?_ ?_ | with_reducible refine' ev_neI ?_ ?_ | with_reducible refine' ev_eqS ?_ ?_
  | with_reducible refine' ev_isN ?_ | with_reducible refine' ev_notN ?_ | with_reducible refine' ev_chain ?_ ?_ ?_ | with_reducible refine' ev_neg ?_
  | with_reducible refine' is_ii ?_ | with_reducible refine' is_ib ?_ | with_reducible refine' is_bb ?_ | with_reducible refine' is_ss ?_ | with_reducible refine' is_tt ?_
  | with_reducible refine' ev_andV ?_ ?_ | with_reducible refine' ev_orV ?_ ?_ | with_reducible refine' ev_notV ?_
  | with_reducible refine' ev_lenT ?_ | with_reducible refine' ev_min ?_ ?_ | with_reducible refine' ev_max ?_ ?_
  | with_reducible refine' et_test ?_ | with_reducible refine' et_B ?_ | with_reducible refine' et_not ?_ | with_reducible refine' et_and ?_ ?_ | with_reducible refine' et_or ?_ ?_ | exact et_yes
  | with_reducible refine' eo_some ?_ | exact eo_none | (with_reducible intro _) | rfl))
local macro_rules | `(tactic| walk_at "ev") => `(tactic| repeat' walk_at "ev1")
local macro_rules | `(tactic| walk_at "sq") => `(tactic| try dsimp only [tSeq, tNext])
local macro_rules | `(tactic| walk_at "cx") => `(tactic| try dsimp only [cxOf, Cx.nox, Cx.wish])

section
variable {P : Program} {w : World} {K : Fg} {mg : Str → Option Value} {base : Heap}
theorem LR.pri {S : Setg} {m place : Nat} {sign p q : Int} {way around : List Int} {prices : List (Stt × Int)} (h : LR S m place sign p q way around prices) : Pri S m place sign p q prices := ⟨h.nodup, h.first, h.closed, h.len, h.oks⟩
def encLR (p q : Int) (way around : List Int) (prices : List (Stt × Int)) : PyData := .tuple [.tuple [.int p, .int q], encI way, encI around, encPs prices]
abbrev s_is_long_run : Stmt := top 64
theorem sc_is_long_run : FnScope ["setting", "most", "place", "sign", "thing", "way", "around", "begin", "state", "total", "fresh", "told", "p", "q"] ["setting", "most", "place", "sign", "thing"] (defScope s_is_long_run) := ⟨rfl, rfl, rfl, by decide +kernel, rfl, by decide +kernel, by decide +kernel⟩
def spIsLong (K : Fg) (T : List NTab) : Sp := fun vs H Q _ => ∃ (S : Setg) (m place : Nat) (sign p q : Int) (way around : List Int) (prices : List (Stt × Int)), ImAll K H vs [encS S, .int (m : Int), .int (place : Int), .int sign, encLR p q way around prices] ∧ S.Ok ∧ TabsN T H ∧ m ≤ 3 ∧ (place = 0 ∧ sign = 1 ∨ place = 1 ∧ sign = -1) ∧
  LR S m place sign p q way around prices ∧ Bd p q way around ∧ ∀ H', ExtN H H' → TabsN T H' → Q (.bl true) H'
theorem d_is_long_run (t : Tbl mg base) (B : Bn K mg) (F_is_fraction : Df P w K mg base 2 "is_fraction" ["thing"] (spD K R_fraction)) (F_are_numbers : Df P w K mg base 2 "are_numbers" ["thing", "most"] (spD K R_numbers)) (F_state_behind : Df P w K mg base 3 "state_behind" ["setting", "state", "row"] (spD K R_behind)) (F_first_of : Df P w K mg base 2 "first_of" ["setting"] (spD K R_first))
    (F_step : Df P w K mg base 2 "step" ["setting", "state", "fresh"] (spD K R_step)) (F_are_prices : Df P w K mg base 6 "are_prices" ["setting", "most", "place", "worth", "thing"] (spPrices K t.T)) (F_worth_of : Df P w K mg base 1 "worth_of" ["fraction", "sign"] (spWorth K t.T))
    (F : FnP K mg "is_long_run" s_is_long_run) : Df P w K mg base 7 "is_long_run" ["setting", "most", "place", "sign", "thing"] (spIsLong K t.T) := by
  refine df_of F sc_is_long_run (fun vs H Q E h => by obtain ⟨_, _, _, _, _, _, _, _, _, e, _⟩ := h; exact imAll_len e) (fun _ _ _ _ _ _ us hl => match us, hl with | [_, _, _, _, _], _ => rfl) fun f cdv A outer s H vs Q E hr h => ?_
  refine ⟨_, (pss_cons (ps_if (PW.pt (pw_or (pt_not (pt_val (pe_callB call_isi rfl B.isinstance bt_isinstance (pa_cons (pv 4) (pa_cons (pe_bltn (v := .ty "tuple") rfl B.tuple bt_tuple rfl) pa_nil))))) (pw_or (pt_cmpR op_ne (pe_callB c_len rfl B.len bt_len (pa_cons (pv 4) pa_nil)) pe_int (nomark _)) (pw_or1 (pt_not (pt_val (pe_df F_is_fraction (hr.mono (by decide)) rfl (pa_cons (pe_ix ix_tup (pv 4) pe_int (fun _ _ => rfl)) pa_nil)))))))) (pss_one (ps_ret pe_bl)) pss_nil)
  (pss_cons (ps_asg (pe_slice sl_tupA (pv 4) (po_some pe_int) (po_some pe_int)) (pg_tup rfl (pgs_cons (pg_name (i := 5) sc_is_long_run.nd rfl (by first | exact Or.inl rfl | exact Or.inr rfl)) (pgs_cons (pg_name (i := 6) sc_is_long_run.nd rfl (by first | exact Or.inl rfl | exact Or.inr rfl)) pgs_nil))))
  (pss_cons (ps_if (PW.pt (pw_or (pt_not (pt_val (pe_df F_are_numbers (hr.mono (by decide)) rfl (pa_cons (pv 5) (pa_cons (pv 1) pa_nil))))) (pw_or (pt_not (pt_val (pe_df F_are_numbers (hr.mono (by decide)) rfl (pa_cons (pv 6) (pa_cons (pv 1) pa_nil))))) (pw_or1 (pt_cmpR op_eq (pe_callB (c_sumT rfl) rfl B.sum bt_sum (pa_cons (pv 6) pa_nil)) pe_int (nomark _)))))) (pss_one (ps_ret pe_bl)) pss_nil)
  (pss_cons (ps_set (i := 7) sc_is_long_run.nd rfl (by first | exact Or.inl rfl | exact Or.inr rfl) (pe_df F_state_behind (hr.mono (by decide)) rfl (pa_cons (pv 0) (pa_cons (pe_df F_first_of (hr.mono (by decide)) rfl (pa_cons (pv 0) pa_nil)) (pa_cons (pv 5) pa_nil)))))
  (pss_cons (ps_par (i := 8) (j := 9) rfl sc_is_long_run.nd rfl rfl (by decide) rfl rfl (pa_cons (pv 7) (pa_cons pe_int pa_nil)) (by rfl))
  (pss_cons (ps_for PassesOwn.never rfl (pi_tup (pv 6)) (pg_name (i := 10) sc_is_long_run.nd rfl (by first | exact Or.inl rfl | exact Or.inr rfl)) (pss_cons (ps_set (i := 11) sc_is_long_run.nd rfl (by first | exact Or.inl rfl | exact Or.inr rfl) (pe_df F_step (hr.mono (by decide)) rfl (pa_cons (pv 0) (pa_cons (pv 8) (pa_cons (pv 10) pa_nil)))))
  (pss_one (ps_par (i := 8) (j := 9) rfl sc_is_long_run.nd rfl rfl (by decide) rfl rfl (pa_cons (pe_ix ix_tup (pv 11) (pe_un un_neg pe_int) (fun _ _ => rfl)) (pa_cons (pe_op op_add (pv 9) (pe_ix ix_tup (pv 11) (pv 2) (fun _ _ => rfl))) pa_nil)) (by rfl)))))
  (pss_cons (ps_asg (pe_ix ix_tup (pv 4) pe_int (fun _ _ => rfl)) (pg_tup rfl (pgs_cons (pg_name (i := 12) sc_is_long_run.nd rfl (by first | exact Or.inl rfl | exact Or.inr rfl)) (pgs_cons (pg_name (i := 13) sc_is_long_run.nd rfl (by first | exact Or.inl rfl | exact Or.inr rfl)) pgs_nil))))
  (pss_cons (ps_if (PW.pt (pw_or (pt_cmpR (op_neD hr.units) (pv 8) (pv 7) (nomark _)) (pw_or1 (pt_cmpR op_ne (pe_op op_mul (pv 13) (pv 9)) (pe_op op_mul (pv 12) (pe_callB (c_sumT rfl) rfl B.sum bt_sum (pa_cons (pv 6) pa_nil))) (nomark _))))) (pss_one (ps_ret pe_bl)) pss_nil)
  (pss_one (ps_ret (pe_df F_are_prices (hr.mono (by decide)) rfl (pa_cons (pv 0) (pa_cons (pv 1) (pa_cons (pv 2) (pa_cons (pe_df F_worth_of (hr.mono (by decide)) rfl (pa_cons (pe_ix ix_tup (pv 4) pe_int (fun _ _ => rfl)) (pa_cons (pv 3) pa_nil))) (pa_cons (pe_ix ix_tup (pv 4) pe_int (fun _ _ => rfl)) pa_nil)))))))))))))))), ?_⟩
  obtain ⟨S, m, place, sign, p, q, way, around, prices, him, ok, hT, hm, hp, lr, bd, k⟩ := h
  have env := env_d (N := ["setting", "most", "place", "sign", "thing", "way", "around", "begin", "state", "total", "fresh", "told", "p", "q"]) him
  try simp only [unpackE, unpackD, wipeD, unT, List.map_cons, List.map_nil, List.length_cons, List.length_nil, List.cons_append, List.nil_append, List.replicate_succ, List.replicate_zero, List.set_cons_succ, List.set_cons_zero, Nat.reduceAdd, Nat.reduceSub] at env
  walk_at "cx"
  walk_at "sq"
  have q1 := lr.q1
  have p0 := lr.p0
  have bq := bd.q
  have bp := bd.p
  have wl := bd.way
  have al := bd.around
  refine st_if env (b := false) (EvT.is (et_or (et_not (et_test (b := true) (ev_isi (ev_v env rfl) rfl))) fun _ => et_or (et_test (ev_neI (ev_lenT (ds := [.tuple [.int p, .int q], encI way, encI around, encPs prices]) (ev_v env rfl)) ev_i)) fun _ =>
    et_not (et_test (b := true) (ev_fraction (ev_ixT (n := 0) (ds := [.tuple [.int p, .int q], encI way, encI around, encPs prices]) (ev_v env rfl) ev_i rfl) ⟨p0, q1, lr.one⟩))) rfl) (fun z => nomatch z) fun _ H1 x1 env => ?_
  walk_at "sq"
  refine st_unpack (is := [5, 6]) (n := 2) (ds := [encI way, encI around]) env (ev_slT (ds := [.tuple [.int p, .int q], encI way, encI around, encPs prices]) (ev_v env rfl) (eo_some ev_i) (eo_some ev_i) rfl) rfl rfl fun s2 H2 x2 env => ?_
  try simp only [unpackE, unpackD, wipeD, unT, List.map_cons, List.map_nil, List.length_cons, List.length_nil, List.cons_append, List.nil_append, List.replicate_succ, List.replicate_zero, List.set_cons_succ, List.set_cons_zero, Nat.reduceAdd, Nat.reduceSub] at env
  walk_at "sq"
  refine st_if env (b := false) (EvT.is (et_or (et_not (et_test (b := true) (ev_numbers (ev_v env rfl) (ev_v env rfl) ⟨lr.wayB, by omega⟩))) fun _ => et_or (et_not (et_test (b := true) (ev_numbers (ev_v env rfl) (ev_v env rfl) ⟨lr.aroundB, by omega⟩))) fun _ =>
    et_test (ev_eqI (ev_sumT (ns := around) (ev_v env rfl)) ev_i)) ?_) (fun z => nomatch z) fun _ H3 x3 env => ?_
  · have := lr.sum
    show (false || (false || decide (around.sum = 0))) = false
    rw [Bool.false_or, Bool.false_or]
    exact decide_eq_false (by omega)
  walk_at "sq"
  have wn : ∀ n, n ∈ way → 0 ≤ n := fun n hn => (lr.wayB n hn).1
  have an : ∀ n, n ∈ around → 0 ≤ n := fun n hn => (lr.aroundB n hn).1
  refine st_set env (en := .im (encT (endM S (firstM S) way))) (ev_behind (ev_v env rfl) (ev_first (ev_v env rfl) ok) (ev_v env rfl) ⟨ok, firstM_ok ok, wn⟩) fun _ H4 x4 _ env => ?_
  try simp only [unpackE, unpackD, wipeD, unT, List.map_cons, List.map_nil, List.length_cons, List.length_nil, List.cons_append, List.nil_append, List.replicate_succ, List.replicate_zero, List.set_cons_succ, List.set_cons_zero, Nat.reduceAdd, Nat.reduceSub] at env
  walk_at "sq"
  refine st_par (e1 := .im (encT (endM S (firstM S) way))) (e2 := .im (.int 0)) env (ea_c (ev_v env rfl) (ea_c ev_i ea_n)) fun s5 H5 x5 env => ?_
  try simp only [unpackE, unpackD, wipeD, unT, List.map_cons, List.map_nil, List.length_cons, List.length_nil, List.cons_append, List.nil_append, List.replicate_succ, List.replicate_zero, List.set_cons_succ, List.set_cons_zero, Nat.reduceAdd, Nat.reduceSub] at env
  walk_at "sq"
  have wok := lr.wok ok
  have s05 := x1.trans (x2.trans (x3.trans (x4.trans x5)))
  have hpl : place < 6 := by omega
  refine st_forT (ds := around.map .int) (ev_v env rfl)
    (fun i s' H' => Same H5 H' ∧ EnvD K H' s' [some (.im (encS S)), some (.im (.int (m : Int))), some (.im (.int (place : Int))), some (.im (.int sign)), some (.im (encLR p q way around prices)), some (.im (encI way)), some (.im (encI around)), some (.im (encT (endM S (firstM S) way))), some (.im (encT (endM S (endM S (firstM S) way) (around.take i)))), some (.im (.int (sumM S place (endM S (firstM S) way) (around.take i)))), none, none, none, none])
    (fun H2 x2 => ⟨x2, env.mono (tk_of x2)⟩) ?_ ?_
  · intro i d x s' H' hd hx ⟨p1, env⟩
    rw [List.getElem?_map] at hd
    cases e : around[i]? with
    | none => rw [e] at hd; cases hd
    | some n =>
      rw [e] at hd
      obtain rfl : PyData.int n = d := Option.some.inj hd
      have env := env.set (e := .im (.int n)) hx 10
      try simp only [unpackE, unpackD, wipeD, unT, List.map_cons, List.map_nil, List.length_cons, List.length_nil, List.cons_append, List.nil_append, List.replicate_succ, List.replicate_zero, List.set_cons_succ, List.set_cons_zero, Nat.reduceAdd, Nat.reduceSub] at env
      dsimp only [gName]
      walk_at "sq"
      have tok := endM_ok ok wok (take_nn an i)
      refine st_set env (en := .im (encTold (stepM S (endM S (endM S (firstM S) way) (around.take i)) n))) (ev_step (ev_v env rfl) (ev_v env rfl) (ev_v env rfl) ok tok (an n (List.mem_of_getElem? e))) fun _ H6 x6 _ env => ?_
      try simp only [unpackE, unpackD, wipeD, unT, List.map_cons, List.map_nil, List.length_cons, List.length_nil, List.cons_append, List.nil_append, List.replicate_succ, List.replicate_zero, List.set_cons_succ, List.set_cons_zero, Nat.reduceAdd, Nat.reduceSub] at env
      walk_at "sq"
      refine st_par (e1 := .im (encT (endM S (endM S (firstM S) way) (around.take (i + 1))))) (e2 := .im (.int (sumM S place (endM S (firstM S) way) (around.take (i + 1))))) env (ea_c (EvE.is (ev_ixTl (ds := [_, _, _, _, _, _, _]) (ev_v env rfl) (by walk_at "ev") rfl) ?_) (ea_c (EvE.is (ev_add (ev_v env rfl) (ev_ixT (n := place) (ds := [_, _, _, _, _, _, _]) (ev_v env rfl) (ev_v env rfl) (at_told hpl _))) ?_) ea_n)) fun s7 H7 x7 env => ?_
      · rw [take_s e, endM_app]
        rfl
      · rw [take_s e, sumM_app, sumM_cons, sumM_nil, Int.add_zero]
      try simp only [unpackE, unpackD, wipeD, unT, List.map_cons, List.map_nil, List.length_cons, List.length_nil, List.cons_append, List.nil_append, List.replicate_succ, List.replicate_zero, List.set_cons_succ, List.set_cons_zero, Nat.reduceAdd, Nat.reduceSub] at env
      exact ⟨tk_of (x6.trans x7), (p1.trans x6).trans x7, env.weak rfl fun j e he => by
        match j with
        | 0 | 1 | 2 | 3 | 4 | 5 | 6 | 7 | 8 | 9 => exact he
        | 10 | 11 | 12 | 13 => cases he
        | n + 14 => exact he⟩
  · intro s' H' ⟨p1, env⟩
    rw [List.length_map, List.take_length] at env
    walk_at "sq"
    refine st_unpack (is := [12, 13]) (n := 2) (ds := [.int p, .int q]) env (ev_ixT (n := 0) (ds := [.tuple [.int p, .int q], encI way, encI around, encPs prices]) (ev_v env rfl) ev_i rfl) rfl rfl fun s8 H8 x8 env => ?_
    try simp only [unpackE, unpackD, wipeD, unT, List.map_cons, List.map_nil, List.length_cons, List.length_nil, List.cons_append, List.nil_append, List.replicate_succ, List.replicate_zero, List.set_cons_succ, List.set_cons_zero, Nat.reduceAdd, Nat.reduceSub] at env
    walk_at "sq"
    refine st_if env (b := false) (EvT.is (et_or (et_test (ev_neD (ev_v env rfl) (ev_v env rfl) (sh_T _) (sh_T _))) fun _ => et_test (ev_neI (ev_mul (ev_v env rfl) (ev_v env rfl) (.inl (by omega))) (ev_mul (ev_v env rfl) (ev_sumT (ns := around) (ev_v env rfl)) (.inl (by omega))))) ?_) (fun z => nomatch z) fun _ H9 x9 env => ?_
    · have e1 : PyData.eqv (encT (endM S (endM S (firstM S) way) around)) (encT (endM S (firstM S) way)) = true := by rw [lr.back, eqv_T]; exact decide_eq_true rfl
      rw [e1, lr.bal]
      show (false || !decide (p * around.sum = p * around.sum)) = false
      rw [decide_eq_true rfl]
      rfl
    walk_at "sq"
    have s09 := s05.trans (p1.trans (x8.trans x9))
    obtain ⟨v0, g0, r0⟩ := env.get (i := 0) rfl
    obtain ⟨v1, g1, r1⟩ := env.get (i := 1) rfl
    obtain ⟨v2, g2, r2⟩ := env.get (i := 2) rfl
    obtain ⟨v3, g3, r3⟩ := env.get (i := 3) rfl
    have fr : EvE K s8 H9 _ (.im (.tuple [.int p, .int q])) := ev_ixT (n := 0) (ds := [.tuple [.int p, .int q], encI way, encI around, encPs prices]) (ev_v env (i := 4) rfl) (ev_i (i := 0)) rfl
    refine ⟨v0, g0, v1, g1, v2, g2, ?_⟩
    refine fr H9 (Same.refl _) _ fun va H10 x10 ra => ?_
    refine ⟨v3, g3, p, q, sign, .cons ra (.cons (Im.mono (tk_of x10) r3) .nil), tabs_same hT (s09.trans x10), fun fW FW H11 e11 T11 isw clo => ?_⟩
    have env := env.mono ((tk_of x10).trans (extN_tk e11))
    have tk := (tk_of x10).trans (extN_tk e11)
    have ps : EvE K s8 H11 _ (.im (encPs prices)) := ev_ixT (n := 3) (ds := [.tuple [.int p, .int q], encI way, encI around, encPs prices]) (ev_v env (i := 4) rfl) (ev_i (i := 3)) rfl
    refine ps H11 (Same.refl _) _ fun vp H12 x12 rp => ?_
    have tk := tk.trans (tk_of x12)
    have e12 : ExtN H H12 := (extN_of (s09.trans x10)).trans (same_extN e11 x12)
    refine ⟨S, m, place, sign, p, q, prices, fW, FW, .cons (Im.mono tk r0) (.cons (Im.mono tk r1) (.cons (Im.mono tk r2) (.cons rfl (.cons rp .nil)))), ok, tabs_same T11 x12, isw, clo.mono x12, ?_, hp.imp And.left And.left, hm, lr.pri, fun H13 e13 T13 => k H13 (e12.trans e13) T13⟩
    rcases hp with ⟨_, e⟩ | ⟨_, e⟩ <;> omega
end
end CB

/-! ## KB18 -/
set_option Elab.async false
set_option linter.all false
set_option maxRecDepth 100000
set_option maxHeartbeats 4000000
/-! load, worst, shows_load, shows_worst. -/
namespace CB
open PySem PySem.Spec PyProof.Rows L2 LamX NdefX
local macro_rules | `(tactic| walk_at "ev1") => `(tactic| (first
  | exact ev_i | exact ev_b | exact ev_n | exact ev_s | exact ev_v (by assumption) rfl | exact ea_n
  | refine' ea_c ?_ ?_ | with_reducible refine' ev_ixT ?_ ?_ ?_ | with_reducible refine' ev_ixTl ?_ ?_ ?_
  | with_reducible refine' ev_add ?_ ?_ | with_reducible refine' ev_sub ?_ ?_
  | with_reducible refine' ev_lt ?_ ?_ | with_reducible refine' ev_le ?_ ?_ | with_reducible refine' ev_gt ?_ ?_ | with_reducible refine' ev_ge ?_ ?_
  | with_reducible refine' ev_eqI ?_ ?_ | with_reducible refine' ev_neI ?_ ?_ | with_reducible refine' ev_eqS ?_ ?_
  | with_reducible refine' ev_isN ?_ | with_reducible refine' ev_notN ?_ | with_reducible refine' ev_chain ?_ ?_ ?_ | with_reducible refine' ev_neg ?_
  | with_reducible refine' is_ii ?_ | with_reducible refine' is_ib ?_ | with_reducible refine' is_bb ?_ | with_reducible refine' is_ss ?_ | with_reducible refine' is_tt ?_
  | with_reducible refine' ev_andV ?_ ?_ | with_reducible refine' ev_orV ?_ ?_ | with_reducible refine' ev_notV ?_
  | with_reducible refine' ev_lenT ?_ | with_reducible refine' ev_min ?_ ?_ | with_reducible refine' ev_max ?_ ?_
  | with_reducible refine' et_test ?_ | with_reducible refine' et_B ?_ | with_reducible refine' et_not ?_ | with_reducible refine' et_and ?_ ?_ | with_reducible refine' et_or ?_ ?_ | exact et_yes
  | with_reducible refine' eo_some ?_ | exact eo_none | (with_reducible intro _) | rfl))
local macro_rules | `(tactic| walk_at "ev") => `(tactic| repeat' walk_at "ev1")
local macro_rules | `(tactic| walk_at "sq") => `(tactic| try dsimp only [tSeq, tNext])
local macro_rules | `(tactic| walk_at "cx") => `(tactic| try dsimp only [cxOf, Cx.nox, Cx.wish])

section
variable {P : Program} {w : World} {K : Fg} {mg : Str → Option Value} {base : Heap}
def spLoad (K : Fg) (T : List NTab) (place : Nat) (sign : Int) : Sp := fun vs H Q _ => ∃ (S : Setg) (m : Nat), ImAll K H vs [encS S, .int (m : Int)] ∧ S.Ok ∧ TabsN T H ∧ 1 ≤ m ∧ m ≤ 3 ∧
  ∀ p q way around prices v H', ExtN H H' → TabsN T H' → LR S m place sign p q way around prices → Bd p q way around → Im K H' v (encLR p q way around prices) → Q v H'
def spShows (K : Fg) (T : List NTab) (place : Nat) (sign : Int) : Sp := fun vs H Q _ => ∃ (S : Setg) (m : Nat) (p q : Int) (way around : List Int) (prices : List (Stt × Int)), ImAll K H vs [encS S, .int (m : Int), encLR p q way around prices] ∧ S.Ok ∧ TabsN T H ∧ 1 ≤ m ∧ m ≤ 3 ∧
  LR S m place sign p q way around prices ∧ Bd p q way around ∧ ∀ H', ExtN H H' → TabsN T H' → Q (.bl true) H'
abbrev s_load : Stmt := top 65
theorem sc_load : FnScope ["setting", "most"] ["setting", "most"] (defScope s_load) := ⟨rfl, rfl, rfl, by decide +kernel, rfl, by decide +kernel, by decide +kernel⟩
theorem d_load (t : Tbl mg base) (B : Bn K mg) (F_need_setting : Df P w K mg base 4 "need_setting" ["setting"] (spD K R_needS)) (F_need_most : Dfd P w K mg base 2 "need_most" ["most", "steady"] [V.int 1] (spD K R_needM)) (F_long_run : Df P w K mg base 6 "long_run" ["setting", "most", "place", "sign"] (spLong K t.T)) (F : FnP K mg "load" s_load) : Df P w K mg base 7 "load" ["setting", "most"] (spLoad K t.T 0 1) := by
  refine df_of F sc_load (fun vs H Q E h => by obtain ⟨_, _, e, _⟩ := h; exact imAll_len e) (fun _ _ _ _ _ _ us hl => match us, hl with | [_, _], _ => rfl) fun f cdv A outer s H vs Q E hr h => ?_
  refine ⟨_, (pss_cons (ps_expr (pe_df F_need_setting (hr.mono (by decide)) rfl (pa_cons (pv 0) pa_nil)))
  (pss_cons (ps_expr (pe_dfd F_need_most (hr.mono (by decide)) rfl (pa_cons (pv 1) pa_nil)))
  (pss_one (ps_ret (pe_df F_long_run (hr.mono (by decide)) rfl (pa_cons (pv 0) (pa_cons (pv 1) (pa_cons (pe_gi B.g_CAME rfl) (pa_cons pe_int pa_nil))))))))), ?_⟩
  obtain ⟨S, m, him, ok, hT, m1, m3, k⟩ := h
  have env := env_d (N := ["setting", "most"]) him
  try simp only [unpackE, unpackD, wipeD, unT, List.map_cons, List.map_nil, List.length_cons, List.length_nil, List.cons_append, List.nil_append, List.replicate_succ, List.replicate_zero, List.set_cons_succ, List.set_cons_zero, Nat.reduceAdd, Nat.reduceSub] at env
  walk_at "cx"
  walk_at "sq"
  refine st_drop (ev_needS (ev_v env rfl) ok) fun H1 x1 => ?_
  have env := env.mono (tk_of x1)
  walk_at "sq"
  refine st_drop (ev_needM (ev_v env rfl) (by omega)) fun H2 x2 => ?_
  have env := env.mono (tk_of x2)
  walk_at "sq"
  obtain ⟨v0, g0, r0⟩ := env.get (i := 0) rfl
  obtain ⟨v1, g1, r1⟩ := env.get (i := 1) rfl
  refine ⟨v0, g0, v1, g1, S, m, 0, 1, .cons r0 (.cons r1 (.cons (.int _) (.cons (.int _) .nil))), tabs_same hT (x1.trans x2), ok, m1, m3, by decide, fun p q way around prices v H' e3 T3 lr bd r => ?_⟩
  exact k p q way around prices v H' ((extN_of (x1.trans x2)).trans e3) T3 lr bd r
abbrev s_worst : Stmt := top 66
theorem sc_worst : FnScope ["setting", "most"] ["setting", "most"] (defScope s_worst) := ⟨rfl, rfl, rfl, by decide +kernel, rfl, by decide +kernel, by decide +kernel⟩
theorem d_worst (t : Tbl mg base) (B : Bn K mg) (F_need_setting : Df P w K mg base 4 "need_setting" ["setting"] (spD K R_needS)) (F_need_most : Dfd P w K mg base 2 "need_most" ["most", "steady"] [V.int 1] (spD K R_needM)) (F_long_run : Df P w K mg base 6 "long_run" ["setting", "most", "place", "sign"] (spLong K t.T)) (F : FnP K mg "worst" s_worst) : Df P w K mg base 7 "worst" ["setting", "most"] (spLoad K t.T 1 (-1)) := by
  refine df_of F sc_worst (fun vs H Q E h => by obtain ⟨_, _, e, _⟩ := h; exact imAll_len e) (fun _ _ _ _ _ _ us hl => match us, hl with | [_, _], _ => rfl) fun f cdv A outer s H vs Q E hr h => ?_
  refine ⟨_, (pss_cons (ps_expr (pe_df F_need_setting (hr.mono (by decide)) rfl (pa_cons (pv 0) pa_nil)))
  (pss_cons (ps_expr (pe_dfd F_need_most (hr.mono (by decide)) rfl (pa_cons (pv 1) pa_nil)))
  (pss_one (ps_ret (pe_df F_long_run (hr.mono (by decide)) rfl (pa_cons (pv 0) (pa_cons (pv 1) (pa_cons (pe_gi B.g_ANSWERED rfl) (pa_cons (pe_un un_neg pe_int) pa_nil))))))))), ?_⟩
  obtain ⟨S, m, him, ok, hT, m1, m3, k⟩ := h
  have env := env_d (N := ["setting", "most"]) him
  try simp only [unpackE, unpackD, wipeD, unT, List.map_cons, List.map_nil, List.length_cons, List.length_nil, List.cons_append, List.nil_append, List.replicate_succ, List.replicate_zero, List.set_cons_succ, List.set_cons_zero, Nat.reduceAdd, Nat.reduceSub] at env
  walk_at "cx"
  walk_at "sq"
  refine st_drop (ev_needS (ev_v env rfl) ok) fun H1 x1 => ?_
  have env := env.mono (tk_of x1)
  walk_at "sq"
  refine st_drop (ev_needM (ev_v env rfl) (by omega)) fun H2 x2 => ?_
  have env := env.mono (tk_of x2)
  walk_at "sq"
  obtain ⟨v0, g0, r0⟩ := env.get (i := 0) rfl
  obtain ⟨v1, g1, r1⟩ := env.get (i := 1) rfl
  refine ⟨v0, g0, v1, g1, _, rfl, S, m, 1, (-1), .cons r0 (.cons r1 (.cons (.int _) (.cons (.int _) .nil))), tabs_same hT (x1.trans x2), ok, m1, m3, by decide, fun p q way around prices v H' e3 T3 lr bd r => ?_⟩
  exact k p q way around prices v H' ((extN_of (x1.trans x2)).trans e3) T3 lr bd r
abbrev s_shows_load : Stmt := top 67
theorem sc_shows_load : FnScope ["setting", "most", "thing"] ["setting", "most", "thing"] (defScope s_shows_load) := ⟨rfl, rfl, rfl, by decide +kernel, rfl, by decide +kernel, by decide +kernel⟩
theorem d_shows_load (t : Tbl mg base) (B : Bn K mg) (F_need_setting : Df P w K mg base 4 "need_setting" ["setting"] (spD K R_needS)) (F_need_most : Dfd P w K mg base 2 "need_most" ["most", "steady"] [V.int 1] (spD K R_needM)) (F_is_long_run : Df P w K mg base 7 "is_long_run" ["setting", "most", "place", "sign", "thing"] (spIsLong K t.T)) (F : FnP K mg "shows_load" s_shows_load) : Df P w K mg base 8 "shows_load" ["setting", "most", "thing"] (spShows K t.T 0 1) := by
  refine df_of F sc_shows_load (fun vs H Q E h => by obtain ⟨_, _, _, _, _, _, _, e, _⟩ := h; exact imAll_len e) (fun _ _ _ _ _ _ us hl => match us, hl with | [_, _, _], _ => rfl) fun f cdv A outer s H vs Q E hr h => ?_
  refine ⟨_, (pss_cons (ps_expr (pe_df F_need_setting (hr.mono (by decide)) rfl (pa_cons (pv 0) pa_nil)))
  (pss_cons (ps_expr (pe_dfd F_need_most (hr.mono (by decide)) rfl (pa_cons (pv 1) pa_nil)))
  (pss_one (ps_ret (pe_df F_is_long_run (hr.mono (by decide)) rfl (pa_cons (pv 0) (pa_cons (pv 1) (pa_cons (pe_gi B.g_CAME rfl) (pa_cons pe_int (pa_cons (pv 2) pa_nil)))))))))), ?_⟩
  obtain ⟨S, m, p, q, way, around, prices, him, ok, hT, m1, m3, lr, bd, k⟩ := h
  have env := env_d (N := ["setting", "most", "thing"]) him
  try simp only [unpackE, unpackD, wipeD, unT, List.map_cons, List.map_nil, List.length_cons, List.length_nil, List.cons_append, List.nil_append, List.replicate_succ, List.replicate_zero, List.set_cons_succ, List.set_cons_zero, Nat.reduceAdd, Nat.reduceSub] at env
  walk_at "cx"
  walk_at "sq"
  refine st_drop (ev_needS (ev_v env rfl) ok) fun H1 x1 => ?_
  have env := env.mono (tk_of x1)
  walk_at "sq"
  refine st_drop (ev_needM (ev_v env rfl) (by omega)) fun H2 x2 => ?_
  have env := env.mono (tk_of x2)
  walk_at "sq"
  obtain ⟨v0, g0, r0⟩ := env.get (i := 0) rfl
  obtain ⟨v1, g1, r1⟩ := env.get (i := 1) rfl
  obtain ⟨v2, g2, r2⟩ := env.get (i := 2) rfl
  refine ⟨v0, g0, v1, g1, v2, g2, S, m, 0, 1, p, q, way, around, prices, .cons r0 (.cons r1 (.cons (.int _) (.cons (.int _) (.cons r2 .nil)))), ok, tabs_same hT (x1.trans x2), m3, by decide, lr, bd, fun H' e3 T3 => ?_⟩
  exact k H' ((extN_of (x1.trans x2)).trans e3) T3
abbrev s_shows_worst : Stmt := top 68
theorem sc_shows_worst : FnScope ["setting", "most", "thing"] ["setting", "most", "thing"] (defScope s_shows_worst) := ⟨rfl, rfl, rfl, by decide +kernel, rfl, by decide +kernel, by decide +kernel⟩
theorem d_shows_worst (t : Tbl mg base) (B : Bn K mg) (F_need_setting : Df P w K mg base 4 "need_setting" ["setting"] (spD K R_needS)) (F_need_most : Dfd P w K mg base 2 "need_most" ["most", "steady"] [V.int 1] (spD K R_needM)) (F_is_long_run : Df P w K mg base 7 "is_long_run" ["setting", "most", "place", "sign", "thing"] (spIsLong K t.T)) (F : FnP K mg "shows_worst" s_shows_worst) : Df P w K mg base 8 "shows_worst" ["setting", "most", "thing"] (spShows K t.T 1 (-1)) := by
  refine df_of F sc_shows_worst (fun vs H Q E h => by obtain ⟨_, _, _, _, _, _, _, e, _⟩ := h; exact imAll_len e) (fun _ _ _ _ _ _ us hl => match us, hl with | [_, _, _], _ => rfl) fun f cdv A outer s H vs Q E hr h => ?_
  refine ⟨_, (pss_cons (ps_expr (pe_df F_need_setting (hr.mono (by decide)) rfl (pa_cons (pv 0) pa_nil)))
  (pss_cons (ps_expr (pe_dfd F_need_most (hr.mono (by decide)) rfl (pa_cons (pv 1) pa_nil)))
  (pss_one (ps_ret (pe_df F_is_long_run (hr.mono (by decide)) rfl (pa_cons (pv 0) (pa_cons (pv 1) (pa_cons (pe_gi B.g_ANSWERED rfl) (pa_cons (pe_un un_neg pe_int) (pa_cons (pv 2) pa_nil)))))))))), ?_⟩
  obtain ⟨S, m, p, q, way, around, prices, him, ok, hT, m1, m3, lr, bd, k⟩ := h
  have env := env_d (N := ["setting", "most", "thing"]) him
  try simp only [unpackE, unpackD, wipeD, unT, List.map_cons, List.map_nil, List.length_cons, List.length_nil, List.cons_append, List.nil_append, List.replicate_succ, List.replicate_zero, List.set_cons_succ, List.set_cons_zero, Nat.reduceAdd, Nat.reduceSub] at env
  walk_at "cx"
  walk_at "sq"
  refine st_drop (ev_needS (ev_v env rfl) ok) fun H1 x1 => ?_
  have env := env.mono (tk_of x1)
  walk_at "sq"
  refine st_drop (ev_needM (ev_v env rfl) (by omega)) fun H2 x2 => ?_
  have env := env.mono (tk_of x2)
  walk_at "sq"
  obtain ⟨v0, g0, r0⟩ := env.get (i := 0) rfl
  obtain ⟨v1, g1, r1⟩ := env.get (i := 1) rfl
  obtain ⟨v2, g2, r2⟩ := env.get (i := 2) rfl
  refine ⟨v0, g0, v1, g1, _, rfl, v2, g2, S, m, 1, (-1), p, q, way, around, prices, .cons r0 (.cons r1 (.cons (.int _) (.cons (.int _) (.cons r2 .nil)))), ok, tabs_same hT (x1.trans x2), m3, by decide, lr, bd, fun H' e3 T3 => ?_⟩
  exact k H' ((extN_of (x1.trans x2)).trans e3) T3
end
end CB

/-! ## KB19 -/
set_option Elab.async false
set_option linter.all false
set_option maxRecDepth 100000
set_option maxHeartbeats 4000000
/-! _law_cell_at, _law_pen, _law_draw, _law_pick. -/
namespace CB
open PySem PySem.Spec PyProof.Rows L2
local macro_rules | `(tactic| walk_at "ev1") => `(tactic| (first
  | exact ev_i | exact ev_b | exact ev_n | exact ev_s | exact ev_v (by assumption) rfl | exact ea_n
  | refine' ea_c ?_ ?_ | with_reducible refine' ev_ixT ?_ ?_ ?_ | with_reducible refine' ev_ixTl ?_ ?_ ?_
  | with_reducible refine' ev_add ?_ ?_ | with_reducible refine' ev_sub ?_ ?_
  | with_reducible refine' ev_lt ?_ ?_ | with_reducible refine' ev_le ?_ ?_ | with_reducible refine' ev_gt ?_ ?_ | with_reducible refine' ev_ge ?_ ?_
  | with_reducible refine' ev_eqI ?_ ?_ | with_reducible refine' ev_neI ?_ ?_ | with_reducible refine' ev_eqS ?_ ?_
  | with_reducible refine' ev_isN ?_ | with_reducible refine' ev_notN ?_ | with_reducible refine' ev_chain ?_ ?_ ?_ | with_reducible refine' ev_neg ?_
  | with_reducible refine' is_ii ?_ | with_reducible refine' is_ib ?_ | with_reducible refine' is_bb ?_ | with_reducible refine' is_ss ?_ | with_reducible refine' is_tt ?_
  | with_reducible refine' ev_andV ?_ ?_ | with_reducible refine' ev_orV ?_ ?_ | with_reducible refine' ev_notV ?_
  | with_reducible refine' ev_lenT ?_ | with_reducible refine' ev_min ?_ ?_ | with_reducible refine' ev_max ?_ ?_
  | with_reducible refine' et_test ?_ | with_reducible refine' et_B ?_ | with_reducible refine' et_not ?_ | with_reducible refine' et_and ?_ ?_ | with_reducible refine' et_or ?_ ?_ | exact et_yes
  | with_reducible refine' eo_some ?_ | exact eo_none | (with_reducible intro _) | rfl))
local macro_rules | `(tactic| walk_at "ev") => `(tactic| repeat' walk_at "ev1")
local macro_rules | `(tactic| walk_at "sq") => `(tactic| try dsimp only [tSeq, tNext])
local macro_rules | `(tactic| walk_at "cx") => `(tactic| try dsimp only [cxOf, Cx.nox, Cx.wish])

/-- the pen: three ints that change; n: a bound on the third -/
structure Pen (H : Hp) (l : Addr) (n : Int) : Prop where
  ex : ∃ a b c : Int, H l = some (.lst [.int a, .int b, .int c]) ∧ 0 ≤ a ∧ 0 ≤ b ∧ b < 1000000007 ∧ 0 ≤ c ∧ c ≤ n
/-- all but l stays -/
def But (l : Addr) (H H' : Hp) : Prop := ∀ b o, b ≠ l → H b = some o → H' b = some o
theorem But.refl (l : Addr) (H : Hp) : But l H H := fun _ _ _ e => e
theorem But.trans {l : Addr} {A B C : Hp} (x : But l A B) (y : But l B C) : But l A C := fun b o n e => y b o n (x b o n e)
theorem But.of {l : Addr} {A B : Hp} (x : Same A B) : But l A B := fun b o _ e => x b o e
theorem But.upd {l : Addr} {H : Hp} {o : HO} : But l H (upd H l o) := fun b u n e => by rw [upd_ne n]; exact e
theorem Pen.mono {H H' : Hp} {l : Addr} {n : Int} (p : Pen H l n) (x : Same H H') : Pen H' l n := let ⟨a, b, c, h, r⟩ := p.ex; ⟨a, b, c, x _ _ h, r⟩
theorem Pen.le {H : Hp} {l : Addr} {n m : Int} (p : Pen H l n) (h : n ≤ m) : Pen H l m := let ⟨a, b, c, g, r1, r2, r3, r4, r5⟩ := p.ex; ⟨a, b, c, g, r1, r2, r3, r4, Int.le_trans r5 h⟩
theorem But.tk {l : Addr} {H H' : Hp} {n : Int} (x : But l H H') (p : Pen H l n) : Tk H H' := fun a xs r => by
  obtain ⟨a0, b0, c0, h, _⟩ := p.ex
  have ne : a ≠ l := fun e => by
    subst e
    rcases r with r | ⟨ob, r⟩
    · rw [h] at r; cases r
    · rw [h] at r; cases r
  rcases r with r | ⟨ob, r⟩
  · exact (x a _ ne r).trans r.symm
  · exact (x a _ ne r).trans r.symm
section
variable {P : Program} {w : World} {K : Fg} {mg : Str → Option Value} {base : Heap}
abbrev s_law_cell_at : Stmt := top 70
theorem sc_law_cell_at : FnScope ["_law_script", "_law_k"] ["_law_script", "_law_k"] (defScope s_law_cell_at) := ⟨rfl, rfl, rfl, by decide +kernel, rfl, by decide +kernel, by decide +kernel⟩
def spCell (K : Fg) : Sp := fun vs H Q _ => ∃ (l : Addr) (ns : List Int) (k : Nat), EnAll K H [.rf l, .im (.int (k : Int))] vs ∧ SqL K H l (ns.map V.int) ∧ ∀ H' i, Same H H' → Q (.int i) H'
theorem d_law_cell_at (B : Bn K mg) (F : FnP K mg "_law_cell_at" s_law_cell_at) : Df P w K mg base 1 "_law_cell_at" ["_law_script", "_law_k"] (spCell K) := by
  refine df_of F sc_law_cell_at (fun vs H Q E h => by obtain ⟨_, _, _, e, _⟩ := h; exact (enAll_len e).symm) (fun _ _ _ _ _ _ us hl => match us, hl with | [_, _], _ => rfl) fun f cdv A outer s H vs Q E hr h => ?_
  refine ⟨_, (pss_cons (ps_if (pt_cmpR op_lt (pv 1) (pe_callB c_len rfl B.len bt_len (pa_cons (pv 0) pa_nil)) (nomark _)) (pss_one (ps_ret (pe_ix ix_list (pv 0) (pv 1) (fun _ _ => rfl)))) pss_nil)
  (pss_one (ps_ret pe_int))), ?_⟩
  obtain ⟨l, ns, k, hen, hl, q⟩ := h
  have env := env_start (N := ["_law_script", "_law_k"]) hen
  try simp only [unpackE, unpackD, wipeD, unT, List.map_cons, List.map_nil, List.length_cons, List.length_nil, List.cons_append, List.nil_append, List.replicate_succ, List.replicate_zero, List.set_cons_succ, List.set_cons_zero, Nat.reduceAdd, Nat.reduceSub] at env
  walk_at "cx"
  walk_at "sq"
  refine st_if env (b := decide (k < ns.length)) (EvT.is (et_test (ev_lt (ev_v env rfl) (ev_lenL hl (ev_v env rfl)))) ?_) (fun h H1 x1 env => ?_) fun h H1 x1 env => ?_
  · rw [List.length_map]
    exact decide_eq_decide.mpr (by omega)
  · have h : k < ns.length := of_decide_eq_true h
    walk_at "sq"
    exact st_retD (ev_ixL (n := k) (d := .int ns[k]) (x1.seq hl) (ints_imAll ns) (ev_v env rfl) (ev_v env rfl) (by rw [List.getElem?_map, List.getElem?_eq_getElem h]; rfl)) fun v H2 x2 r => by rw [im_int r]; exact q _ _ (x1.trans x2)
  · walk_at "sq"
    exact q _ 0 x1
abbrev s_law_pen : Stmt := top 71
theorem sc_law_pen : FnScope ["_law_cell"] ["_law_cell"] (defScope s_law_pen) := ⟨rfl, rfl, rfl, by decide +kernel, rfl, by decide +kernel, by decide +kernel⟩
def spPen (K : Fg) : Sp := fun vs H Q _ => ∃ i : Int, ImAll K H vs [.int i] ∧ ∀ l H', Same H H' → H l = none → Pen H' l 0 → Q (.ref l) H'
theorem d_law_pen (B : Bn K mg) (F : FnP K mg "_law_pen" s_law_pen) : Df P w K mg base 1 "_law_pen" ["_law_cell"] (spPen K) := by
  refine df_of F sc_law_pen (fun vs H Q E h => by obtain ⟨_, e, _⟩ := h; exact imAll_len e) (fun _ _ _ _ _ _ us hl => match us, hl with | [_], _ => rfl) fun f cdv A outer s H vs Q E hr h => ?_
  refine ⟨_, (pss_one (ps_ret (pe_lst (pa_cons (pe_callB (c_max rfl) rfl B.max bt_max (pa_cons pe_int (pa_cons (pe_op op_sub (pv 0) (pe_op op_pow pe_int pe_int)) pa_nil))) (pa_cons (pe_op op_mod (pv 0) pe_int) (pa_cons pe_int pa_nil)))))), ?_⟩
  obtain ⟨i, him, q⟩ := h
  have env := env_d (N := ["_law_cell"]) him
  try simp only [unpackE, unpackD, wipeD, unT, List.map_cons, List.map_nil, List.length_cons, List.length_nil, List.cons_append, List.nil_append, List.replicate_succ, List.replicate_zero, List.set_cons_succ, List.set_cons_zero, Nat.reduceAdd, Nat.reduceSub] at env
  walk_at "cx"
  walk_at "sq"
  have e := el_lst (ds := [.int _, .int _, .int 0]) (ea_c (ev_max (ev_i (i := 0)) (ev_sub (ev_v env (i := 0) rfl) (ev_pow (ev_i (i := 10)) (ev_i (i := 18)) ⟨by decide, by decide, by decide⟩))) (ea_c (ev_mod (ev_v env (i := 0) rfl) (ev_i (i := 1000000007)) (by decide)) (ea_c (ev_i (i := 0)) ea_n))) (by show 3 ≤ sizeLine; decide)
  refine e H (Same.refl _) _ fun l xs H1 x1 nl hl hx => q l H1 x1 nl ?_
  cases hx with
  | cons r1 hx =>
  cases hx with
  | cons r2 hx =>
  cases hx with
  | cons r3 hx =>
  cases hx
  rw [im_int r1, im_int r2, im_int r3] at hl
  exact ⟨_, _, _, hl, Int.le_max_left _ _, Int.emod_nonneg _ (by decide), Int.emod_lt_of_pos _ (by decide), Int.le_refl _, Int.le_refl _⟩
abbrev s_law_draw : Stmt := top 72
theorem sc_law_draw : FnScope ["_law_pen_here", "_law_many", "_law_digit", "_law_stir"] ["_law_pen_here", "_law_many"] (defScope s_law_draw) := ⟨rfl, rfl, rfl, by decide +kernel, rfl, by decide +kernel, by decide +kernel⟩
def spDraw (K : Fg) : Sp := fun vs H Q _ => ∃ (l : Addr) (n k : Int), EnAll K H [.rf l, .im (.int k)] vs ∧ Pen H l n ∧ n ≤ 10000 ∧ 1 ≤ k ∧ k ≤ 10000 ∧ ∀ i H', 0 ≤ i → i < k → But l H H' → Pen H' l (n + 1) → Q (.int i) H'
theorem d_law_draw (B : Bn K mg) (F : FnP K mg "_law_draw" s_law_draw) : Df P w K mg base 1 "_law_draw" ["_law_pen_here", "_law_many"] (spDraw K) := by
  refine df_of F sc_law_draw (fun vs H Q E h => by obtain ⟨_, _, _, e, _⟩ := h; exact (enAll_len e).symm) (fun _ _ _ _ _ _ us hl => match us, hl with | [_, _], _ => rfl) fun f cdv A outer s H vs Q E hr h => ?_
  refine ⟨_, (pss_cons (ps_if (pt_cmpR op_gt (pe_ix ix_list (pv 0) pe_int (fun _ _ => rfl)) pe_int (nomark _)) (pss_cons (ps_set (i := 2) sc_law_draw.nd rfl (by first | exact Or.inl rfl | exact Or.inr rfl) (pe_op op_mod (pe_ix ix_list (pv 0) pe_int (fun _ _ => rfl)) (pv 1)))
  (pss_cons (ps_asg (pe_op op_fdiv (pe_ix ix_list (pv 0) pe_int (fun _ _ => rfl)) (pv 1)) (pg_sub (pv 0) pe_int set_list))
  (pss_one (ps_ret (pv 2))))) pss_nil)
  (pss_cons (ps_asg (pe_op op_add (pe_ix ix_list (pv 0) pe_int (fun _ _ => rfl)) pe_int) (pg_sub (pv 0) pe_int set_list))
  (pss_cons (ps_set (i := 3) sc_law_draw.nd rfl (by first | exact Or.inl rfl | exact Or.inr rfl) (pe_op op_mod (pe_op op_mul (pe_op op_add (pe_ix ix_list (pv 0) pe_int (fun _ _ => rfl)) (pe_op op_mul pe_int (pe_ix ix_list (pv 0) pe_int (fun _ _ => rfl)))) (pe_op op_add pe_int (pe_op op_mul pe_int (pe_ix ix_list (pv 0) pe_int (fun _ _ => rfl))))) pe_int))
  (pss_cons (ps_set (i := 3) sc_law_draw.nd rfl (by first | exact Or.inl rfl | exact Or.inr rfl) (pe_op op_mod (pe_op op_add (pe_op op_add (pe_op op_mul (pv 3) (pv 3)) (pe_op op_mul pe_int (pe_ix ix_list (pv 0) pe_int (fun _ _ => rfl)))) pe_int) pe_int))
  (pss_one (ps_ret (pe_op op_mod (pe_op op_fdiv (pe_op op_mod (pe_op op_mul (pv 3) pe_int) pe_int) pe_int) (pv 1)))))))), ?_⟩
  obtain ⟨l, n, k, hen, ⟨a, b, c, hl, a0, b0, b1, c0, c1⟩, hn, k1, k2, q⟩ := h
  have env := env_start (N := ["_law_pen_here", "_law_many", "_law_digit", "_law_stir"]) hen
  try simp only [unpackE, unpackD, wipeD, unT, List.map_cons, List.map_nil, List.length_cons, List.length_nil, List.cons_append, List.nil_append, List.replicate_succ, List.replicate_zero, List.set_cons_succ, List.set_cons_zero, Nat.reduceAdd, Nat.reduceSub] at env
  walk_at "cx"
  walk_at "sq"
  have ix : ∀ {s' : L2.St} {H' : Hp} {x y z : Int} {ta tb : TE} (j : Nat) {d : Int}, H' l = some (.lst [.int x, .int y, .int z]) → EvE K s' H' ta (.rf l) → EvE K s' H' tb (.im (.int (j : Int))) → [x, y, z][j]? = some d → EvE K s' H' (tOp (rIxL K) ta tb) (.im (.int d)) := fun {s' H' x y z ta tb} j {d} h1 h2 h3 h4 =>
    ev_ixL (n := j) (SqL.of h1) (ints_imAll [x, y, z]) h2 h3 (by rw [List.getElem?_map, h4]; rfl)
  refine st_if env (b := decide (0 < a)) (EvT.is (et_test (ev_gt (ix 0 hl (ev_v env rfl) ev_i rfl) ev_i)) rfl) (fun h H1 x1 env => ?_) fun h H1 x1 env => ?_
  · have h : 0 < a := of_decide_eq_true h
    walk_at "sq"
    refine st_set env (en := .im (.int (a % k))) (ev_mod (ix 0 (x1 _ _ hl) (ev_v env rfl) ev_i rfl) (ev_v env rfl) (by omega)) fun _ H2 x2 _ env => ?_
    try simp only [unpackE, unpackD, wipeD, unT, List.map_cons, List.map_nil, List.length_cons, List.length_nil, List.cons_append, List.nil_append, List.replicate_succ, List.replicate_zero, List.set_cons_succ, List.set_cons_zero, Nat.reduceAdd, Nat.reduceSub] at env
    walk_at "sq"
    have hl2 := x2 _ _ (x1 _ _ hl)
    refine st_setix (n := 0) (en := .im (.int (a / k))) hl2 (ev_fdiv (ix 0 hl2 (ev_v env rfl) ev_i rfl) (ev_v env rfl) ⟨by omega, by omega⟩) (ev_v env rfl) ev_i (by show 0 < 3; decide) fun v H3 x3 rv => ?_
    have hl3 := x3 _ _ hl2
    have pn : Pen (upd H3 l (.lst ([V.int a, .int b, .int c].set 0 v))) l (n + 1) := ⟨a / k, b, c, by rw [im_int rv]; exact upd_same, Int.ediv_nonneg a0 (by omega), b0, b1, c0, by omega⟩
    have bt : But l H (upd H3 l (.lst ([V.int a, .int b, .int c].set 0 v))) := (But.of (x1.trans (x2.trans x3))).trans But.upd
    have env := env.mono ((tk_of x3).trans (tk_lst (u := .lst ([V.int a, .int b, .int c].set 0 v)) hl3))
    walk_at "sq"
    exact st_retD (ev_v env rfl) fun v' H4 x4 r => by rw [im_int r]; exact q _ _ (Int.emod_nonneg _ (by omega)) (Int.emod_lt_of_pos _ (by omega)) (bt.trans (But.of x4)) (pn.mono x4)
  · walk_at "sq"
    have hl1 := x1 _ _ hl
    refine st_setix (n := 2) (en := .im (.int (c + 1))) hl1 (ev_add (ix 2 hl1 (ev_v env rfl) ev_i rfl) ev_i) (ev_v env rfl) ev_i (by show 2 < 3; decide) fun v H2 x2 rv => ?_
    have hl2 := x2 _ _ hl1
    obtain rfl := im_int rv
    have e3 : upd H2 l (.lst ([V.int a, .int b, .int c].set 2 (.int (c + 1)))) l = some (.lst [.int a, .int b, .int (c + 1)]) := upd_same
    have env := env.mono ((tk_of x2).trans (tk_lst (u := .lst ([V.int a, .int b, .int c].set 2 (.int (c + 1)))) hl2))
    have bt : But l H (upd H2 l (.lst ([V.int a, .int b, .int c].set 2 (.int (c + 1))))) := (But.of (x1.trans x2)).trans But.upd
    generalize upd H2 l (.lst ([V.int a, .int b, .int c].set 2 (.int (c + 1)))) = H3 at e3 env bt ⊢
    have pn : Pen H3 l (n + 1) := ⟨a, b, c + 1, e3, a0, b0, b1, by omega, by omega⟩
    walk_at "sq"
    refine st_set env (en := .im (.int ((b + 17 * (c + 1)) * (69621 + 2 * (c + 1)) % 2147483647))) (ev_mod (ev_mul (ev_add (ix 1 e3 (ev_v env rfl) ev_i rfl) (ev_mul ev_i (ix 2 e3 (ev_v env rfl) ev_i rfl) (.inl (by decide)))) (ev_add ev_i (ev_mul ev_i (ix 2 e3 (ev_v env rfl) ev_i rfl) (.inl (by decide)))) (.inl (by omega))) (ev_i (i := 2147483647)) (by decide)) fun _ H4 x4 _ env => ?_
    try simp only [unpackE, unpackD, wipeD, unT, List.map_cons, List.map_nil, List.length_cons, List.length_nil, List.cons_append, List.nil_append, List.replicate_succ, List.replicate_zero, List.set_cons_succ, List.set_cons_zero, Nat.reduceAdd, Nat.reduceSub] at env
    walk_at "sq"
    have e4 := x4 _ _ e3
    have m0 : 0 ≤ (b + 17 * (c + 1)) * (69621 + 2 * (c + 1)) % 2147483647 := Int.emod_nonneg _ (by decide)
    have m1 : (b + 17 * (c + 1)) * (69621 + 2 * (c + 1)) % 2147483647 < 2147483647 := Int.emod_lt_of_pos _ (by decide)
    generalize (b + 17 * (c + 1)) * (69621 + 2 * (c + 1)) % 2147483647 = y at env m0 m1
    refine st_set env (en := .im (.int ((y * y + 40503 * (c + 1) + 5) % 2147483629))) (ev_mod (ev_add (ev_add (ev_mul (ev_v env rfl) (ev_v env rfl) (.inl (by omega))) (ev_mul ev_i (ix 2 e4 (ev_v env rfl) ev_i rfl) (.inl (by decide)))) ev_i) (ev_i (i := 2147483629)) (by decide)) fun _ H5 x5 _ env => ?_
    try simp only [unpackE, unpackD, wipeD, unT, List.map_cons, List.map_nil, List.length_cons, List.length_nil, List.cons_append, List.nil_append, List.replicate_succ, List.replicate_zero, List.set_cons_succ, List.set_cons_zero, Nat.reduceAdd, Nat.reduceSub] at env
    walk_at "sq"
    have z0 : 0 ≤ (y * y + 40503 * (c + 1) + 5) % 2147483629 := Int.emod_nonneg _ (by decide)
    have z1 : (y * y + 40503 * (c + 1) + 5) % 2147483629 < 2147483629 := Int.emod_lt_of_pos _ (by decide)
    generalize (y * y + 40503 * (c + 1) + 5) % 2147483629 = z at env z0 z1
    exact st_retD (d := .int (z * 48271 % 2147483647 / 32 % k)) (ev_mod (ev_fdiv (ev_mod (ev_mul (ev_v env rfl) ev_i (.inl (by omega))) (ev_i (i := 2147483647)) (by decide)) (ev_i (i := 32)) ⟨by decide, by decide⟩) (ev_v env rfl) (by omega)) fun v' H6 x6 r => by rw [im_int r]; exact q _ _ (Int.emod_nonneg _ (by omega)) (Int.emod_lt_of_pos _ (by omega)) (bt.trans (But.of (x4.trans (x5.trans x6)))) (pn.mono (x4.trans (x5.trans x6)))
end
end CB

/-! ## KB20 -/
set_option Elab.async false
set_option linter.all false
set_option maxRecDepth 100000
set_option maxHeartbeats 4000000
/-! _law_pick, _law_small. -/
namespace CB
open PySem PySem.Spec PyProof.Rows L2
local macro_rules | `(tactic| walk_at "ev1") => `(tactic| (first
  | exact ev_i | exact ev_b | exact ev_n | exact ev_s | exact ev_v (by assumption) rfl | exact ea_n
  | refine' ea_c ?_ ?_ | with_reducible refine' ev_ixT ?_ ?_ ?_ | with_reducible refine' ev_ixTl ?_ ?_ ?_
  | with_reducible refine' ev_add ?_ ?_ | with_reducible refine' ev_sub ?_ ?_
  | with_reducible refine' ev_lt ?_ ?_ | with_reducible refine' ev_le ?_ ?_ | with_reducible refine' ev_gt ?_ ?_ | with_reducible refine' ev_ge ?_ ?_
  | with_reducible refine' ev_eqI ?_ ?_ | with_reducible refine' ev_neI ?_ ?_ | with_reducible refine' ev_eqS ?_ ?_
  | with_reducible refine' ev_isN ?_ | with_reducible refine' ev_notN ?_ | with_reducible refine' ev_chain ?_ ?_ ?_ | with_reducible refine' ev_neg ?_
  | with_reducible refine' is_ii ?_ | with_reducible refine' is_ib ?_ | with_reducible refine' is_bb ?_ | with_reducible refine' is_ss ?_ | with_reducible refine' is_tt ?_
  | with_reducible refine' ev_andV ?_ ?_ | with_reducible refine' ev_orV ?_ ?_ | with_reducible refine' ev_notV ?_
  | with_reducible refine' ev_lenT ?_ | with_reducible refine' ev_min ?_ ?_ | with_reducible refine' ev_max ?_ ?_
  | with_reducible refine' et_test ?_ | with_reducible refine' et_B ?_ | with_reducible refine' et_not ?_ | with_reducible refine' et_and ?_ ?_ | with_reducible refine' et_or ?_ ?_ | exact et_yes
  | with_reducible refine' eo_some ?_ | exact eo_none | (with_reducible intro _) | rfl))
local macro_rules | `(tactic| walk_at "ev") => `(tactic| repeat' walk_at "ev1")
local macro_rules | `(tactic| walk_at "sq") => `(tactic| try dsimp only [tSeq, tNext])
local macro_rules | `(tactic| walk_at "cx") => `(tactic| try dsimp only [cxOf, Cx.nox, Cx.wish])

section
variable {P : Program} {w : World} {K : Fg} {mg : Str → Option Value} {base : Heap}
abbrev s_law_pick : Stmt := top 73
theorem sc_law_pick : FnScope ["_law_pen_here", "_law_things"] ["_law_pen_here", "_law_things"] (defScope s_law_pick) := ⟨rfl, rfl, rfl, by decide +kernel, rfl, by decide +kernel, by decide +kernel⟩
def spPick (K : Fg) : Sp := fun vs H Q _ => ∃ (l lt : Addr) (n : Int) (xs : List V) (ds : List PyData), EnAll K H [.rf l, .rf lt] vs ∧ Pen H l n ∧ n ≤ 10000 ∧ lt ≠ l ∧ H lt = some (.lst xs) ∧ ImAll K H xs ds ∧ 1 ≤ ds.length ∧ ds.length ≤ 100 ∧ ∀ d v H', d ∈ ds → But l H H' → Pen H' l (n + 1) → Im K H' v d → Q v H'
theorem d_law_pick (B : Bn K mg) (F_law_draw : Df P w K mg base 1 "_law_draw" ["_law_pen_here", "_law_many"] (spDraw K)) (F : FnP K mg "_law_pick" s_law_pick) : Df P w K mg base 2 "_law_pick" ["_law_pen_here", "_law_things"] (spPick K) := by
  refine df_of F sc_law_pick (fun vs H Q E h => by obtain ⟨_, _, _, _, _, e, _⟩ := h; exact (enAll_len e).symm) (fun _ _ _ _ _ _ us hl => match us, hl with | [_, _], _ => rfl) fun f cdv A outer s H vs Q E hr h => ?_
  refine ⟨_, (pss_one (ps_ret (pe_ix ix_list (pv 1) (pe_df F_law_draw (hr.mono (by decide)) rfl (pa_cons (pv 0) (pa_cons (pe_callB c_len rfl B.len bt_len (pa_cons (pv 1) pa_nil)) pa_nil))) (fun _ _ => rfl)))), ?_⟩
  obtain ⟨l, lt, n, xs, ds, hen, pn, hn, hne, hlt, him, d1, d2, q⟩ := h
  have env := env_start (N := ["_law_pen_here", "_law_things"]) hen
  try simp only [unpackE, unpackD, wipeD, unT, List.map_cons, List.map_nil, List.length_cons, List.length_nil, List.cons_append, List.nil_append, List.replicate_succ, List.replicate_zero, List.set_cons_succ, List.set_cons_zero, Nat.reduceAdd, Nat.reduceSub] at env
  walk_at "cx"
  obtain ⟨v0, g0, r0⟩ := env.get (i := 0) rfl
  obtain ⟨v1, g1, r1⟩ := env.get (i := 1) rfl
  obtain rfl : v0 = V.ref l := r0
  obtain rfl : v1 = V.ref lt := r1
  refine ⟨_, g1, _, g0, ?_⟩
  refine ev_lenL (SqL.of hlt) (ev_v env (i := 1) rfl) H (Same.refl _) _ fun vn H1 x1 rn => ?_
  have el := imAll_len him
  refine ⟨l, n, (xs.length : Int), .cons rfl (.cons rn .nil), pn.mono x1, hn, by omega, by omega, fun i H2 i0 ik bt pn2 => ?_⟩
  obtain ⟨k, rfl⟩ := Int.eq_ofNat_of_zero_le i0
  have hk : k < xs.length := by omega
  have bt := (But.of x1).trans bt
  have h2 := bt lt _ hne hlt
  have tk : Tk H H2 := bt.tk pn
  obtain ⟨d, e1, e2⟩ := imAll_get' him (List.getElem?_eq_getElem hk)
  exact ⟨lt, xs, k, _, rfl, rfl, SqL.of h2, atI_nat (List.getElem?_eq_getElem hk), q d _ H2 (List.mem_of_getElem? e1) bt pn2 (Im.mono tk e2)⟩
end
/-! ### expressions that use the pen at l; j: how often -/
section
variable {K : Fg} {l : Addr} {s : L2.St} {H : Hp} {c : Dn} {D : Ends} {ta tb : TE} {j k : Int} {Pa Pb : PyData → Prop}
def EvP (K : Fg) (l : Addr) (s : L2.St) (H : Hp) (te : TE) (j : Int) (Pd : PyData → Prop) : Prop := ∀ (n : Int) (H1 : Hp), But l H H1 → Tk H H1 → Pen H1 l n → n + j ≤ 5000 → ∀ Q : VK, (∀ d v H2, Pd d → But l H1 H2 → Pen H2 l (n + j) → Im K H2 v d → Q v H2) → te s H1 Q
def PI (p : Int → Prop) : PyData → Prop := fun d => ∃ i, d = .int i ∧ p i
theorem ep_im {d : PyData} (h : ∀ H1, Tk H H1 → EvE K s H1 ta (.im d)) : EvP K l s H ta 0 (fun x => x = d) := fun n H1 _ tk pn _ Q q => h H1 tk H1 (Same.refl _) _ fun v H2 x2 r => q d v H2 rfl (But.of x2) (by rw [Int.add_zero]; exact pn.mono x2) r
theorem ep_i {i : Int} : EvP K l s H (tC (.int i)) 0 (PI (· = i)) := fun n H1 _ _ pn _ Q q => q (.int i) _ H1 ⟨i, rfl, rfl⟩ (But.refl _ _) (by rw [Int.add_zero]; exact pn) (.int i)
theorem ep_vi {i : Nat} {x : Int} (env : EnvD K H s c) (hi : c[i]? = some (some (.im (.int x)))) : EvP K l s H (tVar i) 0 (PI (· = x)) := fun n H1 _ tk pn _ Q q => ev_v (env.mono tk) hi H1 (Same.refl _) _ fun v H2 x2 r => q _ v H2 ⟨x, rfl, rfl⟩ (But.of x2) (by rw [Int.add_zero]; exact pn.mono x2) r
theorem ep_draw {k : Int} (env : EnvD K H s c) (h0 : c[0]? = some (some (.rf l))) (k1 : 1 ≤ k) (k2 : k ≤ 10000) : EvP K l s H (tCall (spDraw K) [] E0 (tCons (tVar 0) (tCons (tC (.int k)) tNil))) 1 (PI fun i => 0 ≤ i ∧ i < k) := fun n H1 _ _ pn hn Q q => by
  obtain ⟨v0, g0, r0⟩ := env.get h0
  obtain rfl : v0 = V.ref l := r0
  exact ⟨_, g0, l, n, k, .cons rfl (.cons (.int k) .nil), pn, by omega, k1, k2, fun i H' i0 ik bt pn2 => q _ _ H' ⟨i, rfl, i0, ik⟩ bt pn2 (.int i)⟩
theorem EvP.mono {Pb : PyData → Prop} (h : EvP K l s H ta j Pa) (p : ∀ d, Pa d → Pb d) : EvP K l s H ta j Pb := fun n H1 b tk pn hn Q q => h n H1 b tk pn hn Q fun d v H2 hp => q d v H2 (p d hp)
theorem ep_two {Q : V → V → Hp → Prop} {n : Int} {H1 : Hp} (j0 : 0 ≤ j) (k0 : 0 ≤ k) (ha : EvP K l s H ta j Pa) (hb : EvP K l s H tb k Pb) (b : But l H H1) (tk : Tk H H1) (pn : Pen H1 l n) (hn : n + j + k ≤ 5000)
    (q : ∀ d e v u H2, Pa d → Pb e → But l H1 H2 → Pen H2 l (n + j + k) → Im K H2 v d → Im K H2 u e → Q v u H2) : ta s H1 fun v H2 => tb s H2 fun u H3 => Q v u H3 :=
  ha n H1 b tk pn (by omega) _ fun d v H2 pd b2 pn2 rv => hb (n + j) H2 (b.trans b2) (tk.trans (b2.tk pn)) pn2 hn _ fun e u H3 pe b3 pn3 ru => q d e v u H3 pd pe (b2.trans b3) pn3 (Im.mono (b3.tk pn2) rv) ru
theorem ep_add {p p' : Int → Prop} (j0 : 0 ≤ j) (k0 : 0 ≤ k) (ha : EvP K l s H ta j (PI p)) (hb : EvP K l s H tb k (PI p')) : EvP K l s H (tOp (rI0 fun i j => .int (i + j)) ta tb) (j + k) (PI fun z => ∃ x y, z = x + y ∧ p x ∧ p' y) := fun n H1 b tk pn hn Q q =>
  ep_two j0 k0 ha hb b tk pn (by omega) fun d e v u H2 ⟨x, hx, px⟩ ⟨y, hy, py⟩ b2 pn2 rv ru => by
    subst hx hy
    exact ⟨x, y, im_int rv, im_int ru, q (.int (x + y)) _ H2 ⟨x + y, rfl, x, y, rfl, px, py⟩ b2 (by rw [← Int.add_assoc]; exact pn2) (.int _)⟩
theorem ep_tup2 (j0 : 0 ≤ j) (k0 : 0 ≤ k) (ha : EvP K l s H ta j Pa) (hb : EvP K l s H tb k Pb) : EvP K l s H (tTup (tCons ta (tCons tb tNil))) (j + k) (fun d => ∃ x y, d = .tuple [x, y] ∧ Pa x ∧ Pb y) := fun n H1 b tk pn hn Q q =>
  ep_two (Q := fun v u H2 => ([v, u] : List V).length ≤ sizeLine ∧ ∀ p, H2 p = none → Q (.ref p) (upd H2 p (.tup [v, u]))) j0 k0 ha hb b tk pn (by omega) fun d e v u H2 pd pe b2 pn2 rv ru => by
    refine ⟨by show 2 ≤ sizeLine; decide, fun p np => ?_⟩
    have t := tk_of (same_new (o := .tup [v, u]) np)
    exact q _ _ _ ⟨d, e, rfl, pd, pe⟩ (b2.trans (But.of (same_new np))) (by rw [← Int.add_assoc]; exact pn2.mono (same_new np)) (.tup (SqT.of upd_same) (.cons (Im.mono t rv) (.cons (Im.mono t ru) .nil)))
theorem ep_tup1 (ha : EvP K l s H ta j Pa) : EvP K l s H (tTup (tCons ta tNil)) j (fun d => ∃ x, d = .tuple [x] ∧ Pa x) := fun n H1 b tk pn hn Q q =>
  ha n H1 b tk pn hn _ fun d v H2 pd b2 pn2 rv => by
    refine ⟨by show 1 ≤ sizeLine; decide, fun p np => ?_⟩
    have t := tk_of (same_new (o := .tup [v]) np)
    exact q _ _ _ ⟨d, rfl, pd⟩ (b2.trans (But.of (same_new np))) (pn2.mono (same_new np)) (.tup (SqT.of upd_same) (.cons (Im.mono t rv) .nil))
theorem ep_gt {p : Int → Prop} (j0 : 0 ≤ j) (ha : EvP K l s H ta j (PI p)) {i : Int} : EvP K l s H (tOp (rI0 fun i j => .bl (decide (j < i))) ta (tC (.int i))) j (fun d => ∃ b, d = .bool b) := fun n H1 b tk pn hn Q q =>
  ep_two (Pb := PI (· = i)) (k := 0) j0 (Int.le_refl _) ha ep_i b tk pn (by omega) fun d e v u H2 ⟨x, hx, px⟩ ⟨y, hy, py⟩ b2 pn2 rv ru => by
    subst hx hy
    exact ⟨x, y, im_int rv, im_int ru, q (.bool _) _ H2 ⟨_, rfl⟩ b2 (by rw [Int.add_zero] at pn2; exact pn2) (.bl _)⟩
theorem ep_pick {ts : TA} {ds : List PyData} (env : EnvD K H s c) (h0 : c[0]? = some (some (.rf l))) (hl : ∀ H1, Tk H H1 → EvA K s H1 ts (ds.map .im)) (d1 : 1 ≤ ds.length) (d2 : ds.length ≤ 100) : EvP K l s H (tCall (spPick K) [] E0 (tCons (tVar 0) (tCons (tLst ts) tNil))) 1 (· ∈ ds) := fun n H1 _ tk pn hn Q q => by
  obtain ⟨v0, g0, r0⟩ := env.get h0
  obtain rfl : v0 = V.ref l := r0
  refine ⟨_, g0, el_lst (hl H1 tk) (by rw [sizeLine_eq]; omega) H1 (Same.refl _) _ fun p xs H2 x2 np hp him => ?_⟩
  have hne : p ≠ l := fun e => by
    obtain ⟨a, b, c, h, _⟩ := pn.ex
    rw [e, h] at np
    cases np
  exact ⟨l, p, n, xs, ds, .cons rfl (.cons rfl .nil), pn.mono x2, by omega, hne, hp, him, d1, d2, fun d v H' hd bt pn2 r => q d v H' hd ((But.of x2).trans bt) pn2 r⟩
theorem ep_cat {ds : List PyData} (ha : ∀ H1, Tk H H1 → EvE K s H1 ta (.im (.tuple ds))) (k0 : 0 ≤ k) (hb : EvP K l s H tb k (fun d => ∃ x, d = .tuple [x] ∧ Pb x)) (hz : ds.length ≤ 100) : EvP K l s H (tOp (rCatA K) ta tb) k (fun d => ∃ x, d = .tuple (ds ++ [x]) ∧ Pb x) := fun n H1 b tk pn hn Q q =>
  ep_two (j := 0) (Int.le_refl _) k0 (ep_im ha) hb b tk pn (by omega) fun d e v u H2 hd ⟨x, hx, px⟩ b2 pn2 rv ru => by
    subst hd hx
    have c1 : EvE K s H2 (tC v) (.im (.tuple ds)) := fun H3 x3 Q q => q v H3 (Same.refl _) (Im.mono (tk_of x3) rv)
    have c2 : EvE K s H2 (tC u) (.im (.tuple [x])) := fun H3 x3 Q q => q u H3 (Same.refl _) (Im.mono (tk_of x3) ru)
    exact ev_cat c1 c2 (by rw [sizeLine_eq]; show ds.length + 1 ≤ _; omega) H2 (Same.refl _) Q fun z H3 x3 rz => q _ z H3 ⟨x, rfl, px⟩ (b2.trans (But.of x3)) (by rw [Int.add_zero] at pn2; exact pn2.mono x3) rz
theorem st_parP {i i2 : Nat} {n : Int} (env : EnvD K H s c) (j0 : 0 ≤ j) (k0 : 0 ≤ k) (ha : EvP K l s H ta j Pa) (hb : EvP K l s H tb k Pb) (pn : Pen H l n) (hn : n + j + k ≤ 5000)
    (q : ∀ d e s' H', Pa d → Pb e → But l H H' → Pen H' l (n + j + k) → EnvD K H' s' ((c.set i (some (.im d))).set i2 (some (.im e))) → D.nx s' H') : tPar i i2 (tCons ta (tCons tb tNil)) D s H :=
  ep_two (Q := fun v u H2 => ∃ x y, ([v, u] : List V) = [x, y] ∧ D.nx ((s.set i (some x)).set i2 (some y)) H2) j0 k0 ha hb (But.refl _ _) (Tk.refl _) pn hn fun d e v u H2 pd pe b2 pn2 rv ru => ⟨v, u, rfl, q d e _ H2 pd pe b2 pn2 (((env.mono (b2.tk pn)).set (e := .im d) rv i).set (e := .im e) ru i2)⟩
theorem st_setP {i : Nat} {n : Int} (env : EnvD K H s c) (ha : EvP K l s H ta j Pa) (pn : Pen H l n) (hn : n + j ≤ 5000) (q : ∀ d s' H', Pa d → But l H H' → Pen H' l (n + j) → EnvD K H' s' (c.set i (some (.im d))) → D.nx s' H') : tAsg ta (gName i) D s H :=
  ha n H (But.refl _ _) (Tk.refl _) pn hn _ fun d v H2 pd b2 pn2 rv => q d _ H2 pd b2 pn2 ((env.mono (b2.tk pn)).set (e := .im d) rv i)
end
section
variable {P : Program} {w : World} {K : Fg} {mg : Str → Option Value} {base : Heap}
abbrev s_law_small : Stmt := top 74
theorem sc_law_small : FnScope ["_law_pen_here", "_law_work", "_law_patience", "_law_room", "_law_tries", "_law_way", "_law_dead", "_law_tokens", "_law_trip", "_law_found"] ["_law_pen_here"] (defScope s_law_small) := ⟨rfl, rfl, rfl, by decide +kernel, rfl, by decide +kernel, by decide +kernel⟩
def spSmall (K : Fg) : Sp := fun vs H Q _ => ∃ (l : Addr) (n : Int), EnAll K H [.rf l] vs ∧ Pen H l n ∧ n ≤ 4000 ∧ ∀ S v H', But l H H' → Pen H' l (n + 20) → Setg.Ok S → Im K H' v (encS S) → Q v H'
theorem d_law_small (B : Bn K mg) (F_law_draw : Df P w K mg base 1 "_law_draw" ["_law_pen_here", "_law_many"] (spDraw K)) (F_law_pick : Df P w K mg base 2 "_law_pick" ["_law_pen_here", "_law_things"] (spPick K)) (F : FnP K mg "_law_small" s_law_small) : Df P w K mg base 3 "_law_small" ["_law_pen_here"] (spSmall K) := by
  refine df_of F sc_law_small (fun vs H Q E h => by obtain ⟨_, _, e, _⟩ := h; exact (enAll_len e).symm) (fun _ _ _ _ _ _ us hl => match us, hl with | [_], _ => rfl) fun f cdv A outer s H vs Q E hr h => ?_
  refine ⟨_, (pss_cons (ps_par (i := 1) (j := 2) rfl sc_law_small.nd rfl rfl (by decide) rfl rfl (pa_cons (pe_op op_add pe_int (pe_df F_law_draw (hr.mono (by decide)) rfl (pa_cons (pv 0) (pa_cons pe_int pa_nil)))) (pa_cons (pe_op op_add pe_int (pe_df F_law_draw (hr.mono (by decide)) rfl (pa_cons (pv 0) (pa_cons pe_int pa_nil)))) pa_nil)) (by rfl))
  (pss_cons (ps_par (i := 3) (j := 4) rfl sc_law_small.nd rfl rfl (by decide) rfl rfl (pa_cons (pe_op op_add (pv 1) (pe_df F_law_draw (hr.mono (by decide)) rfl (pa_cons (pv 0) (pa_cons pe_int pa_nil)))) (pa_cons (pe_df F_law_pick (hr.mono (by decide)) rfl (pa_cons (pv 0) (pa_cons (pe_lst (pa_cons pe_int (pa_cons pe_int (pa_cons pe_int (pa_cons pe_int pa_nil))))) pa_nil))) pa_nil)) (by rfl))
  (pss_cons (ps_par (i := 5) (j := 6) rfl sc_law_small.nd rfl rfl (by decide) rfl rfl (pa_cons (pe_df F_law_pick (hr.mono (by decide)) rfl (pa_cons (pv 0) (pa_cons (pe_lst (pa_cons pe_str (pa_cons pe_str (pa_cons pe_str pa_nil)))) pa_nil))) (pa_cons (pe_cmpR op_gt (pe_df F_law_draw (hr.mono (by decide)) rfl (pa_cons (pv 0) (pa_cons pe_int pa_nil))) pe_int (nomark _)) pa_nil)) (by rfl))
  (pss_cons (ps_set (i := 7) sc_law_small.nd rfl (by first | exact Or.inl rfl | exact Or.inr rfl) (pe_df F_law_pick (hr.mono (by decide)) rfl (pa_cons (pv 0) (pa_cons (pe_lst (pa_cons pe_non (pa_cons pe_non (pa_cons pe_non (pa_cons pe_int (pa_cons pe_int (pa_cons pe_int pa_nil))))))) pa_nil))))
  (pss_cons (ps_set (i := 8) sc_law_small.nd rfl (by first | exact Or.inl rfl | exact Or.inr rfl) (pe_tup (pa_cons (pe_op op_add pe_int (pe_df F_law_draw (hr.mono (by decide)) rfl (pa_cons (pv 0) (pa_cons pe_int pa_nil)))) (pa_cons (pe_op op_add pe_int (pe_df F_law_draw (hr.mono (by decide)) rfl (pa_cons (pv 0) (pa_cons pe_int pa_nil)))) pa_nil))))
  (pss_cons (ps_set (i := 9) sc_law_small.nd rfl (by first | exact Or.inl rfl | exact Or.inr rfl) (pe_tup (pa_cons (pv 1) (pa_cons (pv 3) (pa_cons (pv 2) (pa_cons (pv 4) (pa_cons pe_int (pa_cons (pv 5) (pa_cons (pv 6) (pa_cons (pv 7) pa_nil))))))))))
  (pss_one (ps_ret (pe_op op_catA (pv 9) (pe_tup (pa_cons (pe_df F_law_pick (hr.mono (by decide)) rfl (pa_cons (pv 0) (pa_cons (pe_lst (pa_cons pe_non (pa_cons pe_non (pa_cons pe_non (pa_cons (pv 8) pa_nil))))) pa_nil))) pa_nil))))))))))), ?_⟩
  obtain ⟨l, n, hen, pn, hn, q⟩ := h
  have env := env_start (N := ["_law_pen_here", "_law_work", "_law_patience", "_law_room", "_law_tries", "_law_way", "_law_dead", "_law_tokens", "_law_trip", "_law_found"]) hen
  try simp only [unpackE, unpackD, wipeD, unT, List.map_cons, List.map_nil, List.length_cons, List.length_nil, List.cons_append, List.nil_append, List.replicate_succ, List.replicate_zero, List.set_cons_succ, List.set_cons_zero, Nat.reduceAdd, Nat.reduceSub] at env
  walk_at "cx"
  walk_at "sq"
  refine st_parP env (by decide) (by decide) (ep_add (by decide) (by decide) ep_i (ep_draw env rfl (by decide) (by decide))) (ep_add (by decide) (by decide) ep_i (ep_draw env rfl (by decide) (by decide))) pn (by omega) fun d e s1 H1 ⟨wk, hd, i1, x1, h1, h2, h3⟩ ⟨pa, he, i2, x2, h4, h5, h6⟩ b1 pn env => ?_
  subst hd he
  try simp only [unpackE, unpackD, wipeD, unT, List.map_cons, List.map_nil, List.length_cons, List.length_nil, List.cons_append, List.nil_append, List.replicate_succ, List.replicate_zero, List.set_cons_succ, List.set_cons_zero, Nat.reduceAdd, Nat.reduceSub] at env
  walk_at "sq"
  refine st_parP env (by decide) (by decide) (ep_add (by decide) (by decide) (ep_vi env rfl) (ep_draw env rfl (by decide) (by decide))) (ep_pick (ds := [.int 1, .int 2, .int 2, .int 2]) env rfl (fun H1 _ => ea_c ev_i (ea_c ev_i (ea_c ev_i (ea_c ev_i ea_n)))) (by decide) (by decide)) pn (by omega) fun d e s2 H2 ⟨rm, hd, i3, x3, h7, h8, h9⟩ htr b2 pn env => ?_
  subst hd
  try simp only [unpackE, unpackD, wipeD, unT, List.map_cons, List.map_nil, List.length_cons, List.length_nil, List.cons_append, List.nil_append, List.replicate_succ, List.replicate_zero, List.set_cons_succ, List.set_cons_zero, Nat.reduceAdd, Nat.reduceSub] at env
  walk_at "sq"
  refine st_parP env (by decide) (by decide) (ep_pick (ds := [.str "oldest", .str "oldest", .str "newest"]) env rfl (fun H1 _ => ea_c ev_s (ea_c ev_s (ea_c ev_s ea_n))) (by decide) (by decide)) (ep_gt (by decide) (ep_draw env rfl (by decide) (by decide))) pn (by omega) fun wd e s3 H3 hwd ⟨dead, he⟩ b3 pn env => ?_
  subst he
  try simp only [unpackE, unpackD, wipeD, unT, List.map_cons, List.map_nil, List.length_cons, List.length_nil, List.cons_append, List.nil_append, List.replicate_succ, List.replicate_zero, List.set_cons_succ, List.set_cons_zero, Nat.reduceAdd, Nat.reduceSub] at env
  walk_at "sq"
  refine st_setP env (ep_pick (ds := [.none, .none, .none, .int 0, .int 1, .int 2]) env rfl (fun H1 _ => ea_c ev_n (ea_c ev_n (ea_c ev_n (ea_c ev_i (ea_c ev_i (ea_c ev_i ea_n)))))) (by decide) (by decide)) pn (by omega) fun td s4 H4 htd b4 pn env => ?_
  try simp only [unpackE, unpackD, wipeD, unT, List.map_cons, List.map_nil, List.length_cons, List.length_nil, List.cons_append, List.nil_append, List.replicate_succ, List.replicate_zero, List.set_cons_succ, List.set_cons_zero, Nat.reduceAdd, Nat.reduceSub] at env
  walk_at "sq"
  refine st_setP env (ep_tup2 (by decide) (by decide) (ep_add (by decide) (by decide) ep_i (ep_draw env rfl (by decide) (by decide))) (ep_add (by decide) (by decide) ep_i (ep_draw env rfl (by decide) (by decide)))) pn (by omega) fun fd s5 H5 ⟨fx, fy, hfd, ⟨fa, ha, i5, x5, g1, g2, g3⟩, ⟨fb, hb, i6, x6, g4, g5, g6⟩⟩ b5 pn env => ?_
  subst hfd ha hb
  try simp only [unpackE, unpackD, wipeD, unT, List.map_cons, List.map_nil, List.length_cons, List.length_nil, List.cons_append, List.nil_append, List.replicate_succ, List.replicate_zero, List.set_cons_succ, List.set_cons_zero, Nat.reduceAdd, Nat.reduceSub] at env
  walk_at "sq"
  obtain ⟨newest, rfl⟩ : ∃ b, wd = .str (wayS b) := by
    rcases List.mem_cons.mp hwd with e | hwd
    · exact ⟨false, e⟩
    rcases List.mem_cons.mp hwd with e | hwd
    · exact ⟨false, e⟩
    · exact ⟨true, List.mem_singleton.mp hwd⟩
  obtain ⟨tr, rfl, tr1, tr2⟩ : ∃ i : Int, e = .int i ∧ 1 ≤ i ∧ i ≤ 2 := by
    rcases List.mem_cons.mp htr with e | htr
    · exact ⟨1, e, by decide, by decide⟩
    rcases List.mem_cons.mp htr with e | htr
    · exact ⟨2, e, by decide, by decide⟩
    rcases List.mem_cons.mp htr with e | htr
    · exact ⟨2, e, by decide, by decide⟩
    · exact ⟨2, List.mem_singleton.mp htr, by decide, by decide⟩
  obtain ⟨tokens, rfl, htk⟩ : ∃ o : Option Int, td = encO o ∧ ∀ t, o = some t → 0 ≤ t ∧ t ≤ 2 := by
    rcases List.mem_cons.mp htd with e | htd
    · exact ⟨none, e, fun t h => by cases h⟩
    rcases List.mem_cons.mp htd with e | htd
    · exact ⟨none, e, fun t h => by cases h⟩
    rcases List.mem_cons.mp htd with e | htd
    · exact ⟨none, e, fun t h => by cases h⟩
    rcases List.mem_cons.mp htd with e | htd
    · exact ⟨some 0, e, fun t h => by cases h; decide⟩
    rcases List.mem_cons.mp htd with e | htd
    · exact ⟨some 1, e, fun t h => by cases h; decide⟩
    · exact ⟨some 2, List.mem_singleton.mp htd, fun t h => by cases h; decide⟩
  refine st_set env (en := .im (.tuple [.int wk, .int rm, .int pa, .int tr, .int 1, .str (wayS newest), .bool dead, encO tokens])) (ev_tup (ds := [.int wk, .int rm, .int pa, .int tr, .int 1, .str (wayS newest), .bool dead, encO tokens]) (ea_c (ev_v env rfl) (ea_c (ev_v env rfl) (ea_c (ev_v env rfl) (ea_c (ev_v env rfl) (ea_c ev_i (ea_c (ev_v env rfl) (ea_c (ev_v env rfl) (ea_c (ev_v env rfl) ea_n)))))))) (by show 8 ≤ sizeLine; decide)) fun _ H6 x6 _ env => ?_
  try simp only [unpackE, unpackD, wipeD, unT, List.map_cons, List.map_nil, List.length_cons, List.length_nil, List.cons_append, List.nil_append, List.replicate_succ, List.replicate_zero, List.set_cons_succ, List.set_cons_zero, Nat.reduceAdd, Nat.reduceSub] at env
  walk_at "sq"
  have pn := pn.mono x6
  refine ep_cat (ds := [.int wk, .int rm, .int pa, .int tr, .int 1, .str (wayS newest), .bool dead, encO tokens]) (fun H1 tk => ev_v (env.mono tk) rfl) (by decide) (ep_tup1 (ep_pick (ds := [.none, .none, .none, .tuple [.int fa, .int fb]]) env rfl (fun H1 tk => ea_c ev_n (ea_c ev_n (ea_c ev_n (ea_c (ev_v (env.mono tk) rfl) ea_n)))) (by show 1 ≤ 4; decide) (by show 4 ≤ 100; decide))) (by show 8 ≤ 100; decide) _ H6 (But.refl _ _) (Tk.refl _) pn (by omega) _ fun dd v H7 ⟨x, hx, hf⟩ b7 pn r => ?_
  subst hx
  obtain ⟨fuse, rfl, hfu⟩ : ∃ o : Option (Int × Int), x = encF o ∧ ∀ a b, o = some (a, b) → a = fa ∧ b = fb := by
    rcases List.mem_cons.mp hf with e | hf
    · exact ⟨none, e, fun a b h => by cases h⟩
    rcases List.mem_cons.mp hf with e | hf
    · exact ⟨none, e, fun a b h => by cases h⟩
    rcases List.mem_cons.mp hf with e | hf
    · exact ⟨none, e, fun a b h => by cases h⟩
    · exact ⟨some (fa, fb), List.mem_singleton.mp hf, fun a b h => by cases h; exact ⟨rfl, rfl⟩⟩
  refine q ⟨wk, rm, pa, tr, newest, dead, tokens, fuse⟩ v H7 (b1.trans (b2.trans (b3.trans (b4.trans (b5.trans ((But.of x6).trans b7)))))) (pn.le (by omega)) ⟨?_, ?_, ?_, ?_, ?_, ?_, tr1, tr2, htk, fun a b hab => ?_⟩ r
  · show 1 ≤ wk; omega
  · show wk ≤ 2; omega
  · show 1 ≤ pa; omega
  · show pa ≤ 2; omega
  · show wk ≤ rm; omega
  · show rm ≤ wk + 2; omega
  · obtain ⟨rfl, rfl⟩ := hfu a b hab
    omega
end
end CB

/-! ## KB21 -/
set_option Elab.async false
set_option linter.all false
set_option maxRecDepth 100000
set_option maxHeartbeats 4000000
/-! _law_round_right, _law_bounded. -/
namespace CB
open PySem PySem.Spec PyProof.Rows L2
local macro_rules | `(tactic| walk_at "ev1") => `(tactic| (first
  | exact ev_i | exact ev_b | exact ev_n | exact ev_s | exact ev_v (by assumption) rfl | exact ea_n
  | refine' ea_c ?_ ?_ | with_reducible refine' ev_ixT ?_ ?_ ?_ | with_reducible refine' ev_ixTl ?_ ?_ ?_
  | with_reducible refine' ev_add ?_ ?_ | with_reducible refine' ev_sub ?_ ?_
  | with_reducible refine' ev_lt ?_ ?_ | with_reducible refine' ev_le ?_ ?_ | with_reducible refine' ev_gt ?_ ?_ | with_reducible refine' ev_ge ?_ ?_
  | with_reducible refine' ev_eqI ?_ ?_ | with_reducible refine' ev_neI ?_ ?_ | with_reducible refine' ev_eqS ?_ ?_
  | with_reducible refine' ev_isN ?_ | with_reducible refine' ev_notN ?_ | with_reducible refine' ev_chain ?_ ?_ ?_ | with_reducible refine' ev_neg ?_
  | with_reducible refine' is_ii ?_ | with_reducible refine' is_ib ?_ | with_reducible refine' is_bb ?_ | with_reducible refine' is_ss ?_ | with_reducible refine' is_tt ?_
  | with_reducible refine' ev_andV ?_ ?_ | with_reducible refine' ev_orV ?_ ?_ | with_reducible refine' ev_notV ?_
  | with_reducible refine' ev_lenT ?_ | with_reducible refine' ev_min ?_ ?_ | with_reducible refine' ev_max ?_ ?_
  | with_reducible refine' et_test ?_ | with_reducible refine' et_B ?_ | with_reducible refine' et_not ?_ | with_reducible refine' et_and ?_ ?_ | with_reducible refine' et_or ?_ ?_ | exact et_yes
  | with_reducible refine' eo_some ?_ | exact eo_none | (with_reducible intro _) | rfl))
local macro_rules | `(tactic| walk_at "ev") => `(tactic| repeat' walk_at "ev1")
local macro_rules | `(tactic| walk_at "sq") => `(tactic| try dsimp only [tSeq, tNext])
local macro_rules | `(tactic| walk_at "cx") => `(tactic| try dsimp only [cxOf, Cx.nox, Cx.wish])

section
variable {P : Program} {w : World} {K : Fg} {mg : Str → Option Value} {base : Heap}
theorem st_unLR {s : L2.St} {H : Hp} {c : Dn} {D : Ends} {te : TE} {i1 i2 i3 i4 i5 : Nat} {p q : Int} {way around : List Int} {prices : List (Stt × Int)} (env : EnvD K H s c) (h : EvE K s H te (.im (encLR p q way around prices)))
    (k : ∀ s' H1, Same H H1 → EnvD K H1 s' (((((c.set i1 (some (.im (.int p)))).set i2 (some (.im (.int q)))).set i3 (some (.im (encI way)))).set i4 (some (.im (encI around)))).set i5 (some (.im (encPs prices)))) → D.nx s' H1) :
    tAsg te (gTup K 4 (gCons (gTup K 2 (gCons (gName i1) (gCons (gName i2) gNil))) (gCons (gName i3) (gCons (gName i4) (gCons (gName i5) gNil))))) D s H :=
  h H (Same.refl _) _ fun v H1 x1 r => by
    obtain ⟨a, xs, rfl, f2, f3⟩ := im_tup r
    cases f3 with
    | cons r1 f3 =>
    cases f3 with
    | cons r2 f3 =>
    cases f3 with
    | cons r3 f3 =>
    cases f3 with
    | cons r4 f3 =>
    cases f3
    obtain ⟨a', xs', rfl, g2, g3⟩ := im_tup r1
    cases g3 with
    | cons r5 g3 =>
    cases g3 with
    | cons r6 g3 =>
    cases g3
    exact ⟨a, _, rfl, f2, rfl, _, _, rfl, ⟨a', _, rfl, g2, rfl, _, _, rfl, _, _, rfl, rfl, _, _, rfl, _, _, rfl, _, _, rfl, rfl, k _ H1 x1 ((((((env.mono (tk_of x1)).set (e := .im (.int p)) r5 i1).set (e := .im (.int q)) r6 i2).set (e := .im (encI way)) r2 i3).set (e := .im (encI around)) r3 i4).set (e := .im (encPs prices)) r4 i5)⟩⟩
theorem tot_end (S : Setg) (t : Stt) (r : List Int) : ((sumsM S t r).map PyData.int ++ [encT (endM S t r)])[6]? = some (encT (endM S t r)) := by
  unfold sumsM
  rfl
theorem tot_get (S : Setg) (t : Stt) (r : List Int) {k : Nat} (h : k < 6) : ((sumsM S t r).map PyData.int ++ [encT (endM S t r)])[k]? = some (.int (sumM S k t r)) := by
  unfold sumsM
  match k, h with
  | 0, _ | 1, _ | 2, _ | 3, _ | 4, _ | 5, _ => rfl
abbrev s_law_round_right : Stmt := top 76
theorem sc_law_round_right : FnScope ["_law_setting", "_law_told", "_law_at", "_law_p", "_law_q", "_law_way", "_law_around", "_law_prices", "_law_first", "_law_here", "_law_sums"] ["_law_setting", "_law_told", "_law_at"] (defScope s_law_round_right) := ⟨rfl, rfl, rfl, by decide +kernel, rfl, by decide +kernel, by decide +kernel⟩
def R_rr : List PyData → PyData → Prop := fun ds d => ∃ (S : Setg) (m place : Nat) (sign p q : Int) (way around : List Int) (prices : List (Stt × Int)), ds = [encS S, encLR p q way around prices, .int (place : Int)] ∧ (S.Ok ∧ LR S m place sign p q way around prices ∧ Bd p q way around ∧ (place = 0 ∨ place = 1) ∧ m ≤ 3) ∧ d = .bool true
theorem d_law_round_right (B : Bn K mg) (F_first_state : Df P w K mg base 5 "first_state" ["setting"] (spD K R_first)) (F_totals : Df P w K mg base 6 "totals" ["setting", "state", "row"] (spD K R_totals)) (F : FnP K mg "_law_round_right" s_law_round_right) : Df P w K mg base 7 "_law_round_right" ["_law_setting", "_law_told", "_law_at"] (spD K R_rr) := by
  refine df_of F sc_law_round_right (spD_len fun ds d h => by obtain ⟨_, _, _, _, _, _, _, _, _, e, _⟩ := h; rw [e]; rfl) (fun _ _ _ _ _ _ us hl => match us, hl with | [_, _, _], _ => rfl) fun f cdv A outer s H vs Q E hr h => ?_
  refine ⟨_, (pss_cons (ps_asg (pv 1) (pg_tup rfl (pgs_cons (pg_tup rfl (pgs_cons (pg_name (i := 3) sc_law_round_right.nd rfl (by first | exact Or.inl rfl | exact Or.inr rfl)) (pgs_cons (pg_name (i := 4) sc_law_round_right.nd rfl (by first | exact Or.inl rfl | exact Or.inr rfl)) pgs_nil))) (pgs_cons (pg_name (i := 5) sc_law_round_right.nd rfl (by first | exact Or.inl rfl | exact Or.inr rfl)) (pgs_cons (pg_name (i := 6) sc_law_round_right.nd rfl (by first | exact Or.inl rfl | exact Or.inr rfl)) (pgs_cons (pg_name (i := 7) sc_law_round_right.nd rfl (by first | exact Or.inl rfl | exact Or.inr rfl)) pgs_nil))))))
  (pss_cons (ps_set (i := 8) sc_law_round_right.nd rfl (by first | exact Or.inl rfl | exact Or.inr rfl) (pe_df F_first_state (hr.mono (by decide)) rfl (pa_cons (pv 0) pa_nil)))
  (pss_cons (ps_set (i := 9) sc_law_round_right.nd rfl (by first | exact Or.inl rfl | exact Or.inr rfl) (pe_ifExp (pt_cmpR op_le (pe_callB c_len rfl B.len bt_len (pa_cons (pv 5) pa_nil)) pe_int (nomark _)) (pe_ix ix_tup (pe_df F_totals (hr.mono (by decide)) rfl (pa_cons (pv 0) (pa_cons (pv 8) (pa_cons (pv 5) pa_nil)))) pe_int (fun _ _ => rfl)) pe_non))
  (pss_cons (ps_if (PW.pt (pw_or (pt_cmpR o_isN (pv 9) pe_non (nomark _)) (pw_or (pt_cmpR op_gt (pe_callB c_len rfl B.len bt_len (pa_cons (pv 6) pa_nil)) pe_int (nomark _)) (pw_or1 (pt_cmpR (op_eqD hr.units) (pv 6) (pe_tup pa_nil) (nomark _)))))) (pss_one (ps_ret (pe_or (pe_cmpR o_isN (pv 9) pe_non (nomark _)) (pe_one (pe_cmpR (op_neD hr.units) (pv 6) (pe_tup pa_nil) (nomark _)))))) pss_nil)
  (pss_cons (ps_set (i := 10) sc_law_round_right.nd rfl (by first | exact Or.inl rfl | exact Or.inr rfl) (pe_df F_totals (hr.mono (by decide)) rfl (pa_cons (pv 0) (pa_cons (pv 9) (pa_cons (pv 6) pa_nil)))))
  (pss_one (ps_ret (pe_and (pe_cmpR (op_eqD hr.units) (pe_ix ix_tup (pv 10) pe_int (fun _ _ => rfl)) (pv 9) (nomark _)) (pe_and (pe_cmpR op_gt (pe_callB (c_sumT rfl) rfl B.sum bt_sum (pa_cons (pv 6) pa_nil)) pe_int (nomark _)) (pe_one (pe_cmpR op_eq (pe_op op_mul (pe_ix ix_tup (pv 10) (pv 2) (fun _ _ => rfl)) (pv 4)) (pe_op op_mul (pv 3) (pe_callB (c_sumT rfl) rfl B.sum bt_sum (pa_cons (pv 6) pa_nil))) (nomark _)))))))))))), ?_⟩
  obtain ⟨ds, d, him, ⟨S, m, place, sign, p, q, way, around, prices, rfl, ⟨ok, lr, bd, pl, hm⟩, rfl⟩, k⟩ := h
  have env := env_d (N := ["_law_setting", "_law_told", "_law_at", "_law_p", "_law_q", "_law_way", "_law_around", "_law_prices", "_law_first", "_law_here", "_law_sums"]) him
  try simp only [unpackE, unpackD, wipeD, unT, List.map_cons, List.map_nil, List.length_cons, List.length_nil, List.cons_append, List.nil_append, List.replicate_succ, List.replicate_zero, List.set_cons_succ, List.set_cons_zero, Nat.reduceAdd, Nat.reduceSub] at env
  walk_at "cx"
  walk_at "sq"
  refine st_unLR env (ev_v env rfl) fun s1 H1 x1 env => ?_
  try simp only [unpackE, unpackD, wipeD, unT, List.map_cons, List.map_nil, List.length_cons, List.length_nil, List.cons_append, List.nil_append, List.replicate_succ, List.replicate_zero, List.set_cons_succ, List.set_cons_zero, Nat.reduceAdd, Nat.reduceSub] at env
  walk_at "sq"
  refine st_set env (en := .im (encT (firstM S))) (ev_first (ev_v env rfl) ok) fun _ H2 x2 _ env => ?_
  try simp only [unpackE, unpackD, wipeD, unT, List.map_cons, List.map_nil, List.length_cons, List.length_nil, List.cons_append, List.nil_append, List.replicate_succ, List.replicate_zero, List.set_cons_succ, List.set_cons_zero, Nat.reduceAdd, Nat.reduceSub] at env
  walk_at "sq"
  have x12 := x1.trans x2
  have wb : ∀ n, n ∈ way → 0 ≤ n ∧ n ≤ 999 := fun n hn => by have := lr.wayB n hn; omega
  have ab : ∀ n, n ∈ around → 0 ≤ n ∧ n ≤ 999 := fun n hn => by have := lr.aroundB n hn; omega
  by_cases hw : way.length ≤ 200
  · refine st_set env (en := .im (encT (endM S (firstM S) way))) (ev_if (b := true) (EvT.is (et_test (ev_le (ev_lenT (ds := way.map .int) (ev_v env rfl)) ev_i)) (by rw [List.length_map]; exact decide_eq_true (by omega))) (fun _ => ev_ixT (n := 6) (ev_totals (ev_v env rfl) (ev_v env rfl) (ev_v env rfl) ⟨ok, firstM_ok ok, wb, hw⟩) ev_i (tot_end _ _ _)) (fun z => nomatch z)) fun _ H3 x3 _ env => ?_
    try simp only [unpackE, unpackD, wipeD, unT, List.map_cons, List.map_nil, List.length_cons, List.length_nil, List.cons_append, List.nil_append, List.replicate_succ, List.replicate_zero, List.set_cons_succ, List.set_cons_zero, Nat.reduceAdd, Nat.reduceSub] at env
    walk_at "sq"
    have hne : PyData.eqv (encI around) (.tuple []) = false := by
      have := lr.ne
      cases around with
      | nil => exact absurd rfl this
      | cons a r => simp [encI, PyData.eqv, PyData.eqvAll]
    refine st_if env (b := decide (200 < around.length)) (EvT.is (et_or (et_test (ev_isN (ev_v env rfl))) fun _ => et_or (et_test (ev_gt (ev_lenT (ds := around.map .int) (ev_v env rfl)) ev_i)) fun _ => et_test (ev_eqD (ev_v env rfl) (ev_tup (ds := []) ea_n (by decide)) (sh_I _) (by rfl))) ?_) (fun hb H4 x4 env => ?_) fun hb H4 x4 env => ?_
    · rw [hne, List.length_map, Bool.or_false]
      show (false || _) = _
      rw [Bool.false_or]
      exact decide_eq_decide.mpr (by omega)
    · walk_at "sq"
      refine st_retD (EvE.is (e2 := .im (.bool true)) (ev_orV (ev_isN (ev_v env rfl)) fun _ => ev_neD (ev_v env rfl) (ev_tup (ds := []) ea_n (by decide)) (sh_I _) (by rfl)) ?_) fun v H5 x5 r => k v H5 (x12.trans (x3.trans (x4.trans x5))) r
      rw [hne]
      rfl
    · have ha : around.length ≤ 200 := by have := of_decide_eq_false hb; omega
      walk_at "sq"
      refine st_set env (en := .im (.tuple ((sumsM S (endM S (firstM S) way) around).map .int ++ [encT (endM S (endM S (firstM S) way) around)]))) (ev_totals (ev_v env rfl) (ev_v env rfl) (ev_v env rfl) ⟨ok, lr.wok ok, ab, ha⟩) fun _ H5 x5 _ env => ?_
      try simp only [unpackE, unpackD, wipeD, unT, List.map_cons, List.map_nil, List.length_cons, List.length_nil, List.cons_append, List.nil_append, List.replicate_succ, List.replicate_zero, List.set_cons_succ, List.set_cons_zero, Nat.reduceAdd, Nat.reduceSub] at env
      walk_at "sq"
      have q1 := lr.q1
      have p0 := lr.p0
      have bq := bd.q
      have bp := bd.p
      refine st_retD (EvE.is (e2 := .im (.bool true)) (ev_andV (ev_eqD (ev_ixT (n := 6) (ev_v env rfl) ev_i (tot_end _ _ _)) (ev_v env rfl) (sh_T _) (sh_T _)) fun _ => ev_andV (ev_gt (ev_sumT (ns := around) (ev_v env rfl)) ev_i) fun _ => ev_eqI (ev_mul (ev_ixT (n := place) (ev_v env rfl) (ev_v env rfl) (tot_get _ _ _ (by omega))) (ev_v env rfl) (.inr (by omega))) (ev_mul (ev_v env rfl) (ev_sumT (ns := around) (ev_v env rfl)) (.inl (by omega)))) ?_) fun v H6 x6 r => k v H6 (x12.trans (x3.trans (x4.trans (x5.trans x6)))) r
      rw [eqv_T, lr.back, decide_eq_true (rfl : endM S (firstM S) way = _), decide_eq_true (show (0 : Int) < around.sum from lr.sum), decide_eq_true (show sumM S place (endM S (firstM S) way) around * q = p * around.sum by rw [Int.mul_comm]; exact lr.bal)]
      rfl
  · refine st_set env (en := .im .none) (ev_if (b := false) (EvT.is (et_test (ev_le (ev_lenT (ds := way.map .int) (ev_v env rfl)) ev_i)) (by rw [List.length_map]; exact decide_eq_false (by omega))) (fun z => nomatch z) (fun _ => ev_n)) fun _ H3 x3 _ env => ?_
    try simp only [unpackE, unpackD, wipeD, unT, List.map_cons, List.map_nil, List.length_cons, List.length_nil, List.cons_append, List.nil_append, List.replicate_succ, List.replicate_zero, List.set_cons_succ, List.set_cons_zero, Nat.reduceAdd, Nat.reduceSub] at env
    walk_at "sq"
    refine st_if env (b := true) (EvT.is (et_or (b' := true) (et_test (ev_isN (ev_v env rfl))) fun z => nomatch z) rfl) (fun _ H4 x4 env => ?_) (fun z => nomatch z)
    walk_at "sq"
    exact st_retD (EvE.is (e2 := .im (.bool true)) (ev_orV (b' := true) (ev_isN (ev_v env rfl)) fun z => nomatch z) rfl) fun v H5 x5 r => k v H5 (x12.trans (x3.trans (x4.trans x5))) r
end
end CB

/-! ## KB22 -/
set_option Elab.async false
set_option linter.all false
set_option maxRecDepth 100000
set_option maxHeartbeats 4000000
/-! _law_bounded. -/
namespace CB
open PySem PySem.Spec PyProof.Rows L2
local macro_rules | `(tactic| walk_at "ev1") => `(tactic| (first
  | exact ev_i | exact ev_b | exact ev_n | exact ev_s | exact ev_v (by assumption) rfl | exact ea_n
  | refine' ea_c ?_ ?_ | with_reducible refine' ev_ixT ?_ ?_ ?_ | with_reducible refine' ev_ixTl ?_ ?_ ?_
  | with_reducible refine' ev_add ?_ ?_ | with_reducible refine' ev_sub ?_ ?_
  | with_reducible refine' ev_lt ?_ ?_ | with_reducible refine' ev_le ?_ ?_ | with_reducible refine' ev_gt ?_ ?_ | with_reducible refine' ev_ge ?_ ?_
  | with_reducible refine' ev_eqI ?_ ?_ | with_reducible refine' ev_neI ?_ ?_ | with_reducible refine' ev_eqS ?_ ?_
  | with_reducible refine' ev_isN ?_ | with_reducible refine' ev_notN ?_ | with_reducible refine' ev_chain ?_ ?_ ?_ | with_reducible refine' ev_neg ?_
  | with_reducible refine' is_ii ?_ | with_reducible refine' is_ib ?_ | with_reducible refine' is_bb ?_ | with_reducible refine' is_ss ?_ | with_reducible refine' is_tt ?_
  | with_reducible refine' ev_andV ?_ ?_ | with_reducible refine' ev_orV ?_ ?_ | with_reducible refine' ev_notV ?_
  | with_reducible refine' ev_lenT ?_ | with_reducible refine' ev_min ?_ ?_ | with_reducible refine' ev_max ?_ ?_
  | with_reducible refine' et_test ?_ | with_reducible refine' et_B ?_ | with_reducible refine' et_not ?_ | with_reducible refine' et_and ?_ ?_ | with_reducible refine' et_or ?_ ?_ | exact et_yes
  | with_reducible refine' eo_some ?_ | exact eo_none | (with_reducible intro _) | rfl))
local macro_rules | `(tactic| walk_at "ev") => `(tactic| repeat' walk_at "ev1")
local macro_rules | `(tactic| walk_at "sq") => `(tactic| try dsimp only [tSeq, tNext])
local macro_rules | `(tactic| walk_at "cx") => `(tactic| try dsimp only [cxOf, Cx.nox, Cx.wish])

/-- [draw(pen, k) for i in range(N)] -/
theorem ep_draws {K : Fg} {l : Addr} {s : L2.St} {H H1 : Hp} {te : TE} {i N : Nat} {k n : Int} (elt : ∀ x : Int, EvP K l ((wipe s [i]).set i (some (.int x))) H te 1 (PI fun r => 0 ≤ r ∧ r < k)) (b1 : But l H H1) (tk1 : Tk H H1) (pn : Pen H1 l n) (hN : N ≤ 1000) (hn : n + N ≤ 5000) {Q : VK}
    (q : ∀ (p : Addr) (rs : List Int) (H2 : Hp), But l H1 H2 → Pen H2 l (n + N) → H2 p = some (.lst (rs.map V.int)) → rs.length = N → (∀ r, r ∈ rs → 0 ≤ r ∧ r < k) → Q (.ref p) H2) : tLc (iRng1 (tCons (tC (.int (N : Int))) tNil)) (gName i) tYes te [i] s H1 Q := by
  refine ⟨(N : Int), rfl, by omega, by omega, fun D hD => ?_⟩
  have hDl : D ≠ l := fun e => by
    obtain ⟨a, b, c, h, _⟩ := pn.ex
    rw [e, h] at hD
    cases hD
  refine ⟨fun j m H' => m = N - j ∧ j ≤ N ∧ But l H1 H' ∧ Pen H' l (n + j) ∧ ∃ rs : List Int, H' D = some (.lst (rs.map V.int)) ∧ rs.length = j ∧ ∀ r, r ∈ rs → 0 ≤ r ∧ r < k, ⟨N, rfl, Nat.zero_le _, But.of (same_new hD), by
    show Pen _ l (n + 0)
    rw [Int.add_zero]
    exact pn.mono (same_new hD), [], upd_same, rfl, fun r h => by cases h⟩, ?_⟩
  rintro j m H' ⟨rfl, hle, bt, pj, rs, hacc, hlen, hr⟩
  by_cases hlt : j < N
  · refine Or.inr ⟨by show j < (N : Int).toNat; omega, fun H'' => j + 1 ≤ N ∧ But l H1 H'' ∧ Pen H'' l (n + (j + 1 : Nat)) ∧ ∃ rs : List Int, H'' D = some (.lst (rs.map V.int)) ∧ rs.length = j + 1 ∧ ∀ r, r ∈ rs → 0 ≤ r ∧ r < k, ?_, ?_⟩
    · rintro H'' ⟨a1, a2⟩
      exact ⟨N - (j + 1), by omega, rfl, a1, a2⟩
    · rintro x H4 ⟨rfl, rfl⟩
      refine ⟨wipe_set (by rw [List.length_set, wipe_length]) fun y hy => List.getElem?_set_ne (fun e => hy (by rw [e]; exact List.mem_singleton.mpr rfl)), ?_⟩
      refine elt _ (n + j) _ (b1.trans bt) (tk1.trans (bt.tk pn)) pj (by omega) _ fun d v H5 ⟨r, hd, r0, r1⟩ b5 p5 rv => ?_
      subst hd
      obtain rfl := im_int rv
      have h5 := b5 D _ hDl hacc
      refine ⟨rs.map V.int, h5, by rw [List.length_map, sizeLine_eq]; omega, hlt, ?_, ?_, rs ++ [r], by rw [List.map_append]; exact upd_same, by rw [List.length_append, hlen]; rfl, ?_⟩
      · intro b o hb e
        have hne : b ≠ D := ne_of_none e hD
        rw [upd_ne hne]
        exact b5 b o hb (bt b o hb e)
      · obtain ⟨a, b, c, h, r⟩ := p5.ex
        refine ⟨a, b, c, by rw [upd_ne (Ne.symm hDl)]; exact h, ?_⟩
        rw [Int.natCast_add, ← Int.add_assoc]
        exact r
      · intro z hz
        rcases List.mem_append.mp hz with hz | hz
        · exact hr z hz
        · rw [List.mem_singleton.mp hz]; exact ⟨r0, r1⟩
  · have e : j = N := by omega
    subst e
    exact Or.inl ⟨by show (j : Int).toNat ≤ j; omega, q D rs H' bt pj hacc hlen hr⟩
/-- row = tuple([draw(pen, k) for i in range(N)]) -/
theorem st_draws {K : Fg} {l : Addr} {s : L2.St} {H : Hp} {D : Ends} {te : TE} {i t N : Nat} {k n jj : Int} {vs : List Nat} (hj : jj = N) (hv : vs = [i]) (elt : ∀ x : Int, EvP K l ((wipe s [i]).set i (some (.int x))) H te 1 (PI fun r => 0 ≤ r ∧ r < k)) (pn : Pen H l n) (hN : N ≤ 1000) (hn : n + N ≤ 5000)
    (q : ∀ (p : Addr) (rs : List Int) (H2 : Hp), But l H H2 → Pen H2 l (n + N) → Im K H2 (.ref p) (encI rs) → rs.length = N → (∀ r, r ∈ rs → 0 ≤ r ∧ r < k) → D.nx (s.set t (some (.ref p))) H2) :
    tAsg (tCB (rTupOf K) (tCons (tLc (iRng1 (tCons (tC (.int jj)) tNil)) (gName i) tYes te vs) tNil)) (gName t) D s H := by
  subst hj hv
  refine ep_draws (Q := fun x H2 => tNil s H2 fun xs H3 => rTupOf K (x :: xs) H3 fun y H4 => gName t y s H4 D.nx) elt (But.refl _ _) (Tk.refl _) pn hN hn fun p rs H2 b2 pn2 hrs hlen hr => ?_
  refine ⟨p, _, rfl, .inl ⟨SqL.of hrs, fun u nu => ?_⟩⟩
  have y := same_new (o := .tup (rs.map V.int)) nu
  exact q u rs _ (b2.trans (But.of y)) (pn2.mono y) (.tup (SqT.of upd_same) (ints_imAll rs)) hlen hr
section
variable {P : Program} {w : World} {K : Fg} {mg : Str → Option Value} {base : Heap}
/-- dict(prices)[t] -/
theorem ev_dget {s : L2.St} {H : Hp} {ta ty : TE} {prices : List (Stt × Int)} {t : Stt} {y : Int} (ha : EvE K s H ta (.im (encPs prices))) (hy : EvE K s H ty (.im (encT t))) (hm : (t, y) ∈ prices) (nd : (prices.map Prod.fst).Nodup) (hl : prices.length ≤ 2000) :
    EvE K s H (tSGet P w K (tCB (rDictS P w K) (tCons ta tNil)) ty) (.im (.int y)) := fun H1 x1 Q q =>
  ha H1 x1 _ fun v H2 x2 r => by
    have r : Im K H2 v (.dict (prices.map encE)) := r
    obtain ⟨a, rfl⟩ : ∃ a, v = V.ref a := by
      cases r with
      | ptp h hd hs => exact ⟨_, rfl⟩
    refine ⟨a, prices.map encE, rfl, r, by rw [List.length_map, sizeLine_eq]; omega, fun z hz => ?_, encE_keys nd, fun d kvs H3 x3 _ hd he => ?_⟩
    · obtain ⟨z', _, rfl⟩ := List.mem_map.mp hz
      exact ⟨ky_T z'.1, _, rfl⟩
    · refine hy H3 ((x1.trans x2).trans x3) _ fun u H4 x4 ru => ?_
      obtain ⟨b, xs, rfl, _, _⟩ := im_tup ru
      obtain ⟨e, m, k, w'⟩ := he.has (encE (t, y)) (List.mem_map.mpr ⟨_, hm, rfl⟩)
      refine ⟨d, b, kvs, e, rfl, rfl, hd.mono x4, by rw [k]; exact ru, m, ?_⟩
      rw [im_int w']
      exact q _ H4 ((x2.trans x3).trans x4) (.int y)
abbrev s_law_bounded : Stmt := top 77
theorem sc_law_bounded : FnScope ["_law_pen_here", "_law_setting", "_law_most", "_law_told", "_law_at", "_law_sign", "_law_p", "_law_q", "_law_way", "_law_around", "_law_prices", "_law_row", "_law_sums", "_law_turn"] ["_law_pen_here", "_law_setting", "_law_most", "_law_told", "_law_at", "_law_sign"] (defScope s_law_bounded) := ⟨rfl, rfl, rfl, by decide +kernel, rfl, by decide +kernel, by decide +kernel⟩
def spBounded (K : Fg) : Sp := fun vs H Q _ => ∃ (l : Addr) (n : Int) (S : Setg) (m place : Nat) (sign p q : Int) (way around : List Int) (prices : List (Stt × Int)), EnAll K H [.rf l, .im (encS S), .im (.int (m : Int)), .im (encLR p q way around prices), .im (.int (place : Int)), .im (.int sign)] vs ∧ Pen H l n ∧ n ≤ 4000 ∧
  S.Ok ∧ LR S m place sign p q way around prices ∧ Bd p q way around ∧ (place = 0 ∧ sign = 1 ∨ place = 1 ∧ sign = -1) ∧ m ≤ 3 ∧ ∀ H', But l H H' → Pen H' l (n + 40) → Q (.bl true) H'
theorem d_law_bounded (B : Bn K mg) (F_law_draw : Df P w K mg base 1 "_law_draw" ["_law_pen_here", "_law_many"] (spDraw K)) (F_first_state : Df P w K mg base 5 "first_state" ["setting"] (spD K R_first)) (F_totals : Df P w K mg base 6 "totals" ["setting", "state", "row"] (spD K R_totals)) (F : FnP K mg "_law_bounded" s_law_bounded) :
    Df P w K mg base 7 "_law_bounded" ["_law_pen_here", "_law_setting", "_law_most", "_law_told", "_law_at", "_law_sign"] (spBounded K) := by
  refine df_of F sc_law_bounded (fun vs H Q E h => by obtain ⟨_, _, _, _, _, _, _, _, _, _, _, e, _⟩ := h; exact (enAll_len e).symm) (fun _ _ _ _ _ _ us hl => match us, hl with | [_, _, _, _, _, _], _ => rfl) fun f cdv A outer s H vs Q E hr h => ?_
  refine ⟨_, (pss_cons (ps_asg (pv 3) (pg_tup rfl (pgs_cons (pg_tup rfl (pgs_cons (pg_name (i := 6) sc_law_bounded.nd rfl (by first | exact Or.inl rfl | exact Or.inr rfl)) (pgs_cons (pg_name (i := 7) sc_law_bounded.nd rfl (by first | exact Or.inl rfl | exact Or.inr rfl)) pgs_nil))) (pgs_cons (pg_name (i := 8) sc_law_bounded.nd rfl (by first | exact Or.inl rfl | exact Or.inr rfl)) (pgs_cons (pg_name (i := 9) sc_law_bounded.nd rfl (by first | exact Or.inl rfl | exact Or.inr rfl)) (pgs_cons (pg_name (i := 10) sc_law_bounded.nd rfl (by first | exact Or.inl rfl | exact Or.inr rfl)) pgs_nil))))))
  (pss_cons (ps_set (i := 11) sc_law_bounded.nd rfl (by first | exact Or.inl rfl | exact Or.inr rfl) (pe_callTy c_tup rfl B.tuple bt_tuple (pa_cons (pe_lc (own := [("_law_turn", 13)]) rfl sc_law_bounded.nd (pi_range1 rfl B.range (pa_cons pe_int pa_nil)) (blkOk_by (own := [("_law_turn", 13)]) (N := ["_law_pen_here", "_law_setting", "_law_most", "_law_told", "_law_at", "_law_sign", "_law_p", "_law_q", "_law_way", "_law_around", "_law_prices", "_law_row", "_law_sums", "_law_turn"]) (sc := defScope s_law_bounded) (by decide +kernel)) (fun _ _ _ _ _ => (pg_name (i := 13) sc_law_bounded.nd rfl (by first | exact Or.inl rfl | exact Or.inr rfl) (by first | exact .inr rfl | exact .inl rfl))) (fun _ _ _ _ _ => pts_nil) (fun _ _ _ _ _ => (pe_df F_law_draw (hr.mono (by decide)) rfl (pa_cons (pv 0) (pa_cons (pe_op op_add (pv 2) pe_int) pa_nil))))) pa_nil)))
  (pss_cons (ps_set (i := 12) sc_law_bounded.nd rfl (by first | exact Or.inl rfl | exact Or.inr rfl) (pe_df F_totals (hr.mono (by decide)) rfl (pa_cons (pv 1) (pa_cons (pe_df F_first_state (hr.mono (by decide)) rfl (pa_cons (pv 1) pa_nil)) (pa_cons (pv 11) pa_nil)))))
  (pss_one (ps_ret (pe_cmpR op_le (pe_op op_mul (pv 5) (pe_op op_sub (pe_op op_mul (pv 7) (pe_ix ix_tup (pv 12) (pv 4) (fun _ _ => rfl))) (pe_op op_mul (pv 6) (pe_callB (c_sumT rfl) rfl B.sum bt_sum (pa_cons (pv 11) pa_nil))))) (pe_sget hr.units (pe_callTy (c_dictS rfl hr.units) rfl B.dict bt_dict (pa_cons (pv 10) pa_nil)) (pe_ix ix_tup (pv 12) pe_int (fun _ _ => rfl)) (fun _ _ => rfl)) (nomark _))))))), ?_⟩
  obtain ⟨l, n, S, m, place, sign, p, q, way, around, prices, hen, pn, hn, ok, lr, bd, hp, hm, k⟩ := h
  have env := env_start (N := ["_law_pen_here", "_law_setting", "_law_most", "_law_told", "_law_at", "_law_sign", "_law_p", "_law_q", "_law_way", "_law_around", "_law_prices", "_law_row", "_law_sums", "_law_turn"]) hen
  try simp only [unpackE, unpackD, wipeD, unT, List.map_cons, List.map_nil, List.length_cons, List.length_nil, List.cons_append, List.nil_append, List.replicate_succ, List.replicate_zero, List.set_cons_succ, List.set_cons_zero, Nat.reduceAdd, Nat.reduceSub] at env
  walk_at "cx"
  walk_at "sq"
  refine st_unLR env (ev_v env rfl) fun s1 H1 x1 env => ?_
  try simp only [unpackE, unpackD, wipeD, unT, List.map_cons, List.map_nil, List.length_cons, List.length_nil, List.cons_append, List.nil_append, List.replicate_succ, List.replicate_zero, List.set_cons_succ, List.set_cons_zero, Nat.reduceAdd, Nat.reduceSub] at env
  walk_at "sq"
  have pn1 := pn.mono x1
  have pl : place = 0 ∨ place = 1 := hp.imp And.left And.left
  have q1 := lr.q1
  have p0 := lr.p0
  have bq := bd.q
  have bp := bd.p
  refine st_draws (l := l) (k := (m : Int) + 1) (n := n) (N := 40) rfl rfl (fun x => ?_) pn1 (by decide) (by omega) fun pr rs H3 b3 pn3 hrow hlen hr => ?_
  · have env := (env.wipe [13]).set (e := .im (.int x)) (.int x) 13
    try simp only [unpackE, unpackD, wipeD, unT, List.map_cons, List.map_nil, List.length_cons, List.length_nil, List.cons_append, List.nil_append, List.replicate_succ, List.replicate_zero, List.set_cons_succ, List.set_cons_zero, Nat.reduceAdd, Nat.reduceSub] at env
    intro n' H3 b3 t3 pn3 hn3 Q' q'
    have env := env.mono t3
    obtain ⟨v0, g0, r0⟩ := env.get (i := 0) rfl
    obtain rfl : v0 = V.ref l := r0
    refine ⟨_, g0, ev_add (ev_v env (i := 2) rfl) (ev_i (i := 1)) H3 (Same.refl _) _ fun v H4 x4 rv => ?_⟩
    exact ⟨l, n', (m : Int) + 1, .cons rfl (.cons rv .nil), pn3.mono x4, by omega, by omega, by omega, fun i H' i0 ik bt pn4 => q' _ _ H' ⟨i, rfl, i0, ik⟩ ((But.of x4).trans bt) pn4 (.int i)⟩
  have env := (env.mono (b3.tk pn1)).set (e := .im (encI rs)) hrow 11
  try simp only [unpackE, unpackD, wipeD, unT, List.map_cons, List.map_nil, List.length_cons, List.length_nil, List.cons_append, List.nil_append, List.replicate_succ, List.replicate_zero, List.set_cons_succ, List.set_cons_zero, Nat.reduceAdd, Nat.reduceSub] at env
  walk_at "sq"
  have rb : ∀ r, r ∈ rs → 0 ≤ r ∧ r ≤ 999 := fun r h => by have := hr r h; omega
  refine st_set env (en := .im (.tuple ((sumsM S (firstM S) rs).map .int ++ [encT (endM S (firstM S) rs)]))) (ev_totals (ev_v env rfl) (ev_first (ev_v env rfl) ok) (ev_v env rfl) ⟨ok, firstM_ok ok, rb, by omega⟩) fun _ H4 x4 _ env => ?_
  try simp only [unpackE, unpackD, wipeD, unT, List.map_cons, List.map_nil, List.length_cons, List.length_nil, List.cons_append, List.nil_append, List.replicate_succ, List.replicate_zero, List.set_cons_succ, List.set_cons_zero, Nat.reduceAdd, Nat.reduceSub] at env
  walk_at "sq"
  obtain ⟨y, hy, hle⟩ := lr.run (row := rs) lr.first fun r hr' => by have := hr r hr'; omega
  have sb : -(2 ^ 64) < sign ∧ sign < 2 ^ 64 := by rcases hp with ⟨_, e⟩ | ⟨_, e⟩ <;> omega
  refine st_retD (EvE.is (e2 := .im (.bool true)) (ev_le (ev_mul (ev_v env rfl) (ev_sub (ev_mul (ev_v env rfl) (ev_ixT (n := place) (ev_v env rfl) (ev_v env rfl) (tot_get _ _ _ (by omega))) (.inl (by omega))) (ev_mul (ev_v env rfl) (ev_sumT (ns := rs) (ev_v env rfl)) (.inl (by omega)))) (.inl sb)) (ev_dget (ev_v env rfl) (ev_ixT (n := 6) (ev_v env rfl) ev_i (tot_end _ _ _)) hy lr.nodup lr.len)) ?_) fun v H6 x6 r => by
    rw [im_bl r]
    exact k H6 ((But.of x1).trans (b3.trans (But.of (x4.trans x6)))) (pn3.mono (x4.trans x6))
  exact congrArg (fun b => En.im (.bool b)) (decide_eq_true (by omega))
end
end CB

/-! ## KC8 -/
set_option Elab.async false
set_option linter.all false
set_option maxRecDepth 100000
set_option maxHeartbeats 4000000
/-! _law_try(lambda: ..), where nothing is raised. -/
namespace CB
open PySem PySem.Spec PyProof.Rows L2 LamX NdefX
def TTry : (XK → Hp → VK → Prop) → Hp → VK → Prop := fun tl H Q => tl E0 H Q
theorem try_gives {X : Cx} {Ng : List Str} {x a q : Str} {sg : Scope} {g : Addr} {cdg : Value} {hd : ExceptHandler} {p1 p2 p3 p8 : Pos} (h0 : ∀ f : Addr, (L2.start Ng [V.ref f])[0]? = some (some (V.ref f))) :
    GivesTo X Ng x sg g cdg [.Try [.Return (some (.Call (.Name a p1) [] [] p2)) p3] [hd] [] [] p8] a q TTry := by
  intro f c' s H Q tl act hc h
  have hp := act (fun _ _ _ _ => False) [] (fun _ _ => False) E0 p1 p2 LamX.takes0 (fun _ _ _ _ z => z)
  exact ⟨_, pss_one (ps_try_thru0 (pss_one (ps_ret hp))), h0 f, hc, h⟩
end CB

/-! ## KB23 -/
set_option Elab.async false
set_option linter.all false
set_option maxRecDepth 100000
set_option maxHeartbeats 4000000
/-! _law_right. -/
namespace CB
open PySem PySem.Spec PyProof.Rows L2 LamX NdefX
local macro_rules | `(tactic| walk_at "ev1") => `(tactic| (first
  | exact ev_i | exact ev_b | exact ev_n | exact ev_s | exact ev_v (by assumption) rfl | exact ea_n
  | refine' ea_c ?_ ?_ | with_reducible refine' ev_ixT ?_ ?_ ?_ | with_reducible refine' ev_ixTl ?_ ?_ ?_
  | with_reducible refine' ev_add ?_ ?_ | with_reducible refine' ev_sub ?_ ?_
  | with_reducible refine' ev_lt ?_ ?_ | with_reducible refine' ev_le ?_ ?_ | with_reducible refine' ev_gt ?_ ?_ | with_reducible refine' ev_ge ?_ ?_
  | with_reducible refine' ev_eqI ?_ ?_ | with_reducible refine' ev_neI ?_ ?_ | with_reducible refine' ev_eqS ?_ ?_
  | with_reducible refine' ev_isN ?_ | with_reducible refine' ev_notN ?_ | with_reducible refine' ev_chain ?_ ?_ ?_ | with_reducible refine' ev_neg ?_
  | with_reducible refine' is_ii ?_ | with_reducible refine' is_ib ?_ | with_reducible refine' is_bb ?_ | with_reducible refine' is_ss ?_ | with_reducible refine' is_tt ?_
  | with_reducible refine' ev_andV ?_ ?_ | with_reducible refine' ev_orV ?_ ?_ | with_reducible refine' ev_notV ?_
  | with_reducible refine' ev_lenT ?_ | with_reducible refine' ev_min ?_ ?_ | with_reducible refine' ev_max ?_ ?_
  | with_reducible refine' et_test ?_ | with_reducible refine' et_B ?_ | with_reducible refine' et_not ?_ | with_reducible refine' et_and ?_ ?_ | with_reducible refine' et_or ?_ ?_ | exact et_yes
  | with_reducible refine' eo_some ?_ | exact eo_none | (with_reducible intro _) | rfl))
local macro_rules | `(tactic| walk_at "ev") => `(tactic| repeat' walk_at "ev1")
local macro_rules | `(tactic| walk_at "sq") => `(tactic| try dsimp only [tSeq, tNext])
local macro_rules | `(tactic| walk_at "cx") => `(tactic| try dsimp only [cxOf, Cx.nox, Cx.wish])

section
variable {P : Program} {w : World} {K : Fg} {mg : Str → Option Value} {base : Heap}
theorem st_unPQ {s : L2.St} {H : Hp} {c : Dn} {D : Ends} {ta tb : TE} {i1 i2 i3 i4 : Nat} {p q r u : Int} (env : EnvD K H s c) (ha : EvE K s H ta (.im (.tuple [.int p, .int q]))) (hb : EvE K s H tb (.im (.tuple [.int r, .int u])))
    (k : ∀ s' H1, Same H H1 → EnvD K H1 s' ((((c.set i1 (some (.im (.int p)))).set i2 (some (.im (.int q)))).set i3 (some (.im (.int r)))).set i4 (some (.im (.int u)))) → D.nx s' H1) :
    tAsg (tTup (tCons ta (tCons tb tNil))) (gTup K 2 (gCons (gTup K 2 (gCons (gName i1) (gCons (gName i2) gNil))) (gCons (gTup K 2 (gCons (gName i3) (gCons (gName i4) gNil))) gNil))) D s H :=
  ev_tup2 ha hb H (Same.refl _) _ fun v H1 x1 rr => by
    obtain ⟨a, xs, rfl, f2, f3⟩ := im_tup rr
    cases f3 with
    | cons r1 f3 =>
    cases f3 with
    | cons r2 f3 =>
    cases f3
    obtain ⟨a1, xs1, rfl, g2, g3⟩ := im_tup r1
    cases g3 with
    | cons u1 g3 =>
    cases g3 with
    | cons u2 g3 =>
    cases g3
    obtain ⟨a2, xs2, rfl, h2, h3⟩ := im_tup r2
    cases h3 with
    | cons u3 h3 =>
    cases h3 with
    | cons u4 h3 =>
    cases h3
    exact ⟨a, _, rfl, f2, rfl, _, _, rfl, ⟨a1, _, rfl, g2, rfl, _, _, rfl, _, _, rfl, rfl, _, _, rfl, ⟨a2, _, rfl, h2, rfl, _, _, rfl, _, _, rfl, rfl, rfl, k _ H1 x1 (((((env.mono (tk_of x1)).set (e := .im (.int p)) u1 i1).set (e := .im (.int q)) u2 i2).set (e := .im (.int r)) u3 i3).set (e := .im (.int u)) u4 i4)⟩⟩⟩
/-- all but l and the tables stay -/
def BN (l : Addr) (A B : Hp) : Prop := ∀ b o, b ≠ l → A b = some o → (∀ ps, o ≠ .tbl ps) → B b = some o
theorem BN.trans {l : Addr} {A B C : Hp} (x : BN l A B) (y : BN l B C) : BN l A C := fun b o n e z => y b o n (x b o n e z) z
theorem BN.ext {l : Addr} {A B : Hp} (x : ExtN A B) : BN l A B := fun b o _ e z => x b o e z
theorem BN.but {l : Addr} {A B : Hp} (x : But l A B) : BN l A B := fun b o n e _ => x b o n e
theorem Pen.ext {A B : Hp} {l : Addr} {n : Int} (p : Pen A l n) (x : ExtN A B) : Pen B l n := let ⟨a, b, c, h, r⟩ := p.ex; ⟨a, b, c, x _ _ h (fun _ z => nomatch z), r⟩
theorem tabs_but {T : List NTab} {A B : Hp} {l : Addr} {n : Int} (t : TabsN T A) (p : Pen A l n) (x : But l A B) : TabsN T B := fun q hq => by
  obtain ⟨ps, h1, h2, h3⟩ := t q hq
  obtain ⟨a, b, c, h, _⟩ := p.ex
  refine ⟨ps, x _ _ (fun e => ?_) h1, h2, fun pos cv hc => ?_⟩
  · rw [e, h] at h1
    cases h1
  · obtain ⟨c', e1, e2⟩ := h3 pos cv hc
    refine ⟨c', e1, x _ _ (fun e => ?_) e2⟩
    rw [e, h] at e2
    unfold CodeO at e2
    cases e2
section
variable {K : Fg} {s : L2.St} {H : Hp} {D : Ends} {ta tb : TA} {tt uu : TS} {S : Setg} {m : Nat} {p q r u : Int} {way around way' around' : List Int} {prices prices' : List (Stt × Int)}
theorem st_bd2 {l : Addr} {n : Int} (ha : EvA K s H ta [.rf l, .im (encS S), .im (.int (m : Int)), .im (encLR p q way around prices), .im (.int ((0 : Nat) : Int)), .im (.int 1)]) (hb : ∀ H', Tk H H' → EvA K s H' tb [.rf l, .im (encS S), .im (.int (m : Int)), .im (encLR r u way' around' prices'), .im (.int ((1 : Nat) : Int)), .im (.int (-1))])
    (pn : Pen H l n) (hn : n ≤ 3000) (ok : S.Ok) (hm : m ≤ 3) (lr : LR S m 0 1 p q way around prices) (bd : Bd p q way around) (lr' : LR S m 1 (-1) r u way' around' prices') (bd' : Bd r u way' around') (k : ∀ H', But l H H' → uu D s H') :
    tIfS (tOr (tNot (tB (tCall (spBounded K) [] E0 ta))) (tNot (tB (tCall (spBounded K) [] E0 tb)))) tt uu D s H :=
  ha H (Same.refl _) _ fun vs H1 x1 rs => ⟨l, n, S, m, 0, 1, p, q, way, around, prices, by rw [List.append_nil]; exact rs, pn.mono x1, by omega, ok, lr, bd, .inl ⟨rfl, rfl⟩, hm, fun H2 b2 pn2 => ⟨true, rfl, iteF <|
    hb H2 ((tk_of x1).trans (b2.tk (pn.mono x1))) H2 (Same.refl _) _ fun vs H3 x3 rs => ⟨l, n + 40, S, m, 1, -1, r, u, way', around', prices', by rw [List.append_nil]; exact rs, pn2.mono x3, by omega, ok, lr', bd', .inr ⟨rfl, rfl⟩, hm, fun H4 b4 _ => ⟨true, rfl, iteF <|
      k H4 ((But.of x1).trans (b2.trans ((But.of x3).trans b4)))⟩⟩⟩⟩
theorem st_sh2 {T : List NTab} (ha : EvA K s H ta [.im (encS S), .im (.int (m : Int)), .im (encLR p q way around prices)]) (hb : ∀ H', Tk H H' → EvA K s H' tb [.im (encS S), .im (.int (m : Int)), .im (encLR r u way' around' prices')])
    (hT : TabsN T H) (ok : S.Ok) (m1 : 1 ≤ m) (hm : m ≤ 3) (lr : LR S m 0 1 p q way around prices) (bd : Bd p q way around) (lr' : LR S m 1 (-1) r u way' around' prices') (bd' : Bd r u way' around') (k : ∀ H', ExtN H H' → TabsN T H' → uu D s H') :
    tIfS (tOr (tTest (tOp rNotB (tCall (spShows K T 0 1) [] E0 ta) (tC (.bl true)))) (tTest (tOp rNotB (tCall (spShows K T 1 (-1)) [] E0 tb) (tC (.bl true))))) tt uu D s H :=
  ha H (Same.refl _) _ fun vs H1 x1 rs => ⟨S, m, p, q, way, around, prices, by rw [List.append_nil]; exact enAll_im (ds := [_, _, _]) rs, ok, tabs_same hT x1, m1, hm, lr, bd, fun H2 e2 T2 => ⟨true, true, rfl, rfl, false, rfl, iteF <|
    hb H2 ((tk_of x1).trans (extN_tk e2)) H2 (Same.refl _) _ fun vs H3 x3 rs => ⟨S, m, r, u, way', around', prices', by rw [List.append_nil]; exact enAll_im (ds := [_, _, _]) rs, ok, tabs_same T2 x3, m1, hm, lr', bd', fun H4 e4 T4 => ⟨true, true, rfl, rfl, false, rfl, iteF <|
      k H4 ((extN_of x1).trans (e2.trans ((extN_of x3).trans e4))) T4⟩⟩⟩⟩
end
theorem sh_O (o : Option Int) : SeqAt.shaped (encO o) = true := by cases o <;> rfl
theorem test2 {S : Setg} {m : Int} {p q : Int} {way around : List Int} {prices : List (Stt × Int)} (ok : S.Ok) (lr : LR S m 0 1 p q way around prices) :
    ((((decide (S.tries = 1) || PyData.eqv (encO S.tokens) (.int 0)) && !PyData.eqv (.tuple [.int p, .int q]) (.tuple [.int 1, .int 1])) || (!isNone (.im (encO S.tokens)) && decide (2 * q < p)))) = false := by
  have hi := load_hi ok lr
  have t2 := ok.t2
  have q1 := lr.q1
  have h2 : ¬ 2 * q < p := by
    have : S.tries * q ≤ 2 * q := Int.mul_le_mul_of_nonneg_right t2 (by omega)
    omega
  rw [decide_eq_false h2, Bool.and_false, Bool.or_false]
  have one : S.tries = 1 ∨ S.tokens = some 0 → PyData.eqv (.tuple [.int p, .int q]) (.tuple [.int 1, .int 1]) = true := fun h => by
    obtain ⟨rfl, rfl⟩ := load_one ok lr h
    rfl
  by_cases h1 : S.tries = 1
  · rw [one (.inl h1)]
    simp
  · rw [decide_eq_false h1, Bool.false_or]
    cases e : S.tokens with
    | none => rfl
    | some k =>
      by_cases hk : k = 0
      · subst hk
        rw [one (.inr e)]
        simp
      · have : PyData.eqv (encO (some k)) (.int 0) = false := by simp [encO, PyData.eqv, hk]
        rw [this]
        rfl
theorem test3 {S : Setg} {m : Int} {p q r u : Int} {way around way' around' : List Int} {prices prices' : List (Stt × Int)} (ok : S.Ok) (lr : LR S m 0 1 p q way around prices) (lr' : LR S m 1 (-1) r u way' around' prices') :
    (decide (r = 0) && (isNone (.im (encO S.tokens)) && !decide (p = S.tries * q))) = false := by
  by_cases hr : r = 0
  · subst hr
    cases e : S.tokens with
    | none =>
      rw [decide_eq_true (load_full ok lr lr' e)]
      simp
    | some k => simp [encO, isNone]
  · rw [decide_eq_false hr, Bool.false_and]
abbrev s_law_try : Stmt := top 75
theorem sc_law_try : FnScope ["_law_call", "e"] ["_law_call"] (defScope s_law_try) := ⟨rfl, rfl, rfl, by decide +kernel, rfl, by decide +kernel, by decide +kernel⟩
abbrev s_law_right : Stmt := top 78
theorem sc_law_right : FnScope ["_law_pen_here", "_law_setting", "_law_most", "_law_found", "_law_p", "_law_q", "_law_r", "_law_s", "_law_more"] ["_law_pen_here", "_law_setting", "_law_most"] (defScope s_law_right) := ⟨rfl, rfl, rfl, by decide +kernel, rfl, by decide +kernel, by decide +kernel⟩
def spRight (K : Fg) (T : List NTab) : Sp := fun vs H Q _ => ∃ (l : Addr) (n : Int) (S : Setg) (m : Nat), EnAll K H [.rf l, .im (encS S), .im (.int (m : Int))] vs ∧ Pen H l n ∧ n ≤ 3000 ∧ S.Ok ∧ TabsN T H ∧ 1 ≤ m ∧ m ≤ 2 ∧ ∀ H', TabsN T H' → (∀ b o, b ≠ l → H b = some o → (∀ ps, o ≠ .tbl ps) → H' b = some o) → Q (.bl true) H'
theorem d_law_right (t : Tbl mg base) (B : Bn K mg) (FT : FnP K mg "_law_try" s_law_try) (F_load : Df P w K mg base 7 "load" ["setting", "most"] (spLoad K t.T 0 1)) (F_worst : Df P w K mg base 7 "worst" ["setting", "most"] (spLoad K t.T 1 (-1)))
    (F_shows_load : Df P w K mg base 8 "shows_load" ["setting", "most", "thing"] (spShows K t.T 0 1)) (F_shows_worst : Df P w K mg base 8 "shows_worst" ["setting", "most", "thing"] (spShows K t.T 1 (-1)))
    (F_law_round_right : Df P w K mg base 7 "_law_round_right" ["_law_setting", "_law_told", "_law_at"] (spD K R_rr)) (F_law_bounded : Df P w K mg base 7 "_law_bounded" ["_law_pen_here", "_law_setting", "_law_most", "_law_told", "_law_at", "_law_sign"] (spBounded K))
    (F : FnT K mg "_law_right" s_law_right t.cR) : Df P w K mg base 12 "_law_right" ["_law_pen_here", "_law_setting", "_law_most"] (spRight K t.T) := by
  refine dft_nox F sc_law_right (fun vs H Q E h => by obtain ⟨_, _, _, _, e, _⟩ := h; exact (enAll_len e).symm) (fun _ _ _ _ _ _ us hl => match us, hl with | [_, _, _], _ => rfl) fun f A outer s H vs Q E hr h => ?_
  have hmem : (t.PR, qR) ∈ t.Ts := by unfold Tbl.Ts; simp
  obtain ⟨g, fdg, hmg, Fg⟩ := FT
  have kpg := Fg.kp
  have bng := Fg.bindsN (ps := ["_law_call"]) (fun _ _ _ _ _ _ us hl => match us, hl with | [_], _ => rfl)
  obtain ⟨oc, od, dV, kV, doc, pm, an, cdv, ct, osl, rfl, lkg, hcg, _, _⟩ := Fg.ex
  refine ⟨_, (pss_cons (ps_set (i := 3) sc_law_right.nd rfl (by first | exact Or.inl rfl | exact Or.inr rfl) (pe_lamcall (k := 9) (T := t.Ts) (TT := TTry) (Ng := ["_law_call", "e"]) rfl hmg kpg lkg hcg bng sc_law_try rfl (Or.inl rfl) (try_gives fun _ => rfl) t.bR rfl hmem (t.uS hmem) (hr.mono (by decide)) (lamS_by (sc := defScope s_law_right) (by decide +kernel)) rfl (fun _ _ _ _ _ => rfl) (fun A outer s H E f c' hr => (pe_tup (pa_cons (pe_df F_load (hr.mono (by decide)) rfl (pa_cons (pv 1) (pa_cons (pv 2) pa_nil))) (pa_cons (pe_df F_worst (hr.mono (by decide)) rfl (pa_cons (pv 1) (pa_cons (pv 2) pa_nil))) pa_nil))))))
  (pss_cons (ps_if (pt_cmpR o_isN (pv 3) pe_non (nomark _)) (pss_one (ps_ret pe_bl)) pss_nil)
  (pss_cons (ps_asg (pe_tup (pa_cons (pe_ix ix_tup (pe_ix ix_tup (pv 3) pe_int (fun _ _ => rfl)) pe_int (fun _ _ => rfl)) (pa_cons (pe_ix ix_tup (pe_ix ix_tup (pv 3) pe_int (fun _ _ => rfl)) pe_int (fun _ _ => rfl)) pa_nil))) (pg_tup rfl (pgs_cons (pg_tup rfl (pgs_cons (pg_name (i := 4) sc_law_right.nd rfl (by first | exact Or.inl rfl | exact Or.inr rfl)) (pgs_cons (pg_name (i := 5) sc_law_right.nd rfl (by first | exact Or.inl rfl | exact Or.inr rfl)) pgs_nil))) (pgs_cons (pg_tup rfl (pgs_cons (pg_name (i := 6) sc_law_right.nd rfl (by first | exact Or.inl rfl | exact Or.inr rfl)) (pgs_cons (pg_name (i := 7) sc_law_right.nd rfl (by first | exact Or.inl rfl | exact Or.inr rfl)) pgs_nil))) pgs_nil))))
  (pss_cons (ps_if (PW.pt (pw_or (pt_not (pt_chain op_le op_le (pv 5) (pv 4) (pe_op op_mul (pe_ix ix_tup (pv 1) pe_int (fun _ _ => rfl)) (pv 5)))) (pw_or (pt_not (pt_chain op_le op_le pe_int (pv 6) (pv 7))) (pw_or1 (pt_cmpR op_gt (pe_op op_mul (pv 6) (pv 2)) (pe_op op_mul (pe_ix ix_tup (pv 1) pe_int (fun _ _ => rfl)) (pv 7)) (nomark _)))))) (pss_one (ps_ret pe_bl)) pss_nil)
  (pss_cons (ps_if (PW.pt (pw_or (PW.pt (pw_and (PW.pt (pw_or (pt_cmpR op_eq (pe_ix ix_tup (pv 1) pe_int (fun _ _ => rfl)) pe_int (nomark _)) (pw_or1 (pt_cmpR (op_eqD hr.units) (pe_ix ix_tup (pv 1) pe_int (fun _ _ => rfl)) pe_int (nomark _))))) (pw_and1 (pt_cmpR (op_neD hr.units) (pe_tup (pa_cons (pv 4) (pa_cons (pv 5) pa_nil))) (pe_tup (pa_cons pe_int (pa_cons pe_int pa_nil))) (nomark _))))) (pw_or1 (PW.pt (pw_and (pt_cmpR o_notN (pe_ix ix_tup (pv 1) pe_int (fun _ _ => rfl)) pe_non (nomark _)) (pw_and1 (pt_cmpR op_gt (pv 4) (pe_op op_mul pe_int (pv 5)) (nomark _)))))))) (pss_one (ps_ret pe_bl)) pss_nil)
  (pss_cons (ps_if (PW.pt (pw_and (pt_cmpR op_eq (pv 6) pe_int (nomark _)) (pw_and (pt_cmpR o_isN (pe_ix ix_tup (pv 1) pe_int (fun _ _ => rfl)) pe_non (nomark _)) (pw_and1 (pt_cmpR op_ne (pv 4) (pe_op op_mul (pe_ix ix_tup (pv 1) pe_int (fun _ _ => rfl)) (pv 5)) (nomark _)))))) (pss_one (ps_ret pe_bl)) pss_nil)
  (pss_cons (ps_if (PW.pt (pw_or (pt_not (pt_val (pe_df F_law_round_right (hr.mono (by decide)) rfl (pa_cons (pv 1) (pa_cons (pe_ix ix_tup (pv 3) pe_int (fun _ _ => rfl)) (pa_cons pe_int pa_nil)))))) (pw_or1 (pt_not (pt_val (pe_df F_law_round_right (hr.mono (by decide)) rfl (pa_cons (pv 1) (pa_cons (pe_ix ix_tup (pv 3) pe_int (fun _ _ => rfl)) (pa_cons pe_int pa_nil))))))))) (pss_one (ps_ret pe_bl)) pss_nil)
  (pss_cons (ps_if (PW.pt (pw_or (pt_not (pt_val (pe_df F_law_bounded (hr.mono (by decide)) rfl (pa_cons (pv 0) (pa_cons (pv 1) (pa_cons (pv 2) (pa_cons (pe_ix ix_tup (pv 3) pe_int (fun _ _ => rfl)) (pa_cons pe_int (pa_cons pe_int pa_nil))))))))) (pw_or1 (pt_not (pt_val (pe_df F_law_bounded (hr.mono (by decide)) rfl (pa_cons (pv 0) (pa_cons (pv 1) (pa_cons (pv 2) (pa_cons (pe_ix ix_tup (pv 3) pe_int (fun _ _ => rfl)) (pa_cons pe_int (pa_cons (pe_un un_neg pe_int) pa_nil)))))))))))) (pss_one (ps_ret pe_bl)) pss_nil)
  (pss_cons (ps_if (PW.pt (pw_or (pt_cmpR op_notBl (pe_df F_shows_load (hr.mono (by decide)) rfl (pa_cons (pv 1) (pa_cons (pv 2) (pa_cons (pe_ix ix_tup (pv 3) pe_int (fun _ _ => rfl)) pa_nil)))) pe_bl (nomark _)) (pw_or1 (pt_cmpR op_notBl (pe_df F_shows_worst (hr.mono (by decide)) rfl (pa_cons (pv 1) (pa_cons (pv 2) (pa_cons (pe_ix ix_tup (pv 3) pe_int (fun _ _ => rfl)) pa_nil)))) pe_bl (nomark _))))) (pss_one (ps_ret pe_bl)) pss_nil)
  (pss_cons (ps_set (i := 8) sc_law_right.nd rfl (by first | exact Or.inl rfl | exact Or.inr rfl) (pe_lamcall (k := 9) (T := t.Ts) (TT := TTry) (Ng := ["_law_call", "e"]) rfl hmg kpg lkg hcg bng sc_law_try rfl (Or.inl rfl) (try_gives fun _ => rfl) t.bR rfl hmem (t.uS hmem) (hr.mono (by decide)) (lamS_by (sc := defScope s_law_right) (by decide +kernel)) rfl (fun _ _ _ _ _ => rfl) (fun A outer s H E f c' hr => (pe_tup (pa_cons (pe_ix (ix_tupK K (by rfl)) (pe_df F_load (hr.mono (by decide)) rfl (pa_cons (pv 1) (pa_cons (pe_op op_add (pv 2) pe_int) pa_nil))) pe_int (fun _ _ => rfl)) (pa_cons (pe_ix (ix_tupK K (by rfl)) (pe_df F_worst (hr.mono (by decide)) rfl (pa_cons (pv 1) (pa_cons (pe_op op_add (pv 2) pe_int) pa_nil))) pe_int (fun _ _ => rfl)) pa_nil))))))
  (pss_one (ps_ret (pe_or (pe_cmpR o_isN (pv 8) pe_non (nomark _)) (pe_one (pe_and (pe_cmpR op_ge (pe_op op_mul (pe_ix ix_tup (pe_ix ix_tup (pv 8) pe_int (fun _ _ => rfl)) pe_int (fun _ _ => rfl)) (pv 5)) (pe_op op_mul (pv 4) (pe_ix ix_tup (pe_ix ix_tup (pv 8) pe_int (fun _ _ => rfl)) pe_int (fun _ _ => rfl))) (nomark _)) (pe_one (pe_cmpR op_le (pe_op op_mul (pe_ix ix_tup (pe_ix ix_tup (pv 8) pe_int (fun _ _ => rfl)) pe_int (fun _ _ => rfl)) (pv 7)) (pe_op op_mul (pv 6) (pe_ix ix_tup (pe_ix ix_tup (pv 8) pe_int (fun _ _ => rfl)) pe_int (fun _ _ => rfl))) (nomark _)))))))))))))))))), ?_⟩
  obtain ⟨l, n, S, m, hen, pn, hn, ok, hT, m1, m2, k⟩ := h
  have env := env_start (N := ["_law_pen_here", "_law_setting", "_law_most", "_law_found", "_law_p", "_law_q", "_law_r", "_law_s", "_law_more"]) hen
  try simp only [unpackE, unpackD, wipeD, unT, List.map_cons, List.map_nil, List.length_cons, List.length_nil, List.cons_append, List.nil_append, List.replicate_succ, List.replicate_zero, List.set_cons_succ, List.set_cons_zero, Nat.reduceAdd, Nat.reduceSub] at env
  walk_at "cx"
  walk_at "sq"
  obtain ⟨v1, g1, r1⟩ := env.get (i := 1) rfl
  obtain ⟨v2, g2, r2⟩ := env.get (i := 2) rfl
  have r1 : Im K H v1 (encS S) := r1
  have r2 : Im K H v2 (.int (m : Int)) := r2
  refine ⟨t.iff.mp hT, fun H1 e1 T1 => ?_⟩
  have T1 := t.iff.mpr T1
  have k1 := extN_tk e1
  refine ⟨v1, g1, v2, g2, S, m, .cons (Im.mono k1 r1) (.cons (Im.mono k1 r2) .nil), ok, T1, m1, by omega, fun p q way around prices va H2 e2 T2 lr bd ra => ?_⟩
  have k2 := extN_tk (e1.trans e2)
  refine ⟨v1, g1, v2, g2, S, m, .cons (Im.mono k2 r1) (.cons (Im.mono k2 r2) .nil), ok, T2, m1, by omega, fun r s' way' around' prices' vb H3 e3 T3 lr' bd' rb => ?_⟩
  refine ⟨by show 2 ≤ sizeLine; decide, fun pa npa => ?_⟩
  have y4 := same_new (o := .tup [va, vb]) npa
  have e4 : ExtN H (upd H3 pa (.tup [va, vb])) := (e1.trans e2).trans (same_extN e3 y4)
  have T4 := tabs_same T3 y4
  have env := (env.mono (extN_tk e4)).set (e := .im (.tuple [encLR p q way around prices, encLR r s' way' around' prices'])) (.tup (SqT.of upd_same) (.cons (Im.mono ((extN_tk e3).trans (tk_of y4)) ra) (.cons (Im.mono (tk_of y4) rb) .nil))) 3
  generalize upd H3 pa (.tup [va, vb]) = H4 at env T4 e4 ⊢
  try simp only [unpackE, unpackD, wipeD, unT, List.map_cons, List.map_nil, List.length_cons, List.length_nil, List.cons_append, List.nil_append, List.replicate_succ, List.replicate_zero, List.set_cons_succ, List.set_cons_zero, Nat.reduceAdd, Nat.reduceSub] at env
  walk_at "sq"
  dsimp only [gName]
  have f1 := load_lo ok lr
  have f2 := load_hi ok lr
  have f3 := lr'.p0
  have f4 := worst_hi ok lr'
  have f5 := worst_work ok lr' (Int.natCast_nonneg m)
  have p0 := lr.p0
  have q1 := lr.q1
  have s1 := lr'.q1
  have bp := bd.p
  have bq := bd.q
  have br := bd'.p
  have bs := bd'.q
  refine st_if env (b := false) (EvT.is (et_test (ev_isN (ev_v env rfl))) rfl) (fun z => nomatch z) fun _ H5 x5 env => ?_
  walk_at "sq"
  refine st_unPQ (p := p) (q := q) (r := r) (u := s') env (ev_ixT (n := 0) (ev_ixT (n := 0) (ev_v env rfl) ev_i rfl) ev_i rfl) (ev_ixT (n := 0) (ev_ixT (n := 1) (ev_v env rfl) ev_i rfl) ev_i rfl) fun s6 H6 x6 env => ?_
  try simp only [unpackE, unpackD, wipeD, unT, List.map_cons, List.map_nil, List.length_cons, List.length_nil, List.cons_append, List.nil_append, List.replicate_succ, List.replicate_zero, List.set_cons_succ, List.set_cons_zero, Nat.reduceAdd, Nat.reduceSub] at env
  walk_at "sq"
  refine st_if env (b := false) (EvT.is (et_or (et_not (et_test (ev_chain (ev_v env rfl) (ev_v env rfl) (ev_mul (ev_ixT (n := 3) (ev_v env rfl) ev_i rfl) (ev_v env rfl) (.inr (by omega)))))) fun _ => et_or (et_not (et_test (ev_chain ev_i (ev_v env rfl) (ev_v env rfl)))) fun _ => et_test (ev_gt (ev_mul (ev_v env rfl) (ev_v env rfl) (.inl (by omega))) (ev_mul (ev_ixT (n := 0) (ev_v env rfl) ev_i rfl) (ev_v env rfl) (.inr (by omega))))) ?_) (fun z => nomatch z) fun _ H7 x7 env => ?_
  · rw [decide_eq_true f1, decide_eq_true f2, decide_eq_true f3, decide_eq_true f4, decide_eq_false (Int.not_lt.mpr f5)]
    rfl
  walk_at "sq"
  refine st_if env (b := false) (EvT.is (et_or (et_and (et_or (et_test (ev_eqI (ev_ixT (n := 3) (ev_v env rfl) ev_i rfl) ev_i)) fun _ => et_test (ev_eqD (ev_ixT (n := 7) (ev_v env rfl) ev_i rfl) ev_i (sh_O _) (by rfl))) fun _ => et_test (ev_neD (ev_tup2 (ev_v env rfl) (ev_v env rfl)) (ev_tup2 ev_i ev_i) (sh_I [p, q]) (sh_I [1, 1])))
    fun _ => et_and (et_test (ev_notN (ev_ixT (n := 7) (ev_v env rfl) ev_i rfl))) fun _ => et_test (ev_gt (ev_v env rfl) (ev_mul ev_i (ev_v env rfl) (.inl (by decide))))) (test2 ok lr)) (fun z => nomatch z) fun _ H8 x8 env => ?_
  walk_at "sq"
  refine st_if env (b := false) (EvT.is (et_and (et_test (ev_eqI (ev_v env rfl) ev_i)) fun _ => et_and (et_test (ev_isN (ev_ixT (n := 7) (ev_v env rfl) ev_i rfl))) fun _ => et_test (ev_neI (ev_v env rfl) (ev_mul (ev_ixT (n := 3) (ev_v env rfl) ev_i rfl) (ev_v env rfl) (.inr (by omega))))) (test3 ok lr lr')) (fun z => nomatch z) fun _ H9 x9 env => ?_
  walk_at "sq"
  refine st_if env (b := false) (EvT.is (et_or (et_not (et_B (ev_call (ds := [_, _, .int ((0 : Nat) : Int)]) (ea_c (ev_v env rfl) (ea_c (ev_ixT (n := 0) (ev_v env rfl) ev_i rfl) (ea_c ev_i ea_n))) ⟨S, m, 0, 1, p, q, way, around, prices, rfl, ⟨ok, lr, bd, .inl rfl, by omega⟩, rfl⟩))) fun _ => et_not (et_B (ev_call (ds := [_, _, .int ((1 : Nat) : Int)]) (ea_c (ev_v env rfl) (ea_c (ev_ixT (n := 1) (ev_v env rfl) ev_i rfl) (ea_c ev_i ea_n))) ⟨S, m, 1, -1, r, s', way', around', prices', rfl, ⟨ok, lr', bd', .inr rfl, by omega⟩, rfl⟩))) rfl) (fun z => nomatch z) fun _ H10 x10 env => ?_
  walk_at "sq"
  have e10 : ExtN H H10 := same_extN e4 (x5.trans (x6.trans (x7.trans (x8.trans (x9.trans x10)))))
  have T10 := tabs_same T4 (x5.trans (x6.trans (x7.trans (x8.trans (x9.trans x10)))))
  have pn10 := pn.ext e10
  refine st_bd2 (l := l) (n := n) (S := S) (m := m) (ea_c (ev_v env rfl) (ea_c (ev_v env rfl) (ea_c (ev_v env rfl) (ea_c (ev_ixT (n := 0) (ev_v env rfl) ev_i rfl) (ea_c ev_i (ea_c ev_i ea_n))))))
    (fun H' t' => by
      have env := env.mono t'
      exact ea_c (ev_v env rfl) (ea_c (ev_v env rfl) (ea_c (ev_v env rfl) (ea_c (ev_ixT (n := 1) (ev_v env rfl) ev_i rfl) (ea_c ev_i (ea_c (ev_neg ev_i) ea_n)))))) pn10 (by omega) ok (by omega) lr bd lr' bd' fun H11 b11 => ?_
  have env := env.mono (b11.tk pn10)
  have T11 := tabs_but T10 pn10 b11
  have n11 : BN l H H11 := (BN.ext e10).trans (BN.but b11)
  walk_at "sq"
  refine st_sh2 (S := S) (m := m) (T := t.T) (ea_c (ev_v env rfl) (ea_c (ev_v env rfl) (ea_c (ev_ixT (n := 0) (ev_v env rfl) ev_i rfl) ea_n)))
    (fun H' t' => by
      have env := env.mono t'
      exact ea_c (ev_v env rfl) (ea_c (ev_v env rfl) (ea_c (ev_ixT (n := 1) (ev_v env rfl) ev_i rfl) ea_n))) T11 ok m1 (by omega) lr bd lr' bd' fun H12 e12 T12 => ?_
  have env := env.mono (extN_tk e12)
  have n12 := n11.trans (BN.ext e12)
  walk_at "sq"
  obtain ⟨w1, h1, z1⟩ := env.get (i := 1) rfl
  obtain ⟨w2, h2, z2⟩ := env.get (i := 2) rfl
  have z1 : Im K H12 w1 (encS S) := z1
  have z2 : Im K H12 w2 (.int (m : Int)) := z2
  obtain rfl := im_int z2
  refine ⟨t.iff.mp T12, fun H13 e13 T13 => ?_⟩
  have T13 := t.iff.mpr T13
  have k13 := extN_tk e13
  refine ⟨w1, h1, _, h2, _, _, rfl, rfl, S, m + 1, .cons (Im.mono k13 z1) (.cons (.int _) .nil), ok, T13, by omega, by omega, fun p2 q2 way2 around2 prices2 va2 H14 e14 T14 lr2 bd2 ra2 => ?_⟩
  have k14 := extN_tk (e13.trans e14)
  obtain ⟨a2, xs2, rfl, sa2, ia2⟩ := im_tup ra2
  cases ia2 with
  | @cons vpq _ _ _ ra2 ia2 =>
  refine ⟨_, _, ((0 : Nat) : Int), _, rfl, rfl, sa2, atI_nat rfl, ?_⟩
  refine ⟨w1, h1, _, h2, _, _, rfl, rfl, S, m + 1, .cons (Im.mono k14 z1) (.cons (.int _) .nil), ok, T14, by omega, by omega, fun r2 s2 way3 around3 prices3 vb2 H15 e15 T15 lr3 bd3 rb2 => ?_⟩
  have k15 := extN_tk ((e13.trans e14).trans e15)
  obtain ⟨b2, ys2, rfl, sb2, ib2⟩ := im_tup rb2
  cases ib2 with
  | @cons vrs _ _ _ rb2 ib2 =>
  refine ⟨_, _, ((0 : Nat) : Int), _, rfl, rfl, sb2, atI_nat rfl, ?_⟩
  refine ⟨by show 2 ≤ sizeLine; decide, fun pb npb => ?_⟩
  have y16 := same_new (o := .tup [vpq, vrs]) npb
  have e16 : ExtN H12 (upd H15 pb (.tup [vpq, vrs])) := ((e13.trans e14).trans e15).trans (extN_of y16)
  have T16 := tabs_same T15 y16
  have env := (env.mono (extN_tk e16)).set (e := .im (.tuple [.tuple [.int p2, .int q2], .tuple [.int r2, .int s2]])) (.tup (SqT.of upd_same) (.cons (Im.mono ((extN_tk e15).trans (tk_of y16)) ra2) (.cons (Im.mono (tk_of y16) rb2) .nil))) 8
  generalize upd H15 pb (.tup [vpq, vrs]) = H16 at env T16 e16 ⊢
  try simp only [unpackE, unpackD, wipeD, unT, List.map_cons, List.map_nil, List.length_cons, List.length_nil, List.cons_append, List.nil_append, List.replicate_succ, List.replicate_zero, List.set_cons_succ, List.set_cons_zero, Nat.reduceAdd, Nat.reduceSub] at env
  dsimp only [gName]
  have n16 := n12.trans (BN.ext e16)
  have g1 := load_more lr lr2
  have g2 := worst_more lr' lr3
  have bp2 := bd2.p
  have bq2 := bd2.q
  have p02 := lr2.p0
  have q12 := lr2.q1
  have p03 := lr3.p0
  have q13 := lr3.q1
  have br3 := bd3.p
  have bs3 := bd3.q
  refine st_retD (EvE.is (e2 := .im (.bool true)) (ev_orV (ev_isN (ev_v env rfl)) fun _ => ev_andV (ev_ge (ev_mul (ev_ixT (n := 0) (ev_ixT (n := 0) (ev_v env rfl) ev_i rfl) ev_i rfl) (ev_v env rfl) (.inr (by omega))) (ev_mul (ev_v env rfl) (ev_ixT (n := 1) (ev_ixT (n := 0) (ev_v env rfl) ev_i rfl) ev_i rfl) (.inl (by omega))))
    fun _ => ev_le (ev_mul (ev_ixT (n := 0) (ev_ixT (n := 1) (ev_v env rfl) ev_i rfl) ev_i rfl) (ev_v env rfl) (.inr (by omega))) (ev_mul (ev_v env rfl) (ev_ixT (n := 1) (ev_ixT (n := 1) (ev_v env rfl) ev_i rfl) ev_i rfl) (.inl (by omega)))) ?_) fun v H17 x17 r => ?_
  · rw [decide_eq_true g1, decide_eq_true g2]
    rfl
  · rw [im_bl r]
    exact k H17 (tabs_same T16 x17) (n16.trans (BN.ext (extN_of x17)))
end
end CB

/-! ## KB24 -/
set_option Elab.async false
set_option linter.all false
set_option maxRecDepth 100000
set_option maxHeartbeats 4000000
/-! law. -/
namespace CB
open PySem PySem.Spec PyProof.Rows L2 LamX NdefX
local macro_rules | `(tactic| walk_at "ev1") => `(tactic| (first
  | exact ev_i | exact ev_b | exact ev_n | exact ev_s | exact ev_v (by assumption) rfl | exact ea_n
  | refine' ea_c ?_ ?_ | with_reducible refine' ev_ixT ?_ ?_ ?_ | with_reducible refine' ev_ixTl ?_ ?_ ?_
  | with_reducible refine' ev_add ?_ ?_ | with_reducible refine' ev_sub ?_ ?_
  | with_reducible refine' ev_lt ?_ ?_ | with_reducible refine' ev_le ?_ ?_ | with_reducible refine' ev_gt ?_ ?_ | with_reducible refine' ev_ge ?_ ?_
  | with_reducible refine' ev_eqI ?_ ?_ | with_reducible refine' ev_neI ?_ ?_ | with_reducible refine' ev_eqS ?_ ?_
  | with_reducible refine' ev_isN ?_ | with_reducible refine' ev_notN ?_ | with_reducible refine' ev_chain ?_ ?_ ?_ | with_reducible refine' ev_neg ?_
  | with_reducible refine' is_ii ?_ | with_reducible refine' is_ib ?_ | with_reducible refine' is_bb ?_ | with_reducible refine' is_ss ?_ | with_reducible refine' is_tt ?_
  | with_reducible refine' ev_andV ?_ ?_ | with_reducible refine' ev_orV ?_ ?_ | with_reducible refine' ev_notV ?_
  | with_reducible refine' ev_lenT ?_ | with_reducible refine' ev_min ?_ ?_ | with_reducible refine' ev_max ?_ ?_
  | with_reducible refine' et_test ?_ | with_reducible refine' et_B ?_ | with_reducible refine' et_not ?_ | with_reducible refine' et_and ?_ ?_ | with_reducible refine' et_or ?_ ?_ | exact et_yes
  | with_reducible refine' eo_some ?_ | exact eo_none | (with_reducible intro _) | rfl))
local macro_rules | `(tactic| walk_at "ev") => `(tactic| repeat' walk_at "ev1")
local macro_rules | `(tactic| walk_at "sq") => `(tactic| try dsimp only [tSeq, tNext])
local macro_rules | `(tactic| walk_at "cx") => `(tactic| try dsimp only [cxOf, Cx.nox, Cx.wish])

section
variable {P : Program} {w : World} {K : Fg} {mg : Str → Option Value} {base : Heap}
theorem sqL_ext {H H' : Hp} {a : Addr} {xs : List V} (x : ExtN H H') (h : SqL K H a xs) : SqL K H' a xs := by
  rcases h with (h | ⟨o, h⟩) | h
  · exact Or.inl (Or.inl (x _ _ h fun _ z => nomatch z))
  · exact Or.inl (Or.inr ⟨o, x _ _ h fun _ z => nomatch z⟩)
  · exact Or.inr h
/-- l was new: all else stays -/
theorem BN.new {l : Addr} {A B C : Hp} (x : ExtN A B) (n : A l = none) (y : BN l B C) : ExtN A C := fun b o e z => y b o (ne_of_none e n) (x b o e z) z
theorem bn_tk {l : Addr} {A B : Hp} {n : Int} (x : BN l A B) (p : Pen A l n) : Tk A B := fun a xs r => by
  obtain ⟨_, _, _, h, _⟩ := p.ex
  have ne : a ≠ l := fun e => by
    subst e
    rcases r with r | ⟨ob, r⟩ <;> rw [h] at r <;> cases r
  rcases r with r | ⟨ob, r⟩
  · exact (x a _ ne r fun _ z => nomatch z).trans r.symm
  · exact (x a _ ne r fun _ z => nomatch z).trans r.symm
theorem fok_of {k : Nat} {x : Str} {st : Stmt} {N ps : List Str} {sp : Sp} {f : Addr} {fd : FuncData} (F : FunD K x x (defArgs st) (defBody st) (defScope st) [] [] f fd) (S : FnScope N ps (defScope st)) (len : ∀ vs H Q E, sp vs H Q E → vs.length = ps.length)
    (hbody : ∀ (cdv : Value) (A : Around) (outer : List Env) (s : Shared) (H : Hp) (vs : List V) (Q : VK) (E : XK), Room k (A.deeper (PyProof.Rows.envOfC x (defScope st) s.heap.objs.size f cdv)) → sp vs H Q E →
      ∃ t, PSs (cxOf CX0 P w K mg base N x (defScope st) f cdv A outer s H E).nox (defBody st) t ∧ t { nx := fun _ H' => Q .non H', rt := Q } (L2.start N vs) H) : FnOk P w K mg base CX0 (k + 1) f fd ps sp :=
  F.ok S len fun cdv A outer s H vs Q E hr h => let ⟨t, h1, h2⟩ := hbody cdv A outer s H vs Q E hr h; ⟨t, PSs.nox h1, h2⟩
abbrev s_law : Stmt := top 79
theorem sc_law : FnScope ["_law_script", "_law_k", "_law_pen_here"] ["_law_script"] (defScope s_law) := ⟨rfl, rfl, rfl, by decide +kernel, rfl, by decide +kernel, by decide +kernel⟩
def spLaw (K : Fg) (T : List NTab) : Sp := fun vs H Q _ => ∃ (a : Addr) (ns : List Int), vs = [.ref a] ∧ SqL K H a (ns.map V.int) ∧ TabsN T H ∧ ∀ H', Q (.bl true) H'
theorem d_law (t : Tbl mg base) (B : Bn K mg) (F_law_pen : Df P w K mg base 1 "_law_pen" ["_law_cell"] (spPen K)) (F_law_cell_at : Df P w K mg base 1 "_law_cell_at" ["_law_script", "_law_k"] (spCell K)) (F_law_draw : Df P w K mg base 1 "_law_draw" ["_law_pen_here", "_law_many"] (spDraw K))
    (F_law_small : Df P w K mg base 3 "_law_small" ["_law_pen_here"] (spSmall K)) (F_law_right : Df P w K mg base 12 "_law_right" ["_law_pen_here", "_law_setting", "_law_most"] (spRight K t.T)) {f : Addr} {fd : FuncData} (F : FunD K "law" "law" (defArgs s_law) (defBody s_law) (defScope s_law) [] [] f fd) : FnOk P w K mg base CX0 13 f fd ["_law_script"] (spLaw K t.T) := by
  refine fok_of F sc_law (fun vs H Q E h => by obtain ⟨_, _, e, _⟩ := h; rw [e]; rfl) fun cdv A outer s H vs Q E hr h => ?_
  refine ⟨_, (pss_cons (ps_for PassesOwn.never rfl (pi_range1 rfl B.range (pa_cons (pe_callB (c_max rfl) rfl B.max bt_max (pa_cons pe_int (pa_cons (pe_callB (c_min rfl) rfl B.min bt_min (pa_cons (pe_callB c_len rfl B.len bt_len (pa_cons (pv 0) pa_nil)) (pa_cons pe_int pa_nil))) pa_nil))) pa_nil)) (pg_name (i := 1) sc_law.nd rfl (by first | exact Or.inl rfl | exact Or.inr rfl)) (pss_cons (ps_set (i := 2) sc_law.nd rfl (by first | exact Or.inl rfl | exact Or.inr rfl) (pe_df F_law_pen (hr.mono (by decide)) rfl (pa_cons (pe_df F_law_cell_at (hr.mono (by decide)) rfl (pa_cons (pv 0) (pa_cons (pv 1) pa_nil))) pa_nil)))
  (pss_one (ps_if (pt_not (pt_val (pe_df F_law_right (hr.mono (by decide)) rfl (pa_cons (pv 2) (pa_cons (pe_df F_law_small (hr.mono (by decide)) rfl (pa_cons (pv 2) pa_nil)) (pa_cons (pe_op op_add pe_int (pe_df F_law_draw (hr.mono (by decide)) rfl (pa_cons (pv 2) (pa_cons pe_int pa_nil)))) pa_nil)))))) (pss_one (ps_ret pe_bl)) pss_nil))))
  (pss_one (ps_ret pe_bl))), ?_⟩
  obtain ⟨a, ns, rfl, hl, hT, q⟩ := h
  have env := env_start (K := K) (H := H) (N := ["_law_script", "_law_k", "_law_pen_here"]) (es := [.rf a]) (.cons rfl .nil)
  try simp only [unpackE, unpackD, wipeD, unT, List.map_cons, List.map_nil, List.length_cons, List.length_nil, List.cons_append, List.nil_append, List.replicate_succ, List.replicate_zero, List.set_cons_succ, List.set_cons_zero, Nat.reduceAdd, Nat.reduceSub] at env
  walk_at "cx"
  walk_at "sq"
  refine st_forR (K := K) (n := max 1 (min ((ns.map V.int).length : Int) 3)) (ea_c (ev_max ev_i (ev_min (ev_lenL hl (ev_v env rfl)) ev_i)) ea_n) (by omega) (by omega)
    (fun i s' H' => ExtN H H' ∧ TabsN t.T H' ∧ EnvD K H' s' [some (.rf a), none, none]) (fun H1 x1 => ⟨extN_of x1, tabs_same hT x1, env.mono (tk_of x1)⟩) ?_ ?_
  · rintro i s' H' hi ⟨e1, T1, env⟩
    have env := env.set (e := .im (.int (i : Int))) (.int _) 1
    try simp only [unpackE, unpackD, wipeD, unT, List.map_cons, List.map_nil, List.length_cons, List.length_nil, List.cons_append, List.nil_append, List.replicate_succ, List.replicate_zero, List.set_cons_succ, List.set_cons_zero, Nat.reduceAdd, Nat.reduceSub] at env
    dsimp only [gName]
    obtain ⟨v0, g0, r0⟩ := env.get (i := 0) rfl
    obtain ⟨v1, g1, r1⟩ := env.get (i := 1) rfl
    refine ⟨v0, g0, v1, g1, a, ns, i, .cons r0 (.cons r1 .nil), sqL_ext e1 hl, fun H2 x x2 => ⟨x, .cons (.int x) .nil, fun l H3 x3 nl pn => ?_⟩⟩
    have x13 := x2.trans x3
    have env := (env.mono (tk_of x13)).set (e := .rf l) rfl 2
    try simp only [unpackE, unpackD, wipeD, unT, List.map_cons, List.map_nil, List.length_cons, List.length_nil, List.cons_append, List.nil_append, List.replicate_succ, List.replicate_zero, List.set_cons_succ, List.set_cons_zero, Nat.reduceAdd, Nat.reduceSub] at env
    walk_at "sq"
    dsimp only [gName]
    obtain ⟨v2, g2, r2⟩ := env.get (i := 2) rfl
    obtain rfl : v2 = V.ref l := r2
    refine ⟨_, g2, _, g2, l, 0, .cons rfl .nil, pn, by omega, fun S vS H4 b4 pn4 ok rS => ⟨_, g2, l, 20, 2, .cons rfl (.cons (.int _) .nil), pn4, by omega, by omega, by omega, fun j H5 j0 j2 b5 pn5 => ⟨1, j, rfl, rfl, ?_⟩⟩⟩
    obtain ⟨jn, rfl⟩ := Int.eq_ofNat_of_zero_le j0
    have ej : (1 : Int) + (jn : Int) = ((jn + 1 : Nat) : Int) := by omega
    have rm : Im K H5 (V.int (1 + (jn : Int))) (.int ((jn + 1 : Nat) : Int)) := by rw [ej]; exact .int _
    have b35 := b4.trans b5
    have T3 := tabs_same T1 x13
    have T5 := tabs_but T3 pn b35
    refine ⟨l, 21, S, jn + 1, .cons rfl (.cons (Im.mono (b5.tk pn4) rS) (.cons rm .nil)), pn5, by omega, ok, T5, by omega, by omega, fun H6 T6 b6 => ⟨true, rfl, iteF ?_⟩⟩
    have nl' : H' l = none := x2.free nl
    have e6 : ExtN H' H6 := BN.new (extN_of x13) nl' ((BN.but b35).trans b6)
    refine ⟨e1.trans e6, T6, (env.mono ((b35.tk pn).trans (bn_tk b6 pn5))).weak rfl fun j e he => ?_⟩
    match j with
    | 0 => exact he
    | 1 | 2 => cases he
    | n + 3 => exact he
  · rintro s' H' ⟨e1, T1, env⟩
    walk_at "sq"
    exact q H'
end
end CB

/-! ## KH2 -/
set_option Elab.async false
set_option linter.all false
set_option maxRecDepth 100000
set_option maxHeartbeats 0
/-! From the head's facts to the law. -/
namespace CB
open PySem PySem.Spec PyProof.Rows L2 LamX NdefX CBH
section
variable {P : Program} {w : World} {K : Fg} {mg : Str → Option Value} {base h : Heap}
theorem fnP_of (c : He.SaysD faL fnL K) (KX : K.In h) (G : h.Ns mainGlobals mg) (i j : Nat) {x : Str} {st : Stmt} (h1 : fnL[i]? = some (dD x st)) (h2 : faL[j]? = some (.glo x)) : FnP K mg x st := by
  obtain ⟨fd, F⟩ := c.def_ i h1
  exact ⟨_, fd, He.glo_ok KX G (c.fact j h2), F⟩
theorem fnT_of (c : He.SaysD faL fnL K) (KX : K.In h) (G : h.Ns mainGlobals mg) (i j : Nat) {x : Str} {st : Stmt} (h1 : fnL[i]? = some (dD x st)) (h2 : faL[j]? = some (.glo x)) : FnT K mg x st (He.codeOf K (x, none)) := by
  obtain ⟨fd, F⟩ := c.def_ i h1
  have F : FunD K x x (defArgs st) (defBody st) (defScope st) [] [] (He.fAd K (x, none)) fd := F
  refine ⟨_, fd, He.glo_ok KX G (c.fact j h2), F, ?_⟩
  obtain ⟨oc, od, dV, kV, doc, pm, an, cdv, ct, osl, rfl, lk, hcd, _, _⟩ := F.ex
  obtain ⟨c', rfl⟩ := He.codeIn_ref hcd
  rw [He.codeOf_eq (c := c') lk rfl]
def csL (K : Fg) : List (Addr × Addr) := tfL.map (He.cT K)
def tblOf (c : He.SaysX faL fnL [] tfL exB w h K) (TB : ∀ p ∈ csL K, TabB base mg p.1 p.2) : Tbl mg base where
  cL := He.codeOf K ("long_run", none)
  PL := (He.cT K ("long_run", none)).2
  cW := He.codeOf K ("worth_of", none)
  PW := (He.cT K ("worth_of", none)).2
  cA := He.codeOf K ("are_prices", none)
  PA := (He.cT K ("are_prices", none)).2
  cR := He.codeOf K ("_law_right", none)
  PR := (He.cT K ("_law_right", none)).2
  bL := TB (He.cT K ("long_run", none)) (by unfold csL tfL; simp)
  bW := TB (He.cT K ("worth_of", none)) (by unfold csL tfL; simp)
  bA := TB (He.cT K ("are_prices", none)) (by unfold csL tfL; simp)
  bR := TB (He.cT K ("_law_right", none)) (by unfold csL tfL; simp)
  nd := of_decide_eq_true (He.ba c.more).2
def TT (K : Fg) : List NTab := [((He.cT K ("long_run", none)).2, fun _ _ => qL), ((He.cT K ("worth_of", none)).2, fun _ _ => qW), ((He.cT K ("are_prices", none)).2, fun _ _ => qA), ((He.cT K ("_law_right", none)).2, fun _ _ => qR)]
theorem law_ok (c : He.SaysX faL fnL [] tfL exB w h K) (KX : K.In h) (G : h.Ns mainGlobals mg) (TB : ∀ p ∈ csL K, TabB base mg p.1 p.2) {fl : Addr} {fdl : FuncData} (Fl : FunD K "law" "law" (defArgs s_law) (defBody s_law) (defScope s_law) [] [] fl fdl) : FnOk P w K mg base CX0 13 fl fdl ["_law_script"] (spLaw K (TT K)) := by
  have B : Bn K mg := ⟨He.free_ok KX G (c.t.d.fact 54 (f := .free "isinstance") rfl),
    He.free_ok KX G (c.t.d.fact 55 (f := .free "len") rfl),
    He.free_ok KX G (c.t.d.fact 56 (f := .free "min") rfl),
    He.free_ok KX G (c.t.d.fact 57 (f := .free "max") rfl),
    He.free_ok KX G (c.t.d.fact 58 (f := .free "sum") rfl),
    He.free_ok KX G (c.t.d.fact 59 (f := .free "all") rfl),
    He.free_ok KX G (c.t.d.fact 60 (f := .free "sorted") rfl),
    He.free_ok KX G (c.t.d.fact 61 (f := .free "int") rfl),
    He.free_ok KX G (c.t.d.fact 62 (f := .free "bool") rfl),
    He.free_ok KX G (c.t.d.fact 63 (f := .free "tuple") rfl),
    He.free_ok KX G (c.t.d.fact 64 (f := .free "str") rfl),
    He.free_ok KX G (c.t.d.fact 65 (f := .free "dict") rfl),
    He.free_ok KX G (c.t.d.fact 66 (f := .free "zip") rfl),
    He.free_ok KX G (c.t.d.fact 67 (f := .free "range") rfl),
    He.free_ok KX G (c.t.d.fact 68 (f := .free "enumerate") rfl),
    He.int_ok KX G (c.t.d.fact 69 (f := .int "MOST_WORK" 3) rfl),
    He.int_ok KX G (c.t.d.fact 70 (f := .int "MOST_ROOM" 5) rfl),
    He.int_ok KX G (c.t.d.fact 71 (f := .int "MOST_PATIENCE" 4) rfl),
    He.int_ok KX G (c.t.d.fact 72 (f := .int "MOST_TRIES" 3) rfl),
    He.int_ok KX G (c.t.d.fact 73 (f := .int "MOST_WAIT" 3) rfl),
    He.int_ok KX G (c.t.d.fact 74 (f := .int "MOST_TOKENS" 4) rfl),
    He.int_ok KX G (c.t.d.fact 75 (f := .int "MOST_OF_FUSE" 3) rfl),
    He.int_ok KX G (c.t.d.fact 76 (f := .int "MOST_STEADY" 9) rfl),
    He.int_ok KX G (c.t.d.fact 77 (f := .int "MOST_FRESH" 999) rfl),
    He.int_ok KX G (c.t.d.fact 78 (f := .int "LONGEST_ROW" 200) rfl),
    He.int_ok KX G (c.t.d.fact 79 (f := .int "LIMIT" 2000) rfl),
    He.int_ok KX G (c.t.d.fact 80 (f := .int "CAME" 0) rfl),
    He.int_ok KX G (c.t.d.fact 81 (f := .int "ANSWERED" 1) rfl),
    ⟨_, He.glo_ok KX G (c.t.d.fact 53 (f := .glo "WAYS") rfl), fun H => He.tupB_ok (He.ba c.more).1 H⟩⟩
  have hmG := He.glo_ok KX G (c.t.d.fact 52 (f := .glo "Graph") rfl)
  have mk := He.mkr_ok (c.t.d.fact 83 (f := .mkr "Graph") rfl)
  have gc : GrC K (He.ga K "Graph") := ⟨He.cls_ok (c.t.d.fact 82 (f := .cls "Graph") rfl), He.noat_ok (c.t.d.fact 85 (f := .noat "Graph" "nodes") rfl), He.noat_ok (c.t.d.fact 86 (f := .noat "Graph" "edges") rfl), He.noat_ok (c.t.d.fact 87 (f := .noat "Graph" "before") rfl)⟩
  obtain ⟨fdi, Fi⟩ := c.t.d.def_ 52 rfl
  have Fi : FunD K "__init__" "Graph.__init__" (defArgs s_Graph___init__) (defBody s_Graph___init__) (defScope s_Graph___init__) [] [] (He.ma K (He.ga K "Graph") "__init__") fdi := Fi
  have bnI : Binds K fdi ["self", "first", "most", "go"] [] := Fi.bindsN fun _ _ _ _ _ _ us hl => match us, hl with | [_, _, _, _], _ => rfl
  obtain ⟨fdr, Fr⟩ := c.t.d.def_ 53 rfl
  have Fr : FunD K "row_to" "Graph.row_to" (defArgs s_Graph_row_to) (defBody s_Graph_row_to) (defScope s_Graph_row_to) [] [] (He.ma K (He.ga K "Graph") "row_to") fdr := Fr
  obtain ⟨fdm, Fm⟩ := c.t.d.def_ 51 rfl
  have Fm : FunD K "need_most" "need_most" (defArgs s_need_most) (defBody s_need_most) (defScope s_need_most) [V.int 1] [] (He.ga K "need_most") fdm := Fm
  have F_is_price := d_is_price (P := P) (w := w) (base := base) (B := B) (F := fnP_of c.t.d KX G 34 35 rfl rfl)
  have F_is_whole := d_is_whole (P := P) (w := w) (base := base) (B := B) (F := fnP_of c.t.d KX G 0 0 rfl rfl)
  have F_is_count := d_is_count (P := P) (w := w) (base := base) (B := B) (F := fnP_of c.t.d KX G 1 1 rfl rfl)
  have F_is_fuse := d_is_fuse (P := P) (w := w) (base := base) (B := B) (F_is_whole := F_is_whole) (F := fnP_of c.t.d KX G 2 2 rfl rfl)
  have F_is_setting := d_is_setting (P := P) (w := w) (base := base) (B := B) (F_is_whole := F_is_whole) (F_is_fuse := F_is_fuse) (F := fnP_of c.t.d KX G 3 3 rfl rfl)
  have F_need_setting := d_need_setting (P := P) (w := w) (base := base) (F_is_setting := F_is_setting) (F := fnP_of c.t.d KX G 4 4 rfl rfl)
  have F_most_tokens := d_most_tokens (P := P) (w := w) (base := base) (F := fnP_of c.t.d KX G 5 5 rfl rfl)
  have F_most_rest := d_most_rest (P := P) (w := w) (base := base) (F := fnP_of c.t.d KX G 6 6 rfl rfl)
  have F_first_of := d_first_of (P := P) (w := w) (base := base) (F_most_tokens := F_most_tokens) (F := fnP_of c.t.d KX G 7 7 rfl rfl)
  have F_first_state := d_first_state (P := P) (w := w) (base := base) (F_need_setting := F_need_setting) (F_first_of := F_first_of) (F := fnP_of c.t.d KX G 8 8 rfl rfl)
  have F_is_queue := d_is_queue (P := P) (w := w) (base := base) (B := B) (F_is_whole := F_is_whole) (F := fnP_of c.t.d KX G 9 9 rfl rfl)
  have F_is_later := d_is_later (P := P) (w := w) (base := base) (B := B) (F_is_count := F_is_count) (F := fnP_of c.t.d KX G 10 10 rfl rfl)
  have F_is_state_of := d_is_state_of (P := P) (w := w) (base := base) (B := B) (F_is_whole := F_is_whole) (F_is_queue := F_is_queue) (F_is_later := F_is_later) (F_most_tokens := F_most_tokens) (F_most_rest := F_most_rest) (F := fnP_of c.t.d KX G 11 11 rfl rfl)
  have F_need_state := d_need_state (P := P) (w := w) (base := base) (F_is_state_of := F_is_state_of) (F := fnP_of c.t.d KX G 12 12 rfl rfl)
  have F_need_most := d_need_most (P := P) (w := w) (base := base) (B := B) (F_is_whole := F_is_whole) (F := ⟨_, _, He.glo_ok KX G (c.t.d.fact 13 (f := .glo "need_most") rfl), Fm⟩)
  have F_coming := d_coming (P := P) (w := w) (base := base) (B := B) (F := fnP_of c.t.d KX G 13 14 rfl rfl)
  have F_entered := d_entered (P := P) (w := w) (base := base) (B := B) (F := fnP_of c.t.d KX G 14 15 rfl rfl)
  have F_served := d_served (P := P) (w := w) (base := base) (B := B) (F := fnP_of c.t.d KX G 15 16 rfl rfl)
  have F_aged := d_aged (P := P) (w := w) (base := base) (B := B) (F := fnP_of c.t.d KX G 16 17 rfl rfl)
  have F_shut_then := d_shut_then (P := P) (w := w) (base := base) (B := B) (F := fnP_of c.t.d KX G 17 18 rfl rfl)
  have F_step := d_step (P := P) (w := w) (base := base) (B := B) (F_coming := F_coming) (F_entered := F_entered) (F_served := F_served) (F_aged := F_aged) (F_shut_then := F_shut_then) (F_most_tokens := F_most_tokens) (F := fnP_of c.t.d KX G 18 19 rfl rfl)
  have F_is_row := d_is_row (P := P) (w := w) (base := base) (B := B) (F_is_whole := F_is_whole) (F := fnP_of c.t.d KX G 19 20 rfl rfl)
  have F_steps := d_steps (P := P) (w := w) (base := base) (B := B) (F_step := F_step) (F := fnP_of c.t.d KX G 20 21 rfl rfl)
  have F_need_all := d_need_all (P := P) (w := w) (base := base) (B := B) (F_need_setting := F_need_setting) (F_need_state := F_need_state) (F_is_row := F_is_row) (F := fnP_of c.t.d KX G 21 22 rfl rfl)
  have F_totals := d_totals (P := P) (w := w) (base := base) (B := B) (F_need_all := F_need_all) (F_steps := F_steps) (F := fnP_of c.t.d KX G 22 23 rfl rfl)
  have F_init := d_init (P := P) (w := w) (base := base) (B := B) (gc := gc) (F_step := F_step) (F := Fi)
  have F_row_to := d_row_to (P := P) (w := w) (base := base) (B := B) (gc := gc) (F := ⟨_, _, He.meth_ok (c.t.d.fact 84 (f := .meth "Graph" "row_to") rfl), Fr⟩)
  have F_are_numbers := d_are_numbers (P := P) (w := w) (base := base) (B := B) (F_is_whole := F_is_whole) (F := fnP_of c.t.d KX G 23 24 rfl rfl)
  have F_table_of := d_table_of (P := P) (w := w) (base := base) (B := B) (F_is_state_of := F_is_state_of) (F_is_price := F_is_price) (F := fnP_of c.t.d KX G 24 25 rfl rfl)
  have F_state_behind := d_state_behind (P := P) (w := w) (base := base) (B := B) (F_step := F_step) (F := fnP_of c.t.d KX G 25 26 rfl rfl)
  have F_divisor := d_divisor (P := P) (w := w) (base := base) (F := fnP_of c.t.d KX G 26 27 rfl rfl)
  have F_round_among := d_round_among (P := P) (w := w) (base := base) (B := B) (F := fnP_of c.t.d KX G 27 28 rfl rfl)
  have F_climbed := d_climbed (P := P) (w := w) (base := base) (B := B) (F_round_among := F_round_among) (F := fnP_of c.t.d KX G 28 29 rfl rfl)
  have F_worth_of := d_worth_of (P := P) (w := w) (base := base) (t := tblOf c TB) (F := fnT_of c.t.d KX G 29 30 rfl rfl)
  have F_quotient := d_quotient (P := P) (w := w) (base := base) (B := B) (F_divisor := F_divisor) (F := fnP_of c.t.d KX G 30 31 rfl rfl)
  have F_full_round := d_full_round (P := P) (w := w) (base := base) (B := B) (F := fnP_of c.t.d KX G 31 32 rfl rfl)
  have F_long_run := d_long_run (P := P) (w := w) (base := base) (t := tblOf c TB) (B := B) (gc := gc) (mk := mk) (hmG := hmG) (F_init := F_init) (bnI := bnI) (F_first_of := F_first_of) (F_full_round := F_full_round) (F_quotient := F_quotient) (F_climbed := F_climbed) (F_worth_of := F_worth_of) (F_row_to := F_row_to) (F := fnT_of c.t.d KX G 32 33 rfl rfl)
  have F_is_fraction := d_is_fraction (P := P) (w := w) (base := base) (B := B) (F_divisor := F_divisor) (F := fnP_of c.t.d KX G 33 34 rfl rfl)
  have F_are_prices := d_are_prices (P := P) (w := w) (base := base) (t := tblOf c TB) (B := B) (hmp := He.glo_ok KX G (c.t.d.fact 35 (f := .glo "is_price") rfl)) (F_table_of := F_table_of) (F_first_of := F_first_of) (F_step := F_step) (F := fnT_of c.t.d KX G 35 36 rfl rfl)
  have F_is_long_run := d_is_long_run (P := P) (w := w) (base := base) (t := tblOf c TB) (B := B) (F_is_fraction := F_is_fraction) (F_are_numbers := F_are_numbers) (F_state_behind := F_state_behind) (F_first_of := F_first_of) (F_step := F_step) (F_are_prices := F_are_prices) (F_worth_of := F_worth_of) (F := fnP_of c.t.d KX G 36 37 rfl rfl)
  have F_load := d_load (P := P) (w := w) (base := base) (t := tblOf c TB) (B := B) (F_need_setting := F_need_setting) (F_need_most := F_need_most) (F_long_run := F_long_run) (F := fnP_of c.t.d KX G 37 38 rfl rfl)
  have F_worst := d_worst (P := P) (w := w) (base := base) (t := tblOf c TB) (B := B) (F_need_setting := F_need_setting) (F_need_most := F_need_most) (F_long_run := F_long_run) (F := fnP_of c.t.d KX G 38 39 rfl rfl)
  have F_shows_load := d_shows_load (P := P) (w := w) (base := base) (t := tblOf c TB) (B := B) (F_need_setting := F_need_setting) (F_need_most := F_need_most) (F_is_long_run := F_is_long_run) (F := fnP_of c.t.d KX G 39 40 rfl rfl)
  have F_shows_worst := d_shows_worst (P := P) (w := w) (base := base) (t := tblOf c TB) (B := B) (F_need_setting := F_need_setting) (F_need_most := F_need_most) (F_is_long_run := F_is_long_run) (F := fnP_of c.t.d KX G 40 41 rfl rfl)
  have F_law_cell_at := d_law_cell_at (P := P) (w := w) (base := base) (B := B) (F := fnP_of c.t.d KX G 41 42 rfl rfl)
  have F_law_pen := d_law_pen (P := P) (w := w) (base := base) (B := B) (F := fnP_of c.t.d KX G 42 43 rfl rfl)
  have F_law_draw := d_law_draw (P := P) (w := w) (base := base) (B := B) (F := fnP_of c.t.d KX G 43 44 rfl rfl)
  have F_law_pick := d_law_pick (P := P) (w := w) (base := base) (B := B) (F_law_draw := F_law_draw) (F := fnP_of c.t.d KX G 44 45 rfl rfl)
  have F_law_small := d_law_small (P := P) (w := w) (base := base) (B := B) (F_law_draw := F_law_draw) (F_law_pick := F_law_pick) (F := fnP_of c.t.d KX G 45 46 rfl rfl)
  have F_law_round_right := d_law_round_right (P := P) (w := w) (base := base) (B := B) (F_first_state := F_first_state) (F_totals := F_totals) (F := fnP_of c.t.d KX G 47 48 rfl rfl)
  have F_law_bounded := d_law_bounded (P := P) (w := w) (base := base) (B := B) (F_law_draw := F_law_draw) (F_first_state := F_first_state) (F_totals := F_totals) (F := fnP_of c.t.d KX G 48 49 rfl rfl)
  have F_law_right := d_law_right (P := P) (w := w) (base := base) (t := tblOf c TB) (B := B) (FT := fnP_of c.t.d KX G 46 47 rfl rfl) (F_load := F_load) (F_worst := F_worst) (F_shows_load := F_shows_load) (F_shows_worst := F_shows_worst) (F_law_round_right := F_law_round_right) (F_law_bounded := F_law_bounded) (F := fnT_of c.t.d KX G 49 50 rfl rfl)
  exact d_law (P := P) (w := w) (base := base) (t := tblOf c TB) (B := B) (F_law_pen := F_law_pen) (F_law_cell_at := F_law_cell_at) (F_law_draw := F_law_draw) (F_law_small := F_law_small) (F_law_right := F_law_right) (F := Fl)
end
end CB

/-! ## KH3 -/
set_option Elab.async false
set_option linter.all false
set_option maxRecDepth 100000
set_option maxHeartbeats 0
/-! The law. -/
namespace CB
open PySem PySem.Spec PyProof.Rows L2 LamX NdefX CBH
theorem tabs0 {K : Fg} {H : Hp} (h : ∀ p ∈ csL K, H p.2 = some (.tbl #[])) : TabsN (TT K) H := by
  have a1 := h (He.cT K ("long_run", none)) (by unfold csL tfL; simp)
  have a2 := h (He.cT K ("worth_of", none)) (by unfold csL tfL; simp)
  have a3 := h (He.cT K ("are_prices", none)) (by unfold csL tfL; simp)
  have a4 := h (He.cT K ("_law_right", none)) (by unfold csL tfL; simp)
  intro p hp
  unfold TT at hp
  rcases List.mem_cons.mp hp with rfl | hp
  · exact TabN.of (TabS.nil a1)
  rcases List.mem_cons.mp hp with rfl | hp
  · exact TabN.of (TabS.nil a2)
  rcases List.mem_cons.mp hp with rfl | hp
  · exact TabN.of (TabS.nil a3)
  · rw [List.mem_singleton.mp hp]
    exact TabN.of (TabS.nil a4)
theorem at_end (w : World) (mg : Str → Option Value) (fa : Addr) (h : Heap) (Y : hk.says w h) (G : h.Ns mainGlobals mg) (hmg : mg "law" = some (.ref fa)) :
    ∃ K : PySem.W.Frag, K.In h ∧ LawAtS PySem.Challenge.rw_comesback_k80_whole_loads w K L2.CX0 13 63 "_law_script" mg fa h := by
  obtain ⟨K, KX, c⟩ := Y
  obtain ⟨fd, F⟩ := c.t.d.def_ 50 rfl
  have F : FunD K "law" "law" (defArgs s_law) (defBody s_law) (defScope s_law) [] [] (He.ga K "law") fd := F
  have e := hmg.symm.trans (He.glo_ok KX G (c.t.d.fact 51 (f := .glo "law") rfl))
  cases e
  refine ⟨K, KX, fd, csL K, spLaw K (TT K), ?_, ?_, ?_, ?_, ?_, ?_⟩
  · intro p hp
    obtain ⟨q, hq, rfl⟩ := List.mem_map.mp hp
    exact c.empty q hq
  · intro p hp
    obtain ⟨q, hq, rfl⟩ := List.mem_map.mp hp
    exact c.out q hq
  · intro p hp
    obtain ⟨q, hq, rfl⟩ := List.mem_map.mp hp
    exact PySem.W.codeHd_of_K KX (c.hd q hq)
  · exact fun s v => F.bindsA (ps := ["_law_script"]) (fun _ _ _ _ _ _ us hl => match us, hl with | [_], _ => rfl) s [v] rfl
  · exact fun H a ns _ _ hH hS => ⟨a, ns, rfl, hS, tabs0 hH, fun _ => rfl⟩
  · exact fun base _ _ TB => law_ok c KX G TB F
end CB
open PySem PySem.W PySem.Calls PyProof.Rows
theorem PySem.Challenge.cw_comesback_k80_whole_loads_holds : PySem.Challenge.rw_comesback_k80_whole_loads.Holds := by
  w_on; o_law
  refine HandSHeadRun.head_any (r := CBH.RR) (q := CBH.qv) (H := CBH.hk) (ob := CBH.obH) (M := 4000) (loose := CBH.loose) (d := HandSHeadRun.topDef CBH.RR.prog 79) (kwd := []) CBH.obH_eq
    (by kernel_rfl) (fun s => by kernel_rfl) CBH.runH (by kernel_rfl) (by kernel_rfl) (by kernel_rfl) (by rfl) (by first | assumption | decide +kernel) (by decide +kernel) ⟨rfl, rfl, rfl, rfl, rfl, by decide +kernel⟩ ?hw ?hc
  case hw => w_witness2
  case hc =>
    refine LamX.walk_ofTsE (l := PySem.Challenge.rw_comesback_k80_whole_loads) (n := 63) (k := 13) (x := "_law_script") (CX := fun _ => L2.CX0) rfl (by decide) (by kernel_rfl) ⟨rfl, by decide, by decide⟩ ?F (fun _ _ _ _ _ z => z)
    intro w mg fa h Y G hmg0
    have hmg : mg ("law" : PySem.Str) = some (.ref fa) := by
      have e : (HandSHeadRun.topDef CBH.RR.prog 79).name = ("law" : PySem.Str) := by kernel_rfl
      rw [← e]
      exact hmg0
    exact CB.at_end w mg fa h Y G hmg

