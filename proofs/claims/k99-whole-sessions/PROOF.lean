import PyProof.Rows.All
import Wide.All
import OpenK.AllK
import Wide.FinOn
import HandS.Head0
import HandS.Head1
import HandS.Head2
import PyProof.EqAt
import PyProof.EqKinds
import PyProof.TupleCall
import KE.KFromBytes
import KE.KExcInit
import KE.GoesEnum
import HandS.ForMost
import HandS.ForExc
import HandS.ExcInit
import HandS.TryOnly
import HandS.Property
import HandS.IsInst
import HandS.OwnEq
import HandS.Wide
import HandS.Star
import HandS.StrMore
import HandS.Defaults
import HandS.HeadHook1
import HandS.HeadHook2
import HandS.HeadHook3
import HandS.HeadEnd
import HandS.Evl
import HandS.Steps
import HandS.Style
import HandS.ListEq
import HandS.Deep
import HandS.Zip
import HandS.HeadWalk
import HandS.Base
import HandS.Call
import HandS.List
import HandS.Exc
import HandS.Walk
import PyProof.NeKinds
import KE.GoesMore
import KE.GoesZip
import KE.KUnpackStar
import KE.KTryMore
import KE.KCallOwn
import HandS.RaiseMore
import PySem.Challenge.RW_everyzone_k99_whole_sessions_replayed
set_option Elab.async false
set_option linter.all false
set_option maxRecDepth 100000
set_option maxHeartbeats 0
namespace K99
open PySem PySem.W PySem.Calls PyProof.Rows
abbrev R : OpenRow := OpenLaw.row PySem.Challenge.rw_everyzone_k99_whole_sessions_replayed
abbrev qv : Program := view R.prog [167]
def nm0 : List PySem.Str := [("_wall" : PySem.Str), ("TimeError" : PySem.Str), ("MissingError" : PySem.Str), ("StateError" : PySem.Str), ("InvalidPart" : PySem.Str), ("InvalidInteger" : PySem.Str), ("InvalidText" : PySem.Str), ("InvalidLine" : PySem.Str), ("InvalidCommand" : PySem.Str), ("InvalidChange" : PySem.Str), ("InvalidJump" : PySem.Str), ("InvalidRule" : PySem.Str), ("Duplicate" : PySem.Str), ("NotZone" : PySem.Str), ("NotKind" : PySem.Str), ("NotProgram" : PySem.Str)]
def nm1 : List PySem.Str := [("NoAnswer" : PySem.Str), ("UnknownName" : PySem.Str), ("NoLine" : PySem.Str), ("NotStart" : PySem.Str), ("NoProgram" : PySem.Str), ("NothingToUndo" : PySem.Str), ("LETTERS" : PySem.Str), ("DIGITS" : PySem.Str), ("LONGEST_NAME" : PySem.Str), ("DAY" : PySem.Str), ("HOUR" : PySem.Str), ("is_whole" : PySem.Str), ("is_integer" : PySem.Str), ("is_name" : PySem.Str), ("is_list" : PySem.Str), ("need_integer" : PySem.Str)]
def nm2 : List PySem.Str := [("time_of" : PySem.Str), ("told_time" : PySem.Str), ("told_integer" : PySem.Str), ("VALUES" : PySem.Str), ("RING" : PySem.Str), ("names_in" : PySem.Str), ("ring_behind" : PySem.Str), ("settled" : PySem.Str), ("narrowed" : PySem.Str), ("is_open" : PySem.Str), ("farthest" : PySem.Str), ("AHEAD" : PySem.Str), ("BEHIND" : PySem.Str), ("STRICT" : PySem.Str), ("GREATEST_JUMP" : PySem.Str), ("RULES_zones" : PySem.Str)]
def nm3 : List PySem.Str := [("is_pair" : PySem.Str), ("is_rule" : PySem.Str), ("Zone" : PySem.Str), ("need_zone" : PySem.Str), ("MOST_JUMPS_kinds" : PySem.Str), ("MOST_CHANGES" : PySem.Str), ("USUAL_CHANGES" : PySem.Str), ("Kind" : PySem.Str), ("need_kind" : PySem.Str), ("MOMENT" : PySem.Str), ("READING" : PySem.Str), ("NUMBER" : PySem.Str), ("TRUTH" : PySem.Str), ("NOW" : PySem.Str), ("RULES_programs" : PySem.Str), ("MOST_LINES" : PySem.Str)]
def nm4 : List PySem.Str := [("MOST_ANSWERS" : PySem.Str), ("MOST_MINUTES" : PySem.Str), ("MOST_DAYS" : PySem.Str), ("ADD" : PySem.Str), ("DAYS" : PySem.Str), ("AT" : PySem.Str), ("is_any" : PySem.Str), ("kind_of_one" : PySem.Str), ("kind_of_two" : PySem.Str), ("kind_of_line" : PySem.Str), ("start_of" : PySem.Str), ("are_answers" : PySem.Str), ("Program" : PySem.Str), ("need_program" : PySem.Str), ("FAILS" : PySem.Str), ("value_of" : PySem.Str)]
def nm5 : List PySem.Str := [("traced" : PySem.Str), ("run" : PySem.Str), ("START" : PySem.Str), ("MIDNIGHT" : PySem.Str), ("NEXT" : PySem.Str), ("LAST" : PySem.Str), ("base_bounds" : PySem.Str), ("Walk" : PySem.Str), ("word_of" : PySem.Str), ("difference" : PySem.Str), ("walks_from" : PySem.Str), ("walks" : PySem.Str), ("full_bounds" : PySem.Str), ("zone_of" : PySem.Str), ("example_of" : PySem.Str), ("cases" : PySem.Str)]
def nm6 : List PySem.Str := [("MOST_NUMBER" : PySem.Str), ("MOST_INDEX" : PySem.Str), ("MOST_JUMPS_commands" : PySem.Str), ("BEGIN" : PySem.Str), ("PUT" : PySem.Str), ("TAKE" : PySem.Str), ("REPLACE" : PySem.Str), ("CHANGES" : PySem.Str), ("FORMS" : PySem.Str), ("index_of" : PySem.Str), ("part_of" : PySem.Str), ("texts_of" : PySem.Str), ("parts_of" : PySem.Str), ("command_of" : PySem.Str), ("unlike_time" : PySem.Str), ("parting_time" : PySem.Str)]
def nm7 : List PySem.Str := [("parted" : PySem.Str), ("with_line" : PySem.Str), ("needless" : PySem.Str), ("need_asked" : PySem.Str), ("need_asked_faults" : PySem.Str), ("faults" : PySem.Str), ("failing" : PySem.Str), ("need_asked_outcomes" : PySem.Str), ("need_answer" : PySem.Str), ("Outcome" : PySem.Str), ("outcomes" : PySem.Str), ("merged" : PySem.Str), ("values_among" : PySem.Str), ("values_of" : PySem.Str), ("joined" : PySem.Str), ("kind_text" : PySem.Str)]
def nm8 : List PySem.Str := [("number_text" : PySem.Str), ("answer_text" : PySem.Str), ("STOPS" : PySem.Str), ("State" : PySem.Str), ("with_lines" : PySem.Str), ("edited" : PySem.Str), ("state_behind" : PySem.Str), ("stretch_text" : PySem.Str), ("told_answers" : PySem.Str), ("told_run" : PySem.Str), ("reply" : PySem.Str), ("Session" : PySem.Str), ("_law_cell" : PySem.Str), ("_law_box" : PySem.Str), ("_law_take" : PySem.Str), ("_law_line_of" : PySem.Str)]
def nm9 : List PySem.Str := [("_law_change" : PySem.Str), ("_law_said" : PySem.Str), ("_law_state" : PySem.Str), ("_law_wound" : PySem.Str), ("_law_made" : PySem.Str), ("_law_replayed" : PySem.Str), ("_law_long_right" : PySem.Str)]
def names : List PySem.Str := nm0 ++ (nm1 ++ (nm2 ++ (nm3 ++ (nm4 ++ (nm5 ++ (nm6 ++ (nm7 ++ (nm8 ++ (nm9)))))))))
end K99
noncomputable section
namespace HS
open PySem PySem.W PySem.Calls PyProof.Rows HandSHeadRun
/-! ### the run, by one small rule a kind of step -/
def frL {α β : Type} : List β → (List β → α) → α
  | [], k => k []
  | x :: r, k => frL r fun l => k (x :: l)
theorem frL_eq {α β : Type} : ∀ (l : List β) (k : List β → α), frL l k = k l
  | [], _ => rfl
  | x :: r, k => by
    show frL r (fun l => k (x :: l)) = _
    rw [frL_eq r]
abbrev Rn : Type := SharedT → Thread → Option SharedT
def fN {α : Type} (n : Nat) (k : Nat → α) : α := @Nat.rec (fun _ => α) (k 0) (fun m _ => k (Nat.succ m)) n
theorem fN_eq {α : Type} (n : Nat) (k : Nat → α) : fN n k = k n := by cases n <;> rfl
def gT (t : BT) : Nat → Option Obj := @BT.rec (fun _ => Nat → Option Obj) (fun _ => none) (fun v _ _ il ir i => @Bool.rec (fun _ => Option Obj) (@Bool.rec (fun _ => Option Obj) (ir (Nat.sub (Nat.div i 2) 1)) (il (Nat.div i 2)) (Nat.beq (Nat.mod i 2) 1)) (some v) (Nat.beq i 0)) t
theorem gT_eq : ∀ (t : BT) (i : Nat), gT t i = t.get i
  | .nil, _ => rfl
  | .node v l r, i => by
    show @Bool.rec (fun _ => Option Obj) (@Bool.rec (fun _ => Option Obj) (gT r (i / 2 - 1)) (gT l (i / 2)) (Nat.beq (i % 2) 1)) (some v) (Nat.beq i 0) = _
    rw [gT_eq l, gT_eq r]
    show _ = (match Nat.beq i 0 with | true => some v | false => match Nat.beq (i % 2) 1 with | true => l.get (i / 2) | false => r.get (i / 2 - 1))
    cases Nat.beq i 0 <;> cases Nat.beq (i % 2) 1 <;> rfl
def iT (t : BT) : Nat → Obj → BT := @BT.rec (fun _ => Nat → Obj → BT) (fun _ o => .node o .nil .nil) (fun v l r il ir i o => @Bool.rec (fun _ => BT) (@Bool.rec (fun _ => BT) (.node v l (ir (Nat.sub (Nat.div i 2) 1) o)) (.node v (il (Nat.div i 2) o) r) (Nat.beq (Nat.mod i 2) 1)) (.node o l r) (Nat.beq i 0)) t
theorem iT_eq : ∀ (t : BT) (i : Nat) (o : Obj), iT t i o = t.ins i o
  | .nil, _, _ => rfl
  | .node v l r, i, o => by
    show @Bool.rec (fun _ => BT) (@Bool.rec (fun _ => BT) (.node v l (iT r (i / 2 - 1) o)) (.node v (iT l (i / 2) o) r) (Nat.beq (i % 2) 1)) (.node o l r) (Nat.beq i 0) = _
    rw [iT_eq l, iT_eq r]
    show _ = (match Nat.beq i 0 with | true => BT.node o l r | false => match Nat.beq (i % 2) 1 with | true => .node v (l.ins (i / 2) o) r | false => .node v l (r.ins (i / 2 - 1) o))
    cases Nat.beq i 0 <;> cases Nat.beq (i % 2) 1 <;> rfl
def sT (t : BT) : Nat → (Obj → Obj) → BT := @BT.rec (fun _ => Nat → (Obj → Obj) → BT) (fun _ _ => .nil) (fun v l r il ir i f => @Bool.rec (fun _ => BT) (@Bool.rec (fun _ => BT) (.node v l (ir (Nat.sub (Nat.div i 2) 1) f)) (.node v (il (Nat.div i 2) f) r) (Nat.beq (Nat.mod i 2) 1)) (.node (f v) l r) (Nat.beq i 0)) t
theorem sT_eq : ∀ (t : BT) (i : Nat) (f : Obj → Obj), sT t i f = t.set i f
  | .nil, _, _ => rfl
  | .node v l r, i, f => by
    show @Bool.rec (fun _ => BT) (@Bool.rec (fun _ => BT) (.node v l (sT r (i / 2 - 1) f)) (.node v (sT l (i / 2) f) r) (Nat.beq (i % 2) 1)) (.node (f v) l r) (Nat.beq i 0) = _
    rw [sT_eq l, sT_eq r]
    show _ = (match Nat.beq i 0 with | true => BT.node (f v) l r | false => match Nat.beq (i % 2) 1 with | true => .node v (l.set (i / 2) f) r | false => .node v l (r.set (i / 2 - 1) f))
    cases Nat.beq i 0 <;> cases Nat.beq (i % 2) 1 <;> rfl
section
variable (den : Code → Sem PySem.Fin) (p : Program) (w : World) (n0 : Nat) (ann : Option Value)
/-- any other step, as the library has it -/
def bO (ih : Rn) (s : SharedT) (t : Thread) : Option SharedT := match through t with
  | true => some s
  | false => match stepOk n0 ann t with
    | false => none
    | true => match stepT den p w s t with
      | some (s', t') => frS s' fun s' => ih s' t'
      | none => none
def oB {α β : Type} (x : Option α) (k : α → Option β) : Option β := @Option.rec α (fun _ => Option β) none k x
def bL (ih : Rn) (s : SharedT) (code : Code) (pos : Pos) (stack : List Frame) (a : Addr) (k : Obj → Sem PySem.Fin) : Option SharedT :=
  @SharedT.rec (fun _ => Option SharedT) (fun T n _ _ _ _ _ => @Bool.rec (fun _ => Option SharedT) none (oB (gT T a) fun o => oB (alive o) fun o' => ih s ⟨k o', code, pos, stack⟩) (Nat.blt a n)) s
def bI (ih : Rn) (s : SharedT) (code : Code) (pos : Pos) (stack : List Frame) (a : Addr) (k : Option Obj → Sem PySem.Fin) : Option SharedT :=
  @SharedT.rec (fun _ => Option SharedT) (fun T n _ _ _ _ _ => @Bool.rec (fun _ => Option SharedT) (ih s ⟨k none, code, pos, stack⟩) (oB (gT T a) fun o => ih s ⟨k (alive o), code, pos, stack⟩) (Nat.blt a n)) s
def okU (a : Addr) : Bool := Nat.ble n0 a || a == mainNs || a == cStatics || ann == some (.ref a)
def bU (ih : Rn) (s : SharedT) (code : Code) (pos : Pos) (stack : List Frame) (a : Addr) (f : Obj → Obj) (k : Unit → Sem PySem.Fin) : Option SharedT :=
  @SharedT.rec (fun _ => Option SharedT) (fun T n life gens drawn toks os => @Bool.rec (fun _ => Option SharedT) none (@Bool.rec (fun _ => Option SharedT) none (oB (gT T a) fun o => oB (alive o) fun _ => ih ⟨sT T a f, n, life, gens, drawn, toks, os⟩ ⟨k (), code, pos, stack⟩) (Nat.blt a n)) (okU n0 ann a)) s
def bA (ih : Rn) (s : SharedT) (code : Code) (pos : Pos) (stack : List Frame) (o : Obj) (k : Addr → Sem PySem.Fin) : Option SharedT :=
  @SharedT.rec (fun _ => Option SharedT) (fun T n life gens drawn toks os => (fun T' => oB (gT T' n) fun _ => fN (Nat.succ n) fun n' => ih ⟨T', n', life, gens, drawn, toks, os⟩ ⟨k n, code, pos, stack⟩) (iT T n o)) s
def bF (ih : Rn) (s : SharedT) (code : Code) (pos : Pos) (stack : List Frame) (k : Tok → Sem PySem.Fin) : Option SharedT :=
  @SharedT.rec (fun _ => Option SharedT) (fun T n life gens drawn toks os => fN (Nat.succ toks) fun z => ih ⟨T, n, life, gens, drawn, z, os⟩ ⟨k toks, code, pos, stack⟩) s
def kept (c code : Code) (l : List Value) : List Value := match c, code with
  | .builtin _ a, _ => unmarked a.refs
  | .call f a, .builtin .. | .call f a, .call .. => unmarked (if l.contains borrowed then a.refs else f :: a.refs)
  | _, _ => []
def bC (ih : Rn) (s : SharedT) (code : Code) (pos : Pos) (stack : List Frame) (c : Code) (h : Option Value) (g : Bool) (l : List Value) (k : Result → Sem PySem.Fin) : Option SharedT :=
  ih s ⟨den c, c, pos, .ret k h g l code pos (kept c code l) :: stack⟩
def agStack (code c : Code) (stack : List Frame) : List Frame := match code, c, stack with
  | .builtin .., .call f a, .ret k h g l cd p kept :: rest => .ret k h g l cd p (kept ++ unmarked (f :: a.refs)) :: rest
  | .call f _, .call .., .ret k h g l cd p kept :: rest => .ret k h g l cd p (kept ++ .ellipsis :: unmarked [f]) :: rest
  | .call f a, .builtin .., .ret k h g l cd p kept :: rest =>
    .ret k h g l cd p (if l.contains borrowed then kept.takeWhile (· != .ellipsis) ++ unmarked a.refs else unmarked (kept ++ f :: a.refs)) :: rest
  | .call .., _, .ret k h g l cd p kept :: rest => .ret k h g l cd p (kept.takeWhile (· != .ellipsis)) :: rest
  | _, _, _ => stack
def okG (c : Code) : Bool := match c with
  | .builtin id _ => !id.startsWith "lifetime."
  | _ => true
def bG (ih : Rn) (s : SharedT) (code : Code) (pos : Pos) (stack : List Frame) (c : Code) : Option SharedT :=
  @Bool.rec (fun _ => Option SharedT) none (ih s ⟨den c, c, pos, agStack code c stack⟩) (okG c)
def bD (ih : Rn) (s : SharedT) (code : Code) (pos : Pos) (stack : List Frame) (f : Flow) : Option SharedT :=
  @List.rec Frame (fun _ => Option SharedT) (some s) (fun fr rest _ => @Frame.rec (fun _ => Option SharedT) (fun k _ _ _ c q _ => ih s ⟨k (.ok f), c, q, rest⟩) (fun _ _ _ _ _ => none) fr) stack
def bP (ih : Rn) (s : SharedT) (code : Code) (pos : Pos) (stack : List Frame) (f : PySem.Fin) : Option SharedT :=
  @PySem.Fin.rec (fun _ => Option SharedT) (fun f => bD ih s code pos stack f) (fun c => bG den ih s code pos stack c) f
def bE (ih : Rn) (s : SharedT) (code : Code) (pos : Pos) (stack : List Frame) (cur : Sem PySem.Fin) : Option SharedT :=
  @Sem.rec PySem.Fin (fun _ => Option SharedT)
    (fun f => bP den ih s code pos stack f)
    (fun _ => none)
    (fun _ => none) (fun _ => none)
    (fun _ k _ => ih s ⟨k (), code, pos, stack⟩)
    (fun q k _ => ih s ⟨k (), code, q, stack⟩)
    (fun a _ k _ => bL ih s code pos stack a k)
    (fun a _ f k _ => bU n0 ann ih s code pos stack a f k)
    (fun o k _ => bA ih s code pos stack o k)
    (fun a k _ => bI ih s code pos stack a k)
    (fun _ k _ => ih s ⟨k (), code, pos, stack⟩)
    (fun _ _ _ => none)
    (fun k _ => bF ih s code pos stack k)
    (fun k _ => ih s ⟨k ⟨p, w.params⟩, code, pos, stack⟩)
    (fun src n k _ => bO den p w n0 ann ih s ⟨.choose src n k, code, pos, stack⟩)
    (fun _ _ _ _ => none)
    (fun c h g l k _ => bC den ih s code pos stack c h g l k)
    (fun own k _ => bO den p w n0 ann ih s ⟨.handled own k, code, pos, stack⟩)
    (fun c k _ => bO den p w n0 ann ih s ⟨.newGen c k, code, pos, stack⟩)
    (fun g k _ => bO den p w n0 ann ih s ⟨.genState g k, code, pos, stack⟩)
    (fun g r l k _ => bO den p w n0 ann ih s ⟨.resume g r l k, code, pos, stack⟩)
    (fun v g l k _ => bO den p w n0 ann ih s ⟨.yield v g l k, code, pos, stack⟩)
    (fun k _ => bO den p w n0 ann ih s ⟨.stack k, code, pos, stack⟩)
    (fun _ _ _ => none) (fun _ _ => none) (fun _ _ _ _ _ _ => none) cur
def bT (ih : Rn) (s : SharedT) (t : Thread) : Option SharedT := @Thread.rec (fun _ => Option SharedT) (fun cur code pos stack => bE den p w n0 ann ih s code pos stack cur) t
def go (m : Nat) : Rn := @Nat.rec (fun _ => Rn) (fun _ _ => none) (fun _ ih s t => bT den p w n0 ann ih s t) m
end
section
variable {den : Code → Sem PySem.Fin} {p : Program} {w : World} {n0 : Nat} {ann : Option Value}
theorem bO_go {ih : Rn} {s s1 s' : SharedT} {t t1 : Thread} (h1 : through t = false) (h2 : stepOk n0 ann t = true) (h3 : stepT den p w s t = some (s1, t1)) (h : ih s1 t1 = some s') : bO den p w n0 ann ih s t = some s' := by
  unfold bO
  rw [h1]
  show (match stepOk n0 ann t with | false => none | true => _) = _
  rw [h2]
  show (match stepT den p w s t with | some (s', t') => frS s' fun s' => ih s' t' | none => none) = _
  rw [h3]
  show frS s1 (fun s' => ih s' t1) = _
  rw [frS_eq]
  exact h
theorem oB_some {α β : Type} {x : Option α} {k : α → Option β} {b : β} (h : oB x k = some b) : ∃ a, x = some a ∧ k a = some b := by
  cases x with
  | none => cases h
  | some a => exact ⟨a, rfl, h⟩
theorem bo_some {β : Type} {c : Bool} {x : Option β} {b : β} (h : @Bool.rec (fun _ => Option β) none x c = some b) : c = true ∧ x = some b := by
  cases c with
  | false => cases h
  | true => exact ⟨rfl, h⟩
theorem bO_mono {ih ih' : Rn} (hi : ∀ s t s', ih s t = some s' → ih' s t = some s') {s s' : SharedT} {t : Thread} (h : bO den p w n0 ann ih s t = some s') : bO den p w n0 ann ih' s t = some s' := by
  cases h1 : through t with
  | true =>
    unfold bO at h ⊢
    rw [h1] at h ⊢
    exact h
  | false =>
    cases h2 : stepOk n0 ann t with
    | false =>
      unfold bO at h
      rw [h1] at h
      have h : (match stepOk n0 ann t with | false => none | true => match stepT den p w s t with | some (s', t') => frS s' fun s' => ih s' t' | none => none) = some s' := h
      rw [h2] at h
      cases h
    | true =>
      unfold bO at h
      rw [h1] at h
      have h : (match stepOk n0 ann t with | false => none | true => match stepT den p w s t with | some (s', t') => frS s' fun s' => ih s' t' | none => none) = some s' := h
      rw [h2] at h
      have h : (match stepT den p w s t with | some (s', t') => frS s' fun s' => ih s' t' | none => none) = some s' := h
      cases h3 : stepT den p w s t with
      | none => rw [h3] at h; cases h
      | some q =>
        obtain ⟨s1, t1⟩ := q
        rw [h3] at h
        have h : frS s1 (fun s' => ih s' t1) = some s' := h
        rw [frS_eq] at h
        exact bO_go h1 h2 h3 (hi _ _ _ h)
def isD : Sem PySem.Fin → Bool
  | .pure (.done _) => true
  | _ => false
theorem bT_ok {ih ih' : Rn} (hi : ∀ s t s', ih s t = some s' → ih' s t = some s') {s s' : SharedT} {t : Thread} (h : bT den p w n0 ann ih s t = some s') : bO den p w n0 ann ih' s t = some s' := by
  obtain ⟨cur, code, pos, stack⟩ := t
  obtain ⟨T, n, life, gens, drawn, toks, os⟩ := s
  have tf : ∀ c : Sem PySem.Fin, isD c = false → through ⟨c, code, pos, stack⟩ = false := fun c hc => by
    have e : through ⟨c, code, pos, stack⟩ = (stack.isEmpty && isD c) := rfl
    rw [e, hc, Bool.and_false]
  cases cur with
  | pure f =>
    cases f with
    | done f =>
      cases stack with
      | nil =>
        have h : some _ = some s' := h
        unfold bO
        exact h
      | cons fr rest =>
        cases fr with
        | ret k hh g l c q kp =>
          have h : ih ⟨T, n, life, gens, drawn, toks, os⟩ ⟨k (.ok f), c, q, rest⟩ = some s' := h
          exact bO_go rfl rfl rfl (hi _ _ _ h)
        | gen _ _ _ _ _ => cases h
    | again c =>
      obtain ⟨h1, h⟩ := bo_some (show @Bool.rec (fun _ => Option SharedT) none (ih ⟨T, n, life, gens, drawn, toks, os⟩ ⟨den c, c, pos, agStack code c stack⟩) (okG c) = some s' from h)
      refine bO_go (tf _ rfl) ?_ rfl (hi _ _ _ h)
      cases c with
      | builtin id args =>
        have h1 : (!id.startsWith "lifetime.") = true := h1
        show ((!(id.startsWith "lifetime.") || _) && !false && true) && true = true
        rw [h1]
        rfl
      | _ => rfl
  | rule _ k => exact bO_go (tf _ rfl) rfl rfl (hi _ _ _ h)
  | «at» q k => exact bO_go (tf _ rfl) rfl rfl (hi _ _ _ h)
  | load a q k =>
    obtain ⟨h1, h⟩ := bo_some (show @Bool.rec (fun _ => Option SharedT) none (oB (gT T a) fun o => oB (alive o) fun o' => ih ⟨T, n, life, gens, drawn, toks, os⟩ ⟨k o', code, pos, stack⟩) (Nat.blt a n) = some s' from h)
    obtain ⟨o, h2, h⟩ := oB_some h
    obtain ⟨o', h3, h⟩ := oB_some h
    rw [gT_eq] at h2
    refine bO_go (tf _ rfl) rfl ?_ (hi _ _ _ h)
    simp only [stepT, h1, h2, h3]
  | update a q f k =>
    obtain ⟨h0, h⟩ := bo_some (show @Bool.rec (fun _ => Option SharedT) none _ (okU n0 ann a) = some s' from h)
    obtain ⟨h1, h⟩ := bo_some h
    obtain ⟨o, h2, h⟩ := oB_some h
    obtain ⟨o', h3, h⟩ := oB_some h
    rw [gT_eq] at h2
    rw [sT_eq] at h
    refine bO_go (tf _ rfl) ?_ ?_ (hi _ _ _ h)
    · show (true && okU n0 ann a) = true
      rw [h0]; rfl
    · simp only [stepT, h1, h2, h3]
  | alloc o k =>
    have h : oB (gT (iT T n o) n) (fun _ => fN (Nat.succ n) fun n' => ih ⟨iT T n o, n', life, gens, drawn, toks, os⟩ ⟨k n, code, pos, stack⟩) = some s' := h
    obtain ⟨o', h2, h⟩ := oB_some h
    rw [fN_eq, iT_eq] at h
    rw [gT_eq, iT_eq] at h2
    refine bO_go (tf _ rfl) rfl ?_ (hi _ _ _ h)
    simp only [stepT, h2, Option.isSome_some]
  | loadIfAlive a k =>
    have h : @Bool.rec (fun _ => Option SharedT) (ih ⟨T, n, life, gens, drawn, toks, os⟩ ⟨k none, code, pos, stack⟩) (oB (gT T a) fun o => ih ⟨T, n, life, gens, drawn, toks, os⟩ ⟨k (alive o), code, pos, stack⟩) (Nat.blt a n) = some s' := h
    cases hb : Nat.blt a n with
    | false =>
      rw [hb] at h
      refine bO_go (tf _ rfl) rfl ?_ (hi _ _ _ h)
      simp only [stepT, hb]
    | true =>
      rw [hb] at h
      obtain ⟨o, h2, h⟩ := oB_some h
      rw [gT_eq] at h2
      refine bO_go (tf _ rfl) rfl ?_ (hi _ _ _ h)
      simp only [stepT, hb, h2]
  | point _ k => exact bO_go (tf _ rfl) rfl rfl (hi _ _ _ h)
  | fresh k =>
    have h : fN (Nat.succ toks) (fun z => ih ⟨T, n, life, gens, drawn, z, os⟩ ⟨k toks, code, pos, stack⟩) = some s' := h
    rw [fN_eq] at h
    exact bO_go (tf _ rfl) rfl rfl (hi _ _ _ h)
  | ask k => exact bO_go (tf _ rfl) rfl rfl (hi _ _ _ h)
  | call c hh g l k => exact bO_go (tf _ rfl) rfl rfl (hi _ _ _ h)
  | choose src nn k => exact bO_mono hi h
  | handled own k => exact bO_mono hi h
  | newGen c k => exact bO_mono hi h
  | genState g k => exact bO_mono hi h
  | resume g r l k => exact bO_mono hi h
  | yield v g l k => exact bO_mono hi h
  | stack k => exact bO_mono hi h
  | _ => cases h
theorem go_ok : ∀ {m : Nat} {s s' : SharedT} {t : Thread}, go den p w n0 ann m s t = some s' → goF (stepT den p w) n0 ann m s t = some s'
  | 0, _, _, _, h => by cases h
  | m + 1, s, s', t, h => by
    have h : bT den p w n0 ann (go den p w n0 ann m) s t = some s' := h
    have h2 := bT_ok (ih' := goF (stepT den p w) n0 ann m) (fun _ _ _ => go_ok) h
    exact h2
/-- the state behind the top -/
def endS (den : Code → Sem PySem.Fin) (M : Nat) (p : Program) (w : World) (os : OsState) : Option SharedT := match putAll (boot_heap w.params).objs.toList .nil 0 with
  | some (t, n) => fN n fun n0 => go den p w n0 (bootAnn w) M (bootT w os (t, n0)) (topStub p)
  | none => none
theorem endS_ok {M : Nat} {os : OsState} {s : SharedT} (h : endS (denQ tabQ) M p w os = some s) : endF (stepQ (denQ tabQ) p w) M p w os = some s := by
  rw [← stepQ_eq]
  unfold endS at h
  unfold endF
  generalize putAll (boot_heap w.params).objs.toList .nil 0 = z at *
  cases z with
  | none => cases h
  | some q =>
    obtain ⟨t, n⟩ := q
    have h : (fN n fun n0 => go (denQ tabQ) p w n0 (bootAnn w) M (bootT w os (t, n0)) (topStub p)) = some s := h
    show (frNat n fun n0 => goF (stepT (denQ tabQ) p w) n0 (bootAnn w) M (bootT w os (t, n0)) (topStub p)) = some s
    rw [frNat_eq]
    rw [fN_eq] at h
    exact go_ok h
end
end HS
end
set_option maxHeartbeats 0
namespace HS
open PySem PySem.W PySem.Calls PyProof.Rows HandSHeadRun K99
/-! ### looks at the program's text alone -/
theorem t_open : opening R.prog = plainProg R.prog.main.scope.names := by kernel_rfl
theorem t_fence (s : Shared) : fenceModules? R.prog s = some s := by kernel_rfl
theorem t_def : defOf qv R.name = some (HandSHeadRun.topDef R.prog 167, []) := by kernel_rfl
theorem t_the : R.prog.theDef R.name = some ((HandSHeadRun.topDef R.prog 167).params, (HandSHeadRun.topDef R.prog 167).body, (HandSHeadRun.topDef R.prog 167).scope) := by kernel_rfl
theorem t_kw : kwWritten? (HandSHeadRun.topDef R.prog 167).params.kwonlyargs (HandSHeadRun.topDef R.prog 167).params.kw_defaults = some [] := by kernel_rfl
theorem t_ok : (chainsOk qv && opensWell R.prog && (frees R.toRowW && R.within.isEmpty)) = true := by decide +kernel
theorem t_bare : R.prog.bare := ⟨rfl, rfl, rfl, rfl, rfl, by decide +kernel⟩
theorem t_name : (HandSHeadRun.topDef R.prog 167).name = ("law" : PySem.Str) := by kernel_rfl
theorem t_dfl : (HandSHeadRun.topDef R.prog 167).params.defaults = [] := by kernel_rfl
theorem t_wit : (OpenLaw.row PySem.Challenge.rw_everyzone_k99_whole_sessions_replayed).toRowW.promised := by w_witness2
theorem t_pre (h : (OpenLaw.row PySem.Challenge.rw_everyzone_k99_whole_sessions_replayed).wellSaid = true → (OpenLaw.row PySem.Challenge.rw_everyzone_k99_whole_sessions_replayed).Holds) : PySem.Challenge.rw_everyzone_k99_whole_sessions_replayed.Holds := by
  w_on; o_law
  exact h (by assumption)
end HS
set_option maxHeartbeats 0
namespace HS
open PySem PySem.W PySem.Calls PyProof.Rows HandSHeadRun K99
theorem rA_false (w : World) (os : OsState) : (endS (denQ tabQ) 20000 R.prog (w.withFollow "special-get-raises" false) os).map (fun s => (looksF R.prog (boot_heap (w.withFollow "special-get-raises" false).params) s.abs, seenQ qv names (importedModules R.prog.main.body) (fun s => xlAt qv [] s && recOk R.toRowW.records s) s.abs)) = some (true, openGood qv names) := by kernel_rfl
end HS
set_option maxHeartbeats 0
namespace HS
open PySem PySem.W PySem.Calls PyProof.Rows HandSHeadRun K99
theorem rA_true (w : World) (os : OsState) : (endS (denQ tabQ) 20000 R.prog (w.withFollow "special-get-raises" true) os).map (fun s => (looksF R.prog (boot_heap (w.withFollow "special-get-raises" true).params) s.abs, seenQ qv names (importedModules R.prog.main.body) (fun s => xlAt qv [] s && recOk R.toRowW.records s) s.abs)) = some (true, openGood qv names) := by kernel_rfl
end HS
set_option maxHeartbeats 4000000
/-! Errors of own classes over any built-in base: made, their __init__ walked, raised, caught by a tuple of three classes. -/
namespace PySem
namespace K9B
open PySem.W PySem.Calls PyProof.Rows PySem.HandSPX

/-- a built-in base: Bn makes (by mk), Bi has the first __init__ (by ini), bmB the chain -/
structure Bs (Bn mk nIni : String) (bmN : List Value) (Bi ini : String) (bmB : List Value) : Prop where
  F : ExcBaseFacts Bn mk nIni bmN
  cN : bmB.contains (.type Bn) = true
  cA : bmB.contains (.type "AttributeError") = false
  cM : bmB.contains (.type "NameError") = false
  cI : bmB.contains (.type Bi) = true
  cE : bmB.contains (.type "BaseException") = true
  cO : bmB.contains (.type "object") = true
  iP : plainId ini = true
  iE : entryFor table ini = some Builtin.«BaseException.__init__»
  iK : builtinKind ini = some .slot
  iS : splitId ini = some (Bi, "__init__")
  iR : Manifest.signature? ini = some ⟨.positional, "*", Bi, .self, [⟨"args", .varPos, false⟩]⟩
  iStar : (Bi != "*") = true
  ne : bmB.isEmpty = false
  pass : ∀ self, refuseLoop self "__setattr__" bmB = pure ()

theorem bs_val : Bs "ValueError" "ValueError.__new__" "ValueError.__init__" [.type "ValueError", .type "Exception", .type "BaseException", .type "object"] "ValueError" "ValueError.__init__" [.type "ValueError", .type "Exception", .type "BaseException", .type "object"] where
  F := PySem.F.excBase_ValueError
  cN := by decide +kernel
  cA := by decide +kernel
  cM := by decide +kernel
  cI := by decide +kernel
  cE := by decide +kernel
  cO := by decide +kernel
  iP := PySem.F.excBase_ValueError.init.plain
  iE := PySem.F.excBase_ValueError.initEntry
  iK := PySem.F.excBase_ValueError.initKind
  iS := PySem.F.excBase_ValueError.initSplit
  iR := PySem.F.excBase_ValueError.initRow
  iStar := PySem.F.excBase_ValueError.noStar
  ne := rfl
  pass := PySem.F.store_ValueError.passes
theorem bs_look : Bs "LookupError" "LookupError.__new__" "LookupError.__init__" [.type "LookupError", .type "Exception", .type "BaseException", .type "object"] "LookupError" "LookupError.__init__" [.type "LookupError", .type "Exception", .type "BaseException", .type "object"] where
  F := PySem.F.excBase_LookupError
  cN := by decide +kernel
  cA := by decide +kernel
  cM := by decide +kernel
  cI := by decide +kernel
  cE := by decide +kernel
  cO := by decide +kernel
  iP := PySem.F.excBase_LookupError.init.plain
  iE := PySem.F.excBase_LookupError.initEntry
  iK := PySem.F.excBase_LookupError.initKind
  iS := PySem.F.excBase_LookupError.initSplit
  iR := PySem.F.excBase_LookupError.initRow
  iStar := PySem.F.excBase_LookupError.noStar
  ne := rfl
  pass := PySem.F.store_LookupError.passes
theorem bs_key : Bs "LookupError" "LookupError.__new__" "LookupError.__init__" [.type "LookupError", .type "Exception", .type "BaseException", .type "object"] "KeyError" "KeyError.__init__" [.type "KeyError", .type "LookupError", .type "Exception", .type "BaseException", .type "object"] where
  F := PySem.F.excBase_LookupError
  cN := by decide +kernel
  cA := by decide +kernel
  cM := by decide +kernel
  cI := by decide +kernel
  cE := by decide +kernel
  cO := by decide +kernel
  iP := by decide +kernel
  iE := entryFor_alias (id' := "BaseException.__init__") (by rw [fastTable_eq_tree]; kernel_rfl) (by first | rfl | decide +kernel) (by decide +kernel) (by rw [fastTable_eq_tree]; kernel_rfl)
  iK := by kernel_rfl
  iS := by kernel_rfl
  iR := by kernel_rfl
  iStar := by decide +kernel
  ne := rfl
  pass := fun _ => by kernel_rfl

section
variable {M : Model} {A : Around} {E : Value → Shared → Prop} {h : Heap} {g : Array GenState} {d : Drawn} {t : Nat} {os : OsState}
variable {nm q : Str} {C N : Addr} {bs bm bmN bmB : List Value} {hdct : Bool} {sn : List Str} {sub : List Value} {ab : Bool} {col : Option Bool} {dd : Option Addr} {k0 k1 k2 k3 k5 : Option Value} {Bn mk nIni Bi ini : String}
/-- an own class's chain holds what the base's holds -/
abbrev Same9 (bm bmB : List Value) : Prop := ∀ X : String, bm.contains (.type X) = bmB.contains (.type X)
theorem has9 (hT : Same9 bm bmB) {X : String} {b : Bool} (hb : bmB.contains (.type X) = b) : (Value.ref C :: bm).contains (.type X) = b := by
  rw [List.contains_cons, hT, hb]
  cases b <;> rfl
theorem chk_new (Z : Bs Bn mk nIni bmN Bi ini bmB) (hT : Same9 bm bmB) {us : List Value} {Q : Unit → Shared → Prop}
    (cC : h.get? C = some (excClassObj nm q C N bs bm hdct sn sub ab col dd k0 k1 k2 k3 k5 mk)) (k : Q () ⟨h, g, d, t, os⟩) : wpAny M A (checkBuiltinCall mk ⟨.ref C :: us, []⟩) Q E ⟨h, g, d, t, os⟩ := by
  have h1 : (Value.ref C :: bm).contains (.type Bn) = true := has9 hT Z.cN
  have h2 := Z.F.noStar
  simp only [checkBuiltinCall, Z.F.newKind, Z.F.newSplit, Z.F.newRow]
  repeat (first
    | refine wpAny_loadPart_at cC ?_
    | (refine wpAny_isSubtype_exc cC ?_; rw [h1])
    | refine wpAny_staticBase_exc cC ?_
    | refine wpAny_madeBy_exc cC ?_
    | simp only [bne_self_eq_false, Bool.false_eq_true, if_false]
    | wp_step)
  exact k
theorem chk_ini (Z : Bs Bn mk nIni bmN Bi ini bmB) (hT : Same9 bm bmB) {e : Addr} {oe : Obj} {us : List Value} {Q : Unit → Shared → Prop}
    (cC : h.get? C = some (excClassObj nm q C N bs bm hdct sn sub ab col dd k0 k1 k2 k3 k5 mk)) (ce : h.get? e = some oe) (cc : oe.cls = .ref C) (k : Q () ⟨h, g, d, t, os⟩) :
    wpAny M A (checkBuiltinCall ini ⟨.ref e :: us, []⟩) Q E ⟨h, g, d, t, os⟩ := by
  have h1 : (Value.ref C :: bm).contains (.type Bi) = true := has9 hT Z.cI
  have h2 := Z.iStar
  simp only [checkBuiltinCall, Z.iK, Z.iS, Z.iR]
  repeat (first
    | (with_reducible refine wpAny_loadPart_at ce ?_; rw [cc])
    | with_reducible refine wpAny_loadPart_at cC ?_
    | (with_reducible refine wpAny_isSubtype_exc cC ?_; rw [h1])
    | wp_step)
  refine wpAny_onRaise ?_
  have h3 : ∀ (a b : String) (n : Nat), Bind.check ⟨.positional, "*", Bi, .self, [⟨"args", .varPos, false⟩]⟩ a b n (List.map (fun x => x.fst) ({ pos := Value.ref e :: us } : Args).kw) = pure () := fun a b n => check_star_args _ _ _ _ _ _
  rw [h3]
  exact wpAny_pure k
end

section
variable {prog : Program} {w : World} {A : Around} {E : Value → Shared → Prop} {R : Result → Shared → Prop} {h : Heap} {g : Array GenState} {d : Drawn} {t : Nat} {os : OsState}
variable {nm q : Str} {C N : Addr} {bs bm bmN bmB : List Value} {hdct : Bool} {sn : List Str} {sub : List Value} {ab : Bool} {col : Option Bool} {dd : Option Addr} {k0 k1 k2 k3 k5 : Option Value} {Bn mk nIni Bi ini : String}
/-- the new one, laid behind the tuple of its arguments -/
abbrev laid9 (h : Heap) (C : Addr) (us : List Value) : Heap := (h.push (W.kdv_tup us)).push (excO C h.objs.size)
theorem run_new (Z : Bs Bn mk nIni bmN Bi ini bmB) (hT : Same9 bm bmB) {us : List Value} (cC : h.get? C = some (excClassObj nm q C N bs bm hdct sn sub ab col dd k0 k1 k2 k3 k5 mk))
    (k : R (.ok (.ret (.ref (h.objs.size + 1)))) ⟨laid9 h C us, g, d, t, os⟩) (hz : us.length ≤ sizeLine) : codeAny (model prog w) A (.builtin mk ⟨.ref C :: us, []⟩) R ⟨h, g, d, t, os⟩ := by
  have h0 := Z.F.ends
  have h1 : (Value.ref C :: bm).contains (.type Bn) = true := has9 hT Z.cN
  have h2 : (Value.ref C :: bm).contains (.type "AttributeError") = false := has9 hT Z.cA
  have h3 : (Value.ref C :: bm).contains (.type "NameError") = false := has9 hT Z.cM
  refine codeAny_builtinAt Z.F.entry ?_
  unfold Builtin.«BaseException.__new__»
  refine wpAt_bind ?_
  show wpAt _ _ _ (stack >>= _) _ _ _
  refine wpAt_bind (wpAt_stack fun p below => wpAt_of_wpAny ?_)
  wp_walk
  refine wpAt_of_wpAny ?_
  rw [Z.F.owner]
  repeat (first
    | with_reducible refine wpAny_madeHere_exc Z.F.canon cC ?_
    | with_reducible refine wpAny_loadPart_at cC ?_
    | (with_reducible refine wpAny_isSubtype_exc cC ?_; first | rw [h1] | rw [h2] | rw [h3])
    | wp_step)
  show R _ _
  rw [Heap.size_push]
  exact k
theorem run_typ (Z : Bs Bn mk nIni bmN Bi ini bmB) (hT : Same9 bm bmB) {us : List Value} {fI : Addr} {Q : Fin → Shared → Prop}
    (cC : h.get? C = some (excClassObj nm q C N bs bm hdct sn sub ab col dd k0 k1 k2 k3 k5 mk))
    (lI : W.Looks (model prog w) h (typeLookup (.ref C) "__init__") (some (.ref fI))) (bI : ∀ self, W.Looks (model prog w) h (bindSpecial (.ref fI) self) (.ref fI, [self])) (hz : us.length ≤ sizeLine)
    (k : codeAny (model prog w) A (.call (.ref fI) ⟨.ref (h.objs.size + 1) :: us, []⟩)
      (fun r s' => match r with | .ok (.ret v) => v = .none ∧ Q (.done (.ret (.ref (h.objs.size + 1)))) s' | .ok _ => False | .error e => E e s') ⟨laid9 h C us, g, d, t, os⟩) :
    wpAny (model prog w) A (Builtin.«type.__call__» ⟨.ref C :: us, []⟩) Q E ⟨h, g, d, t, os⟩ := by
  repeat (first
    | with_reducible refine wpAny_loadPart_at cC ?_
    | with_reducible refine wpAny_madeBy_exc cC ?_
    | wp_step)
  refine codeAny_call_builtin_code (Code.quiet_builtin _ Z.F.quiet) (chk_new Z hT cC (run_new Z hT cC ?_ hz))
  show wpAny _ _ _ _ _ _
  have kp : ∀ b o, h.get? b = some o → (laid9 h C us).get? b = some o := fun b o e => Heap.get?_push_of_some _ (Heap.get?_push_of_some _ e)
  have c1 := kp _ _ cC
  have ce : (laid9 h C us).get? (h.objs.size + 1) = some (excO C h.objs.size) := by heap_get
  have cc : (Value.ref C :: bm).contains (.ref C) = true := by simp
  have i1 := lI.keeps kp
  have b1 := (bI (.ref (h.objs.size + 1))).keeps kp
  unfold isInstance
  repeat (first
    | with_reducible refine wpAny_loadPart_at ce ?_
    | (with_reducible refine wpAny_isSubtype_exc c1 ?_; rw [cc])
    | wp_step)
  show wpAny _ _ (typeLookup (.ref C) _) _ _ _
  refine i1.at (wpAny_holding (wpAny_bind (b1.at (wpAny_bind (wpAny_call (codeAny_mono k fun r s' z => ?_))))))
  rcases r with e | (v | _ | _ | _) <;> first | exact z | exact z.elim | skip
  obtain ⟨rfl, z⟩ := z
  first
    | exact wpAny_pure (wpAny_pure z)
    | (wp_walk; exact z)
theorem run_mk (Z : Bs Bn mk nIni bmN Bi ini bmB) (hT : Same9 bm bmB) {us : List Value} {fI : Addr}
    (cC : h.get? C = some (excClassObj nm q C N bs bm hdct sn sub ab col dd k0 k1 k2 k3 k5 mk))
    (lI : W.Looks (model prog w) h (typeLookup (.ref C) "__init__") (some (.ref fI))) (bI : ∀ self, W.Looks (model prog w) h (bindSpecial (.ref fI) self) (.ref fI, [self])) (hz : us.length ≤ sizeLine)
    (k : codeAny (model prog w) (A.under (.builtin "type.__call__" ⟨.ref C :: us, []⟩)) (.call (.ref fI) ⟨.ref (h.objs.size + 1) :: us, []⟩) (W.InitBack (h.objs.size + 1) R) ⟨laid9 h C us, g, d, t, os⟩) :
    codeAny (model prog w) A (.call (.ref C) ⟨us, []⟩) R ⟨h, g, d, t, os⟩ := by
  have f1 := tc_lookup
  have f2 := tc_bind (.ref C)
  have f3 : (⟨h, g, d, t, os⟩ : Shared).TypeIs (.ref C) "type" := ⟨_, cC, rfl⟩
  refine codeAny_of_tree ?_
  show wpAny _ _ (callAny (.ref C) _) _ _ _
  repeat (any_goals (first
    | assumption
    | with_reducible refine wpAny_loadPart_at cC ?_
    | wp_step))
  refine ⟨rfl, codeAny_call_builtin_at (Code.quiet_builtin _ (by decide +kernel)) entry_typeCall (wpAny_check_type_call_sub cC (run_typ Z hT cC lI bI hz (codeAny_mono k fun r s' z => ?_)))⟩
  rcases r with e | (v | _ | _ | _) <;> exact z
/-- the built-in __init__: the arguments are laid anew -/
theorem run_ini (Z : Bs Bn mk nIni bmN Bi ini bmB) (hT : Same9 bm bmB) {e t0 : Addr} {us : List Value}
    (cC : h.get? C = some (excClassObj nm q C N bs bm hdct sn sub ab col dd k0 k1 k2 k3 k5 mk)) (ce : h.get? e = some (excO C t0)) (hz : us.length ≤ sizeLine)
    (k : ∀ h' t1, (∀ b o, b ≠ e → h.get? b = some o → h'.get? b = some o) → h'.get? e = some (excO C t1) → R (.ok (.ret .none)) ⟨h', g, d, t, os⟩) :
    codeAny (model prog w) A (.call (.builtin ini) ⟨.ref e :: us, []⟩) R ⟨h, g, d, t, os⟩ := by
  refine codeAny_call_builtin Z.iP Z.iE (chk_ini Z hT cC ce rfl ?_)
  wp_walk
  refine k _ h.objs.size (fun b o nb hb => ?_) ?_
  · rw [Heap.get?_update_other _ _ (Ne.symm nb)]
    exact Heap.get?_push_of_some _ hb
  · rw [Heap.get?_update_self _ (Heap.get?_push_of_some _ ce) rfl]
    rfl
open Builtin Builtin.ObjectAttr in
/-- self.x = v, the first field -/
theorem run_set {K : W.Frag} {x : Str} {tk : Tok} {v : Value} {e : Addr} {fv : Array Value} {cd : ClassData}
    (X : K.In h) (ce : h.get? e = some { cls := .ref C, data := .fields fv }) (hcd : W.clsIn K C = some cd) (hne : cd.mro.isEmpty = false) (hO : cd.mro.contains (.type "object") = true)
    (hpass : refuseLoop (.ref e) "__setattr__" cd.mro = pure ()) (hh : cd.hasDict = true) (ha : W.findIn K (.ref C) x = some none)
    (k : ∀ h' tk' dx, (∀ b o, b ≠ e → h.get? b = some o → h'.get? b = some o) → h.objs.size ≤ dx → dx ≠ e → h'.get? e = some { cls := .ref C, dict := some dx, data := .fields fv } →
      h'.Ns1 dx (fun y => if y = x then some v else none) → R (.ok (.ret .none)) ⟨h', g, d, tk', os⟩) :
    codeAny (model prog w) A (.call (.builtin "object.__setattr__") ⟨[.ref e, .str x tk, v], []⟩) R ⟨h, g, d, t, os⟩ := by
  have J : W.InstAt h e { cls := .ref C, data := .fields fv } C none := ⟨ce, rfl, rfl, trivial⟩
  have S := PySem.F.store_object
  have nx : e ≠ h.objs.size := Nat.ne_of_lt (Heap.lt_size ce)
  have l0 : W.Looks (model prog w) h (isInstance (.ref e) (.type "object")) true := J.type.andThen (W.looks_mroIn X (by unfold W.mroIn; rw [hcd, Option.bind_some, if_neg (by rw [hne]; decide), hO]))
  refine codeAny_call_builtin S.slot.plain S.entry (@W.check_slot (model prog w) _ _ ⟨h, g, d, t, os⟩ "object.__setattr__" "object" "__setattr__" (.ref e) [.str x tk, v] [] _ S.kind S.split l0 (S.args (.ref e) (.str x tk) v) ?_)
  have l1 : W.Looks (model prog w) h (mroOf (.ref C)) cd.mro := (W.looks_clsIn X hcd).andThen .now
  have l2 : W.Looks (model prog w) h (storeTaker? none) none := .now
  have l3 : W.Looks (model prog w) h (classData C) cd := W.looks_clsIn X hcd
  rw [W.osa_eq, refuse_eq]
  refine wpAny_bind (wpAny_bind (J.type.at (wpAny_bind (l1.at ?_))))
  rw [hpass]
  refine wpAny_pure (wpAny_bind (J.type.at (wpAny_bind ((W.looks_findIn X ha).at (wpAny_bind (l2.at ?_))))))
  show wpAny _ _ (storeInOwnDict (.ref e) (.ref C) (.str x tk) x v false) _ _ _
  obtain ⟨nm, bs, mro, ns, qn, hd, sn, sb, ab, col, del⟩ := cd
  dsimp only at hh
  subst hh
  unfold storeInOwnDict ownDictForStores
  repeat (first
    | with_reducible refine store_in_new ?_ ?_
    | with_reducible refine wpAny_loadPart_at ce ?_
    | with_reducible refine l3.at ?_
    | wp_step)
  · exact ⟨_, #[], _, (Heap.get?_update_ne _ _ _ _ nx.symm).trans (Heap.get?_push_at rfl rfl), rfl, fun e he => absurd he (by simp), fun _ => rfl⟩
  · intro h' tk' hn hs
    have c1 : (h.push { cls := .type "dict", data := .dict #[] }).get? e = some { cls := .ref C, data := .fields fv } := Heap.get?_push_of_some _ ce
    refine k h' tk' h.objs.size (fun b o nb hb => ?_) (Nat.le_refl _) nx.symm ?_ hn
    · exact (hs.2 b (Nat.ne_of_lt (Heap.lt_size hb))).trans ((Heap.get?_update_ne _ _ _ _ nb).trans (Heap.get?_push_of_some _ hb))
    · exact (hs.2 e nx).trans (Heap.get?_update_self _ c1 rfl)
end
end K9B
end PySem
set_option maxHeartbeats 4000000
namespace L2.K9
open PySem PySem.Spec PyProof.Rows PySem.K9B

/-! ### the three bases -/
inductive Kd where
  | val | look | key
def Kd.mk : Kd → String
  | .val => "ValueError.__new__"
  | _ => "LookupError.__new__"
def Kd.Bn : Kd → String
  | .val => "ValueError"
  | _ => "LookupError"
def Kd.nIni : Kd → String
  | .val => "ValueError.__init__"
  | _ => "LookupError.__init__"
def Kd.bmN : Kd → List Value
  | .val => [.type "ValueError", .type "Exception", .type "BaseException", .type "object"]
  | _ => [.type "LookupError", .type "Exception", .type "BaseException", .type "object"]
def Kd.Bi : Kd → String
  | .val => "ValueError"
  | .look => "LookupError"
  | .key => "KeyError"
def Kd.ini : Kd → String
  | .val => "ValueError.__init__"
  | .look => "LookupError.__init__"
  | .key => "KeyError.__init__"
def Kd.chain : Kd → List Value
  | .val => [.type "ValueError", .type "Exception", .type "BaseException", .type "object"]
  | .look => [.type "LookupError", .type "Exception", .type "BaseException", .type "object"]
  | .key => [.type "KeyError", .type "LookupError", .type "Exception", .type "BaseException", .type "object"]
theorem bs_all : ∀ b : Kd, Bs b.Bn b.mk b.nIni b.bmN b.Bi b.ini b.chain
  | .val => bs_val
  | .look => bs_look
  | .key => bs_key

/-! ### what the written part says of an error's class -/
structure XC (K : PySem.W.Frag) (b : Kd) (C : Addr) : Prop where
  cls : ∃ nm q N bs bm sn sub ab col dd k0 k1 k2 k3 k5, K.lookup C = some (excClassObj nm q C N bs bm true sn sub ab col dd k0 k1 k2 k3 k5 b.mk) ∧ PySem.W.excTail b.chain bm = true
  sa : PySem.W.findIn K (.ref C) "__setattr__" = some (some (.builtin "object.__setattr__"))
  exC : PySem.W.subIn K (.ref C) (.type "BaseException") = some true
  tyC : PySem.W.typeIn K (.ref C) = some (.type "type")
  kC : PySem.W.keepIn K (.ref C) = true
def xcB (K : PySem.W.Frag) (b : Kd) (C : Addr) : Bool := (match K.lookup C with
    | some ⟨.type "type", _, .cls cd, sl⟩ => (match cd.mro, sl.toList with
      | .ref C' :: bm, [_, _, _, _, some (.builtin n), _] => C' == C && n == b.mk && cd.hasDict && !cd.hasDel && PySem.W.excTail b.chain bm
      | _, _ => false)
    | _ => false) && (He.eqO (PySem.W.findIn K (.ref C) "__setattr__") (some (some (.builtin "object.__setattr__"))) && (decide (PySem.W.subIn K (.ref C) (.type "BaseException") = some true) &&
    (decide (PySem.W.typeIn K (.ref C) = some (.type "type")) && PySem.W.keepIn K (.ref C))))
theorem xcB_ok {K : PySem.W.Frag} {b : Kd} {C : Addr} (c : xcB K b C = true) : XC K b C := by
  obtain ⟨c1, c⟩ := He.ba c
  obtain ⟨c2, c⟩ := He.ba c
  obtain ⟨c3, c⟩ := He.ba c
  obtain ⟨c4, c5⟩ := He.ba c
  refine ⟨?_, He.eqO_ok c2, of_decide_eq_true c3, of_decide_eq_true c4, c5⟩
  split at c1
  · rename_i dd cd sl ho
    split at c1
    · rename_i C' bm k0 k1 k2 k3 n k5 hm hs
      simp only [Bool.and_eq_true, beq_iff_eq, Bool.not_eq_true'] at c1
      obtain ⟨⟨⟨⟨rfl, rfl⟩, hdict⟩, hdel⟩, ht⟩ := c1
      obtain ⟨nm, bs, mro, ns, qn, hd, sn, sub, ab, col, del⟩ := cd
      dsimp only at hm hdel hdict
      subst hm hdel hdict
      have hsl : sl = #[k0, k1, k2, k3, some (.builtin b.mk), k5] := by
        obtain ⟨l⟩ := sl
        simp only at hs
        rw [hs]
      subst hsl
      exact ⟨nm, qn, ns, bs, bm, sn, sub, ab, col, dd, k0, k1, k2, k3, k5, ho, ht⟩
    · cases c1
  · cases c1
theorem tail_pass {b : Kd} {bm : List Value} (h : PySem.W.excTail b.chain bm = true) (self : Value) : refuseLoop self "__setattr__" bm = pure () := PySem.W.excTail_pass self ((bs_all b).pass self) bm h
theorem tail_ne {b : Kd} {bm : List Value} (h : PySem.W.excTail b.chain bm = true) : bm.isEmpty = false := by
  cases bm with
  | nil =>
    cases b <;> exact absurd h (by decide)
  | cons _ _ => rfl

section
variable {X : Cx} {pins : List (Addr × Obj)} {σ : St} {H : Hp} {s : Shared} {a C : Addr} {b : Kd} {f : Str} {y : V} {u : Value} {A : Around} {E : Value → Shared → Prop}
/-- self.f = y on an error that has no field yet -/
theorem x_set {Q : Unit → Shared → Prop} (T : XC X.K b C) (I : Inv X pins σ H s) (e : H a = some (exo a C none)) (hno : PySem.W.findIn X.K (.ref C) f = some none) (ry : RelV y u)
    (k : ∀ dx s', H dx = none → dx ≠ a → Inv X pins σ (upd (upd H dx (exd dx [(f, y)])) a (exo a C (some dx))) s' → Q () s') : wpAny (model X.prog X.w) A (setAttr (.ref a) f u) Q E s := by
  obtain ⟨nm, q, N, bs, bm, sn, sub, ab, col, dd, k0, k1, k2, k3, k5, hC, ht⟩ := T.cls
  have hcl : PySem.W.clsIn X.K C = some { name := nm, bases := bs, mro := .ref C :: bm, ns := N, qualname := q, hasDict := true, slotNames := sn, subclasses := sub, abstract := ab, collection := col, hasDel := false } := by
    unfold PySem.W.clsIn
    rw [hC] <;> rfl
  obtain ⟨t1, ho⟩ := exo_at I.hok e
  obtain ⟨hp, g, d, t, os⟩ := s
  have hO : (Value.ref C :: bm).contains (.type "object") = true := PySem.K9B.has9 (fun Y => PySem.W.excTail_contains Y bm ht) (bs_all b).cO
  refine PySem.W.set_plain I.kIn (ox := { cls := .ref C, dict := none, data := .fields #[.ref t1, .none, .none, .none, .bool false, .none] }) (od := none) ⟨ho, rfl, rfl, trivial⟩ T.sa ?_
  refine PySem.K9B.run_set I.kIn ho hcl rfl hO (by show refuseLoop _ _ (Value.ref C :: bm) = _; rw [refuseLoop_ref]; exact tail_pass ht _) rfl hno (fun h' tk' dx kp dn dne hx hn => ?_)
  have hnd : H dx = none := I.hok.fresh dn
  have nd : ∀ {c : Addr} {o : Obj}, hp.get? c = some o → c ≠ dx := fun {c o} q => Nat.ne_of_lt (Nat.lt_of_lt_of_le (Heap.lt_size q) dn)
  have na : ∀ {c : Addr}, H c = none → c ≠ a := fun {c} n z => by
    rw [z, e] at n
    cases n
  have U : Un X.fs [] H (upd (upd H dx (exd dx [(f, y)])) a (exo a C (some dx))) hp h' := by
    refine ⟨fun c o q n _ _ => kp c o (na n) q, fun c o q n _ _ => ⟨o.slots, kp c o (na n) q⟩, fun c o q n _ => ?_, fun c o q _ => ?_, fun c xs q => ?_, fun c o v q => ?_, fun c ps q => ⟨#[], ?_⟩⟩
    · rw [upd_ne (na n), upd_ne (nd q)]
      exact n
    · by_cases hc : c = a
      · exact ⟨_, by rw [hc]; exact hx⟩
      · exact ⟨o, kp c o hc q⟩
    · rw [upd_ne (at_ne e q exo_tup), upd_ne (ne_of_none q hnd)]
      exact q
    · rw [upd_ne (at_ne e q exo_frz), upd_ne (ne_of_none q hnd)]
      exact q
    · rw [upd_ne (at_ne e q exo_tbl), upd_ne (ne_of_none q hnd), q]
      simp
  refine k dx _ hnd dne (I.un (t' := tk') U fun c o q => ?_)
  by_cases hc : c = a
  · subst hc
    rw [upd_same] at q
    cases q
    exact exo_ok hx
  · rw [upd_ne hc] at q
    by_cases hd : c = dx
    · subst hd
      rw [upd_same] at q
      cases q
      exact exd_ok hn (relO_put (fs := []) ry fun g => True.intro)
    · rw [upd_ne hd] at q
      refine (I.hok c o q).stay (fun c' v hc' z => kp c' v ?_ z) (fun c' hc' => ?_) fun c' xs hc' => ?_
      · rcases hc' with hc' | hc'
        · rw [hc']
          exact hc
        · exact at_ne e hc' exo_own
      · rw [upd_ne (at_ne e hc' exo_own), upd_ne (ne_of_none hc' hnd)]
        exact hc'
      · rw [upd_ne (at_ne e hc' exo_tup), upd_ne (ne_of_none hc' hnd)]
        exact hc'
/-- the built-in __init__ on such an error: nothing of it is told -/
theorem x_ini {us : List Value} {Q : Value → Shared → Prop} (T : XC X.K b C) (I : Inv X pins σ H s) (e : H a = some (exo a C none)) (hl : us.length ≤ sizeLine) (k : ∀ s', Inv X pins σ H s' → Q .none s') :
    wpAny (model X.prog X.w) A (call (.builtin b.ini) (.ref a :: us)) Q E s := by
  obtain ⟨nm, q, N, bs, bm, sn, sub, ab, col, dd, k0, k1, k2, k3, k5, hC, ht⟩ := T.cls
  obtain ⟨t1, ho⟩ := exo_at I.hok e
  obtain ⟨hp, g, d, t, os⟩ := s
  refine wpAny_call (PySem.K9B.run_ini (bs_all b) (fun Y => PySem.W.excTail_contains Y bm ht) (I.kIn _ _ hC) ho hl fun h' t2 kp hx => ?_)
  have J := I.write (t' := t) (x := a) (e := a) (o := exo a C none) (by rw [e]; exact True.intro) (.inl rfl) kp ⟨_, hx⟩ (exo_ok hx)
  have eu : upd H a (exo a C none) = H := by
    funext c
    by_cases hc : c = a
    · rw [hc, upd_same, e]
    · rw [upd_ne hc]
  rw [eu] at J
  exact k _ J
end

/-! ### readings and rules -/
/-- Own.__init__(self, ..), Own an own class over the same base -/
def tXini (K : PySem.W.Frag) (b : Kd) (ta : TA) : TE := fun σ H Q => ta σ H fun vs H1 => ∃ (a C : Addr) (ws : List V), vs = .ref a :: ws ∧ ws.length ≤ 1000 ∧ XC K b C ∧ H1 a = some (exo a C none) ∧ Q .non H1
/-- self.f = e -/
def tXset (K : PySem.W.Frag) (b : Kd) (f : Str) (to te : TE) : TS := fun D σ H => te σ H fun y H1 => to σ H1 fun x H2 => ∃ a C : Addr, x = .ref a ∧ XC K b C ∧ PySem.W.findIn K (.ref C) f = some none ∧
  H2 a = some (exo a C none) ∧ ∀ dx, H2 dx = none → dx ≠ a → D.nx σ (upd (upd H2 dx (exd dx [(f, y)])) a (exo a C (some dx)))
/-- what the top has of the own class T as a receiver -/
structure XRecv (K : PySem.W.Frag) (b : Kd) (T : Addr) : Prop where
  rd : PySem.W.readsIn K T (.type "type") = true
  ga : PySem.W.specialIn K (.ref T) "__getattribute__" = some (some (.builtin "type.__getattribute__"))
  at_ : PySem.W.findCls K (.ref T) (.type "type") "__init__" = some (.val (.builtin b.ini))
section
variable {X : Cx} {b : Kd} {T : Addr} {x f : Str} {o e : Expr} {es : List Expr} {to te : TE} {ta : TA} {p p' p1 p2 pos : Pos}
theorem pe_xini {pl : Sem Bool} (hg : Gl X x) (hm : X.mg x = some (.ref T)) (R : XRecv X.K b T) (ha : PA X (e :: es) ta) (hdb : (x == ("__debug__" : Str)) = false)
    (hc : eval (.Call (.Attribute (.Name x p1) "__init__" p2) (e :: es) [] pos) X.env = (do
      let ov ← eval (.Name x p1) X.env
      standAt p2.atName
      let (f, first) ← holding [ov] (getMethod ov "__init__" pl)
      callWith pos f first (backTo pos (starEach (e :: es) X.env)) (backToKw pos (keywordEach [] X.env))))
    (he : starEach (e :: es) X.env = (false, eval e X.env) :: starEach es X.env) (hpl : (backTo pos (starEach es X.env)).any (·.1) = false) :
    PE X (.Call (.Attribute (.Name x p1) "__init__" p2) (e :: es) [] pos) (tXini X.K b ta) := by
  refine ⟨fun pins s σ H Q I h => ?_⟩
  refine PySem.W.methodCall_KW (ld_glob I hg hm ?_ hdb) hc
  refine PySem.W.method_cls I.kIn R.ga (PySem.W.cls_value I.kIn R.rd R.at_ (by cases b <;> rfl) ?_)
  show wpAny _ _ (callWith pos (Value.builtin b.ini) [] (backTo pos (starEach (e :: es) X.env)) []) _ _ _
  refine PyProof.Rows.callWith_method1 (thn (ha.run pos pins _ σ H _ (I.tok _) h) fun us s1 ⟨vs, H1, I1, r1, a, C, ws, ev, hl, Tc, ea, q⟩ => ?_) he hpl
  subst ev
  cases r1 with
  | @cons _ u0 _ ur ra rw' =>
    obtain rfl : u0 = Value.ref a := ra
    have hlen : ur.length ≤ sizeLine := by
      rw [← Paired.length rw', sizeLine_eq]
      omega
    exact x_ini Tc I1 ea hlen fun s' J => ⟨.non, H1, J, rfl, q⟩
theorem ps_xset (ho : PE X o to) (he : PE X e te) (hs : swapsWith e (some (.Attribute o f p')) pos.line X.env = pure false) : PS X (.Assign [.Attribute o f p'] e pos) (tXset X.K b f to te) := by
  refine ⟨fun pins s σ H D I h => ?_⟩
  refine plainObj_wpAny_Assign_Attribute (thn (he.run pins s σ H _ I h) fun v s1 ⟨y, H1, I1, r1, q1⟩ => thn (ho.run pins s1 σ H1 _ I1 q1) fun u s2 ⟨z, H2, I2, r2, a, C, ex, Tc, hno, ea, q⟩ => ?_) hs
  subst ex
  obtain rfl : u = Value.ref a := r2
  exact x_set Tc I2 ea hno r1 fun dx s' n ne J => ⟨σ, _, J, q dx n ne⟩
end

/-! ### C(e) raised: C's own __init__ by its promise -/
/-- one field | none -/
def spIni1 (b : Kd) (K : PySem.W.Frag) (f : Str) : Sp := fun vs H Q _ => ∃ (a C : Addr) (v : V), vs = [.ref a, v] ∧ XC K b C ∧ PySem.W.findIn K (.ref C) f = some none ∧ H a = some (exo a C none) ∧
  ∀ d, H d = none → d ≠ a → Q .non (upd (upd H d (exd d [(f, v)])) a (exo a C (some d)))
def spIni0 (b : Kd) (K : PySem.W.Frag) : Sp := fun vs H Q _ => ∃ a C : Addr, vs = [.ref a] ∧ XC K b C ∧ H a = some (exo a C none) ∧ Q .non H
/-- C(..) with its __init__'s promise: what must hold of the arguments, and the error -/
def tMk9 (C : Addr) (sp : Sp) (ta : TA) : St → Hp → XK → Prop := fun σ H Q => ta σ H fun vs H1 => vs.length ≤ 1000 ∧ ∀ a, H1 a = none → sp (.ref a :: vs) (upd H1 a (exo a C none))
  (fun v H2 => v = .non ∧ ((∃ (d : Addr) (fs : List (Str × V)), H2 a = some (exo a C (some d)) ∧ H2 d = some (exd d fs) ∧ H1 d = none ∧ Q (.ref C) (some d) (upd (del H2 a) d (.xd fs))) ∨
    (H2 = upd H1 a (exo a C none) ∧ Q (.ref C) none H1))) (fun _ _ _ => False)
theorem upd_del {H : Hp} {a : Addr} {o : HO} (h : H a = none) : del (upd H a o) a = H := by
  funext c
  by_cases hc : c = a
  · rw [hc, del_same, h]
  · rw [del_ne hc, upd_ne hc]
section
variable {X : Cx} {b : Kd} {e : Expr} {es : List Expr} {ta : TA} {p pos : Pos}
/-- the end of C(..) where no field was stored -/
theorem mk_end9 {pins : List (Addr × Obj)} {σ : St} {H1 : Hp} {Q : XK} {hp hp2 h2 : Heap} {g1 g2 : Array GenState} {d1 d2 : Drawn} {t1 t2 : Nat} {os1 os2 : OsState} {a C : Addr} (T : Raises X (.ref C)) (I1 : Inv X pins σ H1 ⟨hp, g1, d1, t1, os1⟩)
    (ha : hp.objs.size ≤ a) (k : ∀ b o, hp.get? b = some o → hp2.get? b = some o) (un : Un (frs X.stack) [] (upd H1 a (exo a C none)) (upd H1 a (exo a C none)) hp2 h2) (hok : HOk X.prog X.w (upd H1 a (exo a C none)) h2) (ho : os2 = os1) (hb : AllBare g2)
    (q : Q (.ref C) none H1) : MkP X pins σ Q (.ref a) ⟨h2, g2, d2, t2, os2⟩ := by
  obtain ⟨t0, hoe⟩ := exo_at hok upd_same
  have hn : H1 a = none := I1.hok.fresh ha
  obtain ⟨G, g1', g2'⟩ := restrict h2 fun c => decide (c ≠ a)
  have gk : ∀ c, c ≠ a → G.get? c = h2.get? c := fun c hc => g1' c (decide_eq_true hc)
  have ge : G.get? a = none := g2' a (by simp)
  have na : ∀ {c : Addr} {o : Obj}, hp.get? c = some o → c ≠ a := fun {c o} z => Nat.ne_of_lt (Nat.lt_of_lt_of_le (Heap.lt_size z) ha)
  have up : ∀ {c : Addr}, c ≠ a → H1 c = none → upd H1 a (exo a C none) c = none := fun {c} hc n => by rw [upd_ne hc]; exact n
  have U : Un (frs X.stack) [] H1 H1 hp G := by
    refine ⟨fun c o z n hf hx => ?_, fun c o z n hf hx => ?_, fun c o z n hx => n, fun c o z hx => ?_, fun c xs z => z, fun c o v z => z, fun c ps z => ⟨#[], by rw [z]; simp⟩⟩
    · rw [gk c (na z)]
      exact un.keep c o (k c o z) (up (na z) n) hf hx
    · rw [gk c (na z)]
      exact un.slot c o (k c o z) (up (na z) n) hf hx
    · rw [gk c (na z)]
      exact un.there c o (k c o z) hx
  have hok3 : HOk X.prog X.w H1 G := fun c o z => by
    have nca : c ≠ a := ne_of_none z hn
    have z2 : upd H1 a (exo a C none) c = some o := by
      rw [upd_ne nca]
      exact z
    refine (hok c o z2).stay (fun c' v hc' y => ?_) (fun c' hc' => ?_) fun c' xs hc' => ?_
    · have n2 : c' ≠ a := by
        rcases hc' with hc' | hc'
        · rw [hc']
          exact nca
        · exact at_ne upd_same hc' exo_own
      rw [gk c' n2]
      exact y
    · rwa [upd_ne (at_ne upd_same hc' exo_own)] at hc'
    · rwa [upd_ne (at_ne upd_same hc' exo_tup)] at hc'
  have J : Inv X pins σ H1 ⟨G, g2, d2, t2, os2⟩ := I1.call' (ch := []) ho U hok3 hb (fun c z => absurd z (by simp))
  refine ⟨a, _, _, ⟨G, g2, d2, t2, os2⟩, _, .ref C, none, rfl, J, fun c o z => ?_, ge, hoe, ⟨rfl, rfl⟩, rfl, rfl, hn, rfl, hb, T, q⟩
  by_cases hca : c = a
  · rw [hca, ge] at z
    cases z
  · exact (gk c hca).symm.trans z
theorem call9 {CX : CXT} {C fI : Addr} {k : Nat} {fd : FuncData} {ps : List Str} {sp : Sp} {pins : List (Addr × Obj)} {σ : St} {H1 : Hp} {Q : XK} {s1 : Shared} {us : List Value} {vs : List V} (T : XC X.K b C) (iC : PySem.W.findIn X.K (.ref C) "__init__" = some (some (.ref fI)))
    (tI : PySem.W.typeIn X.K (.ref fI) = some (.type "function")) (F1 : FnOk X.prog X.w X.K X.mg X.base CX k fI fd ps sp) (hr : Room (k + 1) X.A) (hb : Binds X.K fd ps []) (hx : Passes CX X (fun _ _ _ => False)) (I1 : Inv X pins σ H1 s1) (r1 : Vals vs us) (hz : vs.length ≤ 1000)
    (q1 : ∀ a, H1 a = none → sp (.ref a :: vs) (upd H1 a (exo a C none)) (fun v H2 => v = .non ∧ ((∃ (d : Addr) (fs : List (Str × V)), H2 a = some (exo a C (some d)) ∧ H2 d = some (exd d fs) ∧ H1 d = none ∧ Q (.ref C) (some d) (upd (del H2 a) d (.xd fs))) ∨
      (H2 = upd H1 a (exo a C none) ∧ Q (.ref C) none H1))) (fun _ _ _ => False)) : wpAny (model X.prog X.w) X.A (call (.ref C) us) (MkP X pins σ Q) X.xe s1 := by
  obtain ⟨nm, q, N, bs, bm, sn, sub, ab, col, dd, k0, k1, k2, k3, k5, hC, ht⟩ := T.cls
  obtain ⟨hp, g, dr, tk, os⟩ := s1
  have hsz : hp.objs.size ≤ hp.objs.size + 1 := Nat.le_succ _
  have hn : H1 (hp.objs.size + 1) = none := I1.hok.fresh hsz
  have hq := q1 (hp.objs.size + 1) hn
  have kk : ∀ c o, hp.get? c = some o → (PySem.K9B.laid9 hp C us).get? c = some o := fun c o e => Heap.get?_push_of_some _ (Heap.get?_push_of_some _ e)
  have hget : (PySem.K9B.laid9 hp C us).get? (hp.objs.size + 1) = some (PySem.HandSPX.excO C hp.objs.size) := by heap_get
  have I2 : Inv X pins σ (upd H1 (hp.objs.size + 1) (exo (hp.objs.size + 1) C none)) ⟨PySem.K9B.laid9 hp C us, g, dr, tk, os⟩ :=
    I1.laid (t' := tk) (a := hp.objs.size + 1) (o := exo (hp.objs.size + 1) C none) (h' := PySem.K9B.laid9 hp C us) kk hsz (exo_ok hget)
  have r2 : Vals (V.ref (hp.objs.size + 1) :: vs) (Value.ref (hp.objs.size + 1) :: us) := .cons rfl r1
  have hl : (Value.ref (hp.objs.size + 1) :: us ++ []).length = ps.length := by
    rw [List.append_nil, ← r2.length, F1.len _ _ _ _ hq]
  have hus : us.length ≤ sizeLine := by
    rw [← Paired.length r1, sizeLine_eq]
    omega
  refine wpAny_call (PySem.K9B.run_mk (bs_all b) (fun Y => PySem.W.excTail_contains Y bm ht) (I1.kIn _ _ hC) (PySem.W.looks_findIn I1.kIn iC) (fun self => PySem.W.bind_fn I1.kIn self tI) hus
    (codeAny_mono (F1.run _ X.stack _ _ ⟨Value.ref (hp.objs.size + 1) :: us, []⟩ (Value.ref (hp.objs.size + 1) :: us ++ []) _ _ (fun _ _ _ => False) (hr.make C us []) (I2.env0.make C us []) (hb _ (Value.ref (hp.objs.size + 1) :: us) I2.kIn hl) (by rw [List.append_nil]; exact r2) hq) fun r s' hq' => ?_))
  cases r with
  | error er => exact hx pins σ _ _ er s' I2 hq'
  | ok fl =>
    cases fl with
    | ret u =>
      obtain ⟨v, H2, os2, bare2, un2, hok2, rv, ev, q2⟩ := hq'
      subst ev
      obtain ⟨h2, g2, d2, t2, os'⟩ := s'
      refine ⟨rv, ?_⟩
      rcases q2 with ⟨d, fs, ea, ed, hd1, q2⟩ | ⟨eh, q2⟩
      · exact mk_end (raises_own T.exC T.tyC) I1 hsz kk un2 hok2 os2 bare2 ea ed hd1 q2
      · subst eh
        exact mk_end9 (raises_own T.exC T.tyC) I1 hsz kk un2 hok2 os2 bare2 q2
    | next => exact False.elim hq'
    | brk => exact False.elim hq'
    | cont => exact False.elim hq'
variable {CX : CXT} {x : Str} {C fI : Addr} {k : Nat} {fd : FuncData} {ps : List Str} {sp : Sp}
theorem pmk_9 (T : XC X.K b C) (iC : PySem.W.findIn X.K (.ref C) "__init__" = some (some (.ref fI))) (tI : PySem.W.typeIn X.K (.ref fI) = some (.type "function"))
    (F1 : FnOk X.prog X.w X.K X.mg X.base CX k fI fd ps sp) (hr : Room (k + 1) X.A) (hb : Binds X.K fd ps []) (hx : Passes CX X (fun _ _ _ => False)) (hg : Gl X x) (hm : X.mg x = some (.ref C)) (ha : PA X (e :: es) ta)
    (hdb : (x == ("__debug__" : Str)) = false) (he : starEach (e :: es) X.env = (false, eval e X.env) :: starEach es X.env) (hpl : (backTo pos (starEach es X.env)).any (·.1) = false) :
    PMk X (.Call (.Name x p) (e :: es) [] pos) (tMk9 C sp ta) := by
  intro pins s σ H Q I h
  refine wpAny_Call_Name_kw (ld_glob I hg hm ?_ hdb)
  refine PySem.W.callWith_K (h₀ := X.base) I.ok.mod.kin T.kC (thn (ha.run pos pins s σ H _ I h) fun us s1 ⟨vs, H1, I1, r1, hz, q1⟩ => ⟨I1.kIn, ?_⟩) he hpl
  exact call9 T iC tI F1 hr hb hx I1 r1 hz q1
end
end L2.K9
set_option maxHeartbeats 4000000
namespace L2.K9
open PySem PySem.Spec PyProof.Rows He
/-! ### the text by places -/
def top (i : Nat) : Stmt := PySem.Challenge.pw_everyzone_k99_whole_sessions_replayed.main.body.getD i (.Pass ⟨0, 0, 0, 0⟩)
abbrev s_is_whole : Stmt := top 29
abbrev s_is_integer : Stmt := top 30
abbrev s_is_name : Stmt := top 31
abbrev s_is_list : Stmt := top 32
abbrev s_told_time : Stmt := top 35
abbrev s_told_integer : Stmt := top 36
abbrev s_need_kind : Stmt := top 61
abbrev s_is_any : Stmt := top 76
abbrev s_kind_of_one : Stmt := top 77
abbrev s_kind_of_two : Stmt := top 78
abbrev s_kind_of_line : Stmt := top 79
abbrev s_start_of : Stmt := top 80
abbrev s_are_answers : Stmt := top 81
abbrev s_need_program : Stmt := top 83
abbrev s_index_of : Stmt := top 114
abbrev s_part_of : Stmt := top 115
abbrev s_texts_of : Stmt := top 116
abbrev s_parts_of : Stmt := top 117
abbrev s_command_of : Stmt := top 118
abbrev s_with_lines : Stmt := top 147
abbrev s_edited : Stmt := top 148
abbrev s_state_behind : Stmt := top 149
abbrev s__law_cell : Stmt := top 156
abbrev s__law_box : Stmt := top 157
abbrev s__law_take : Stmt := top 158
abbrev s__law_line_of : Stmt := top 159
abbrev s__law_change : Stmt := top 160
abbrev s__law_said : Stmt := top 161
abbrev s__law_state : Stmt := top 162
abbrev s__law_wound : Stmt := top 163
abbrev s__law_made : Stmt := top 164
abbrev s__law_replayed : Stmt := top 165
abbrev s__law_long_right : Stmt := top 166
abbrev s_law : Stmt := top 167
abbrev s_Kind___init__ : Stmt := inClass (top 60) 0
abbrev s_Kind___eq__ : Stmt := inClass (top 60) 5
abbrev s_Kind_parts : Stmt := inClass (top 60) 6
abbrev s_Kind_jumps : Stmt := inClass (top 60) 1
abbrev s_Kind_apart : Stmt := inClass (top 60) 2
abbrev s_Kind_most : Stmt := inClass (top 60) 3
abbrev s_Program___init__ : Stmt := inClass (top 82) 0
abbrev s_Program_take : Stmt := inClass (top 82) 1
abbrev s_Program___str__ : Stmt := inClass (top 82) 11
abbrev s_State___init__ : Stmt := inClass (top 146) 0
abbrev s_State_told : Stmt := inClass (top 146) 1
abbrev s_Session___init__ : Stmt := inClass (top 154) 0
abbrev s_Session_state : Stmt := inClass (top 154) 1
abbrev s_Session_kind : Stmt := inClass (top 154) 2
abbrev s_Session_text : Stmt := inClass (top 154) 4
abbrev s_Session_done : Stmt := inClass (top 154) 5
abbrev s_Session___len__ : Stmt := inClass (top 154) 6
abbrev s_Session_say : Stmt := inClass (top 154) 7
abbrev s_Session_say_all : Stmt := inClass (top 154) 8
abbrev s_Session_step : Stmt := inClass (top 154) 9
abbrev s_Session_performed : Stmt := inClass (top 154) 10
abbrev s_InvalidInteger___init__ : Stmt := inClass (top 6) 0
abbrev s_InvalidLine___init__ : Stmt := inClass (top 8) 0
abbrev s_InvalidCommand___init__ : Stmt := inClass (top 9) 0
abbrev s_InvalidJump___init__ : Stmt := inClass (top 11) 0
abbrev s_Duplicate___init__ : Stmt := inClass (top 13) 0
abbrev s_NoLine___init__ : Stmt := inClass (top 19) 0
abbrev s_NothingToUndo___init__ : Stmt := inClass (top 22) 0
abbrev FnP (K : PySem.W.Frag) (x q : Str) (st : Stmt) (ds : List V) (f : Addr) (fd : FuncData) : Prop := FunD K x q (defArgs st) (defBody st) (defScope st) ds [] f fd
/-- a property's record, its getter -/
def ppA (K : PySem.W.Frag) (C f : Str) : Addr := ma K (ga K C) f
def pgA (K : PySem.W.Frag) (C f : Str) : Addr := match PySem.W.recIn K (ppA K C f) "property" with
  | some (.ref g :: _) => g
  | _ => 0
/-- an instance's class, for isinstance -/
structure InsC (K : PySem.W.Frag) (C : Addr) : Prop where
  ha : PySem.W.findIn K (.ref C) "__class__" = some (some (.builtin "object.__class__"))
  hn : PySem.W.specialIn K (.builtin "object.__class__") "__get__" = some (some (.builtin "getset_descriptor.__get__"))
  ht : PySem.W.takesIn K (.builtin "object.__class__") = some true
  hm : PySem.W.mroIn K C (.type "object") = some true
  self : PySem.W.kitOne K (.ref C) (.ref C) = some true
/-- a written dict of texts by texts -/
def ekv (e : DictEntry) : Option (Str × Str) := match e.key, e.val with
  | .str x _, .str y _ => some (x, y)
  | _, _ => none
def WDict (w : World) (K : PySem.W.Frag) (d : Addr) (L : List (Str × Str)) : Prop := ∃ es n, KDict K w d es n ∧ es.toList.map ekv = L.map some
def formsL : List (Str × Str) := [("take", "i"), ("apart", "n"), ("most", "n"), ("show", ""), ("kind", ""), ("changes", ""), ("cases", ""), ("answers", "i"), ("needless", ""), ("faults", ""), ("run", "nn"), ("undo", ""), ("redo", "")]
/-- what the top has left -/
structure GT (w : World) (K : PySem.W.Frag) (mg : Str → Option Value) : Prop where
  g_is_whole : mg "is_whole" = some (.ref (ga K "is_whole"))
  g_is_integer : mg "is_integer" = some (.ref (ga K "is_integer"))
  g_is_name : mg "is_name" = some (.ref (ga K "is_name"))
  g_is_list : mg "is_list" = some (.ref (ga K "is_list"))
  g_told_time : mg "told_time" = some (.ref (ga K "told_time"))
  g_told_integer : mg "told_integer" = some (.ref (ga K "told_integer"))
  g_need_kind : mg "need_kind" = some (.ref (ga K "need_kind"))
  g_is_any : mg "is_any" = some (.ref (ga K "is_any"))
  g_kind_of_one : mg "kind_of_one" = some (.ref (ga K "kind_of_one"))
  g_kind_of_two : mg "kind_of_two" = some (.ref (ga K "kind_of_two"))
  g_kind_of_line : mg "kind_of_line" = some (.ref (ga K "kind_of_line"))
  g_start_of : mg "start_of" = some (.ref (ga K "start_of"))
  g_are_answers : mg "are_answers" = some (.ref (ga K "are_answers"))
  g_need_program : mg "need_program" = some (.ref (ga K "need_program"))
  g_index_of : mg "index_of" = some (.ref (ga K "index_of"))
  g_part_of : mg "part_of" = some (.ref (ga K "part_of"))
  g_texts_of : mg "texts_of" = some (.ref (ga K "texts_of"))
  g_parts_of : mg "parts_of" = some (.ref (ga K "parts_of"))
  g_command_of : mg "command_of" = some (.ref (ga K "command_of"))
  g_with_lines : mg "with_lines" = some (.ref (ga K "with_lines"))
  g_edited : mg "edited" = some (.ref (ga K "edited"))
  g_state_behind : mg "state_behind" = some (.ref (ga K "state_behind"))
  g__law_cell : mg "_law_cell" = some (.ref (ga K "_law_cell"))
  g__law_box : mg "_law_box" = some (.ref (ga K "_law_box"))
  g__law_take : mg "_law_take" = some (.ref (ga K "_law_take"))
  g__law_line_of : mg "_law_line_of" = some (.ref (ga K "_law_line_of"))
  g__law_change : mg "_law_change" = some (.ref (ga K "_law_change"))
  g__law_said : mg "_law_said" = some (.ref (ga K "_law_said"))
  g__law_state : mg "_law_state" = some (.ref (ga K "_law_state"))
  g__law_wound : mg "_law_wound" = some (.ref (ga K "_law_wound"))
  g__law_made : mg "_law_made" = some (.ref (ga K "_law_made"))
  g__law_replayed : mg "_law_replayed" = some (.ref (ga K "_law_replayed"))
  g__law_long_right : mg "_law_long_right" = some (.ref (ga K "_law_long_right"))
  g_law : mg "law" = some (.ref (ga K "law"))
  g_Kind : mg "Kind" = some (.ref (ga K "Kind"))
  g_Program : mg "Program" = some (.ref (ga K "Program"))
  g_State : mg "State" = some (.ref (ga K "State"))
  g_Session : mg "Session" = some (.ref (ga K "Session"))
  g_InvalidInteger : mg "InvalidInteger" = some (.ref (ga K "InvalidInteger"))
  g_InvalidLine : mg "InvalidLine" = some (.ref (ga K "InvalidLine"))
  g_InvalidCommand : mg "InvalidCommand" = some (.ref (ga K "InvalidCommand"))
  g_InvalidJump : mg "InvalidJump" = some (.ref (ga K "InvalidJump"))
  g_Duplicate : mg "Duplicate" = some (.ref (ga K "Duplicate"))
  g_NoLine : mg "NoLine" = some (.ref (ga K "NoLine"))
  g_NothingToUndo : mg "NothingToUndo" = some (.ref (ga K "NothingToUndo"))
  g_TimeError : mg "TimeError" = some (.ref (ga K "TimeError"))
  g_MissingError : mg "MissingError" = some (.ref (ga K "MissingError"))
  g_StateError : mg "StateError" = some (.ref (ga K "StateError"))
  g_RULES_programs : mg "RULES_programs" = some (.ref (ga K "RULES_programs"))
  g_CHANGES : mg "CHANGES" = some (.ref (ga K "CHANGES"))
  g_STOPS : mg "STOPS" = some (.ref (ga K "STOPS"))
  g_FORMS : mg "FORMS" = some (.ref (ga K "FORMS"))
  c_LONGEST_NAME : ∃ t, mg "LONGEST_NAME" = some (.int 8 t)
  c_DAY : ∃ t, mg "DAY" = some (.int 1440 t)
  c_HOUR : ∃ t, mg "HOUR" = some (.int 60 t)
  c_GREATEST_JUMP : ∃ t, mg "GREATEST_JUMP" = some (.int 720 t)
  c_MOST_JUMPS_kinds : ∃ t, mg "MOST_JUMPS_kinds" = some (.int 4 t)
  c_MOST_CHANGES : ∃ t, mg "MOST_CHANGES" = some (.int 3 t)
  c_USUAL_CHANGES : ∃ t, mg "USUAL_CHANGES" = some (.int 2 t)
  c_MOST_LINES : ∃ t, mg "MOST_LINES" = some (.int 8 t)
  c_MOST_ANSWERS : ∃ t, mg "MOST_ANSWERS" = some (.int 4 t)
  c_MOST_MINUTES : ∃ t, mg "MOST_MINUTES" = some (.int 100000 t)
  c_MOST_DAYS : ∃ t, mg "MOST_DAYS" = some (.int 60 t)
  c_MOST_NUMBER : ∃ t, mg "MOST_NUMBER" = some (.int 999999999999999999999999999999 t)
  c_MOST_INDEX : ∃ t, mg "MOST_INDEX" = some (.int 99 t)
  c_MOST_JUMPS_commands : ∃ t, mg "MOST_JUMPS_commands" = some (.int 4 t)
  c_LETTERS : ∃ t, mg "LETTERS" = some (.str "abcdefghijklmnopqrstuvwxyz" t)
  c_DIGITS : ∃ t, mg "DIGITS" = some (.str "0123456789" t)
  c_MOMENT : ∃ t, mg "MOMENT" = some (.str "moment" t)
  c_READING : ∃ t, mg "READING" = some (.str "reading" t)
  c_NUMBER : ∃ t, mg "NUMBER" = some (.str "number" t)
  c_TRUTH : ∃ t, mg "TRUTH" = some (.str "truth" t)
  c_NOW : ∃ t, mg "NOW" = some (.str "now" t)
  c_ADD : ∃ t, mg "ADD" = some (.str "add" t)
  c_DAYS : ∃ t, mg "DAYS" = some (.str "days" t)
  c_AT : ∃ t, mg "AT" = some (.str "at" t)
  c_BEGIN : ∃ t, mg "BEGIN" = some (.str "program" t)
  c_PUT : ∃ t, mg "PUT" = some (.str "put" t)
  c_TAKE : ∃ t, mg "TAKE" = some (.str "take" t)
  c_REPLACE : ∃ t, mg "REPLACE" = some (.str "replace" t)
  f_isinstance : mg "isinstance" = none
  f_int : mg "int" = none
  f_bool : mg "bool" = none
  f_str : mg "str" = none
  f_list : mg "list" = none
  f_tuple : mg "tuple" = none
  f_len : mg "len" = none
  f_all : mg "all" = none
  f_max : mg "max" = none
  f_min : mg "min" = none
  f_sorted : mg "sorted" = none
  f_abs : mg "abs" = none
  f_range : mg "range" = none
  f_zip : mg "zip" = none
  f_enumerate : mg "enumerate" = none
  d_is_whole : ∃ fd, FnP K "is_whole" "is_whole" s_is_whole [] (ga K "is_whole") fd
  d_is_integer : ∃ fd, FnP K "is_integer" "is_integer" s_is_integer [] (ga K "is_integer") fd
  d_is_name : ∃ fd, FnP K "is_name" "is_name" s_is_name [] (ga K "is_name") fd
  d_is_list : ∃ fd, FnP K "is_list" "is_list" s_is_list [] (ga K "is_list") fd
  d_told_time : ∃ fd, FnP K "told_time" "told_time" s_told_time [] (ga K "told_time") fd
  d_told_integer : ∃ fd, FnP K "told_integer" "told_integer" s_told_integer [] (ga K "told_integer") fd
  d_need_kind : ∃ fd, FnP K "need_kind" "need_kind" s_need_kind [] (ga K "need_kind") fd
  d_is_any : ∃ fd, FnP K "is_any" "is_any" s_is_any [] (ga K "is_any") fd
  d_kind_of_one : ∃ fd, FnP K "kind_of_one" "kind_of_one" s_kind_of_one [] (ga K "kind_of_one") fd
  d_kind_of_two : ∃ fd, FnP K "kind_of_two" "kind_of_two" s_kind_of_two [] (ga K "kind_of_two") fd
  d_kind_of_line : ∃ fd, FnP K "kind_of_line" "kind_of_line" s_kind_of_line [] (ga K "kind_of_line") fd
  d_start_of : ∃ fd, FnP K "start_of" "start_of" s_start_of [] (ga K "start_of") fd
  d_are_answers : ∃ fd, FnP K "are_answers" "are_answers" s_are_answers [] (ga K "are_answers") fd
  d_need_program : ∃ fd, FnP K "need_program" "need_program" s_need_program [] (ga K "need_program") fd
  d_index_of : ∃ fd, FnP K "index_of" "index_of" s_index_of [] (ga K "index_of") fd
  d_part_of : ∃ fd, FnP K "part_of" "part_of" s_part_of [] (ga K "part_of") fd
  d_texts_of : ∃ fd, FnP K "texts_of" "texts_of" s_texts_of [] (ga K "texts_of") fd
  d_parts_of : ∃ fd, FnP K "parts_of" "parts_of" s_parts_of [] (ga K "parts_of") fd
  d_command_of : ∃ fd, FnP K "command_of" "command_of" s_command_of [] (ga K "command_of") fd
  d_with_lines : ∃ fd, FnP K "with_lines" "with_lines" s_with_lines [] (ga K "with_lines") fd
  d_edited : ∃ fd, FnP K "edited" "edited" s_edited [] (ga K "edited") fd
  d_state_behind : ∃ fd, FnP K "state_behind" "state_behind" s_state_behind [] (ga K "state_behind") fd
  d__law_cell : ∃ fd, FnP K "_law_cell" "_law_cell" s__law_cell [] (ga K "_law_cell") fd
  d__law_box : ∃ fd, FnP K "_law_box" "_law_box" s__law_box [] (ga K "_law_box") fd
  d__law_take : ∃ fd, FnP K "_law_take" "_law_take" s__law_take [] (ga K "_law_take") fd
  d__law_line_of : ∃ fd, FnP K "_law_line_of" "_law_line_of" s__law_line_of [] (ga K "_law_line_of") fd
  d__law_change : ∃ fd, FnP K "_law_change" "_law_change" s__law_change [] (ga K "_law_change") fd
  d__law_said : ∃ fd, FnP K "_law_said" "_law_said" s__law_said [] (ga K "_law_said") fd
  d__law_state : ∃ fd, FnP K "_law_state" "_law_state" s__law_state [] (ga K "_law_state") fd
  d__law_wound : ∃ fd, FnP K "_law_wound" "_law_wound" s__law_wound [] (ga K "_law_wound") fd
  d__law_made : ∃ fd, FnP K "_law_made" "_law_made" s__law_made [] (ga K "_law_made") fd
  d__law_replayed : ∃ fd, FnP K "_law_replayed" "_law_replayed" s__law_replayed [] (ga K "_law_replayed") fd
  d__law_long_right : ∃ fd, FnP K "_law_long_right" "_law_long_right" s__law_long_right [] (ga K "_law_long_right") fd
  d_law : ∃ fd, FnP K "law" "law" s_law [] (ga K "law") fd
  d_Kind___init__ : ∃ fd, FnP K "__init__" "Kind.__init__" s_Kind___init__ [.int 2] (ma K (ga K "Kind") "__init__") fd
  d_Kind___eq__ : ∃ fd, FnP K "__eq__" "Kind.__eq__" s_Kind___eq__ [] (ma K (ga K "Kind") "__eq__") fd
  d_Kind_parts : ∃ fd, FnP K "parts" "Kind.parts" s_Kind_parts [] (ma K (ga K "Kind") "parts") fd
  d_Kind_jumps : ∃ fd, FnP K "jumps" "Kind.jumps" s_Kind_jumps [] (pgA K "Kind" "jumps") fd
  d_Kind_apart : ∃ fd, FnP K "apart" "Kind.apart" s_Kind_apart [] (pgA K "Kind" "apart") fd
  d_Kind_most : ∃ fd, FnP K "most" "Kind.most" s_Kind_most [] (pgA K "Kind" "most") fd
  d_Program___init__ : ∃ fd, FnP K "__init__" "Program.__init__" s_Program___init__ [] (ma K (ga K "Program") "__init__") fd
  d_Program_take : ∃ fd, FnP K "take" "Program.take" s_Program_take [] (ma K (ga K "Program") "take") fd
  d_Program___str__ : ∃ fd, FnP K "__str__" "Program.__str__" s_Program___str__ [] (ma K (ga K "Program") "__str__") fd
  d_State___init__ : ∃ fd, FnP K "__init__" "State.__init__" s_State___init__ [] (ma K (ga K "State") "__init__") fd
  d_State_told : ∃ fd, FnP K "told" "State.told" s_State_told [] (ma K (ga K "State") "told") fd
  d_Session___init__ : ∃ fd, FnP K "__init__" "Session.__init__" s_Session___init__ [.non] (ma K (ga K "Session") "__init__") fd
  d_Session_state : ∃ fd, FnP K "state" "Session.state" s_Session_state [] (ma K (ga K "Session") "state") fd
  d_Session_kind : ∃ fd, FnP K "kind" "Session.kind" s_Session_kind [] (ma K (ga K "Session") "kind") fd
  d_Session_text : ∃ fd, FnP K "text" "Session.text" s_Session_text [] (ma K (ga K "Session") "text") fd
  d_Session_done : ∃ fd, FnP K "done" "Session.done" s_Session_done [] (ma K (ga K "Session") "done") fd
  d_Session___len__ : ∃ fd, FnP K "__len__" "Session.__len__" s_Session___len__ [] (ma K (ga K "Session") "__len__") fd
  d_Session_say : ∃ fd, FnP K "say" "Session.say" s_Session_say [] (ma K (ga K "Session") "say") fd
  d_Session_say_all : ∃ fd, FnP K "say_all" "Session.say_all" s_Session_say_all [] (ma K (ga K "Session") "say_all") fd
  d_Session_step : ∃ fd, FnP K "step" "Session.step" s_Session_step [] (ma K (ga K "Session") "step") fd
  d_Session_performed : ∃ fd, FnP K "performed" "Session.performed" s_Session_performed [] (ma K (ga K "Session") "performed") fd
  d_InvalidInteger___init__ : ∃ fd, FnP K "__init__" "InvalidInteger.__init__" s_InvalidInteger___init__ [] (ma K (ga K "InvalidInteger") "__init__") fd
  d_InvalidLine___init__ : ∃ fd, FnP K "__init__" "InvalidLine.__init__" s_InvalidLine___init__ [] (ma K (ga K "InvalidLine") "__init__") fd
  d_InvalidCommand___init__ : ∃ fd, FnP K "__init__" "InvalidCommand.__init__" s_InvalidCommand___init__ [] (ma K (ga K "InvalidCommand") "__init__") fd
  d_InvalidJump___init__ : ∃ fd, FnP K "__init__" "InvalidJump.__init__" s_InvalidJump___init__ [] (ma K (ga K "InvalidJump") "__init__") fd
  d_Duplicate___init__ : ∃ fd, FnP K "__init__" "Duplicate.__init__" s_Duplicate___init__ [] (ma K (ga K "Duplicate") "__init__") fd
  d_NoLine___init__ : ∃ fd, FnP K "__init__" "NoLine.__init__" s_NoLine___init__ [] (ma K (ga K "NoLine") "__init__") fd
  d_NothingToUndo___init__ : ∃ fd, FnP K "__init__" "NothingToUndo.__init__" s_NothingToUndo___init__ [] (ma K (ga K "NothingToUndo") "__init__") fd
  k_Kind : Cls K (ga K "Kind")
  m_Kind : Mk K (ga K "Kind") (ma K (ga K "Kind") "__init__")
  n_Kind_own_jumps : NoAttr K (ga K "Kind") "own_jumps"
  n_Kind_own_apart : NoAttr K (ga K "Kind") "own_apart"
  n_Kind_own_most : NoAttr K (ga K "Kind") "own_most"
  e_Kind_parts : Meth K (ga K "Kind") "parts" (ma K (ga K "Kind") "parts")
  k_Program : Cls K (ga K "Program")
  m_Program : Mk K (ga K "Program") (ma K (ga K "Program") "__init__")
  n_Program_own_start : NoAttr K (ga K "Program") "own_start"
  n_Program_own_text : NoAttr K (ga K "Program") "own_text"
  n_Program_own_kinds : NoAttr K (ga K "Program") "own_kinds"
  n_Program_own_lines : NoAttr K (ga K "Program") "own_lines"
  n_Program_own_answers : NoAttr K (ga K "Program") "own_answers"
  e_Program_take : Meth K (ga K "Program") "take" (ma K (ga K "Program") "take")
  k_State : Cls K (ga K "State")
  m_State : Mk K (ga K "State") (ma K (ga K "State") "__init__")
  n_State_zones : NoAttr K (ga K "State") "zones"
  n_State_plan : NoAttr K (ga K "State") "plan"
  e_State_told : Meth K (ga K "State") "told" (ma K (ga K "State") "told")
  k_Session : Cls K (ga K "Session")
  m_Session : Mk K (ga K "Session") (ma K (ga K "Session") "__init__")
  n_Session_origin : NoAttr K (ga K "Session") "origin"
  n_Session_made : NoAttr K (ga K "Session") "made"
  n_Session_undone : NoAttr K (ga K "Session") "undone"
  e_Session_state : Meth K (ga K "Session") "state" (ma K (ga K "Session") "state")
  e_Session_kind : Meth K (ga K "Session") "kind" (ma K (ga K "Session") "kind")
  e_Session_text : Meth K (ga K "Session") "text" (ma K (ga K "Session") "text")
  e_Session_done : Meth K (ga K "Session") "done" (ma K (ga K "Session") "done")
  e_Session_say : Meth K (ga K "Session") "say" (ma K (ga K "Session") "say")
  e_Session_say_all : Meth K (ga K "Session") "say_all" (ma K (ga K "Session") "say_all")
  e_Session_step : Meth K (ga K "Session") "step" (ma K (ga K "Session") "step")
  e_Session_performed : Meth K (ga K "Session") "performed" (ma K (ga K "Session") "performed")
  p_Kind_jumps : PropOf K (ga K "Kind") "jumps" (ppA K "Kind" "jumps") (pgA K "Kind" "jumps")
  p_Kind_apart : PropOf K (ga K "Kind") "apart" (ppA K "Kind" "apart") (pgA K "Kind" "apart")
  p_Kind_most : PropOf K (ga K "Kind") "most" (ppA K "Kind" "most") (pgA K "Kind" "most")
  x_InvalidInteger : XC K .val (ga K "InvalidInteger")
  i_InvalidInteger : PySem.W.findIn K (.ref (ga K "InvalidInteger")) "__init__" = some (some (.ref (ma K (ga K "InvalidInteger") "__init__")))
  t_InvalidInteger : PySem.W.typeIn K (.ref (ma K (ga K "InvalidInteger") "__init__")) = some (.type "function")
  na_InvalidInteger : PySem.W.findIn K (.ref (ga K "InvalidInteger")) "value" = some none
  ex_InvalidInteger : PySem.W.exmAny K (.ref (ga K "InvalidInteger")) [.ref (ga K "TimeError"), .ref (ga K "MissingError"), .ref (ga K "StateError")] = some true
  x_InvalidLine : XC K .val (ga K "InvalidLine")
  i_InvalidLine : PySem.W.findIn K (.ref (ga K "InvalidLine")) "__init__" = some (some (.ref (ma K (ga K "InvalidLine") "__init__")))
  t_InvalidLine : PySem.W.typeIn K (.ref (ma K (ga K "InvalidLine") "__init__")) = some (.type "function")
  na_InvalidLine : PySem.W.findIn K (.ref (ga K "InvalidLine")) "index" = some none
  ex_InvalidLine : PySem.W.exmAny K (.ref (ga K "InvalidLine")) [.ref (ga K "TimeError"), .ref (ga K "MissingError"), .ref (ga K "StateError")] = some true
  x_InvalidCommand : XC K .val (ga K "InvalidCommand")
  i_InvalidCommand : PySem.W.findIn K (.ref (ga K "InvalidCommand")) "__init__" = some (some (.ref (ma K (ga K "InvalidCommand") "__init__")))
  t_InvalidCommand : PySem.W.typeIn K (.ref (ma K (ga K "InvalidCommand") "__init__")) = some (.type "function")
  na_InvalidCommand : PySem.W.findIn K (.ref (ga K "InvalidCommand")) "value" = some none
  ex_InvalidCommand : PySem.W.exmAny K (.ref (ga K "InvalidCommand")) [.ref (ga K "TimeError"), .ref (ga K "MissingError"), .ref (ga K "StateError")] = some true
  x_InvalidJump : XC K .val (ga K "InvalidJump")
  i_InvalidJump : PySem.W.findIn K (.ref (ga K "InvalidJump")) "__init__" = some (some (.ref (ma K (ga K "InvalidJump") "__init__")))
  t_InvalidJump : PySem.W.typeIn K (.ref (ma K (ga K "InvalidJump") "__init__")) = some (.type "function")
  na_InvalidJump : PySem.W.findIn K (.ref (ga K "InvalidJump")) "value" = some none
  ex_InvalidJump : PySem.W.exmAny K (.ref (ga K "InvalidJump")) [.ref (ga K "TimeError"), .ref (ga K "MissingError"), .ref (ga K "StateError")] = some true
  x_Duplicate : XC K .val (ga K "Duplicate")
  i_Duplicate : PySem.W.findIn K (.ref (ga K "Duplicate")) "__init__" = some (some (.ref (ma K (ga K "Duplicate") "__init__")))
  t_Duplicate : PySem.W.typeIn K (.ref (ma K (ga K "Duplicate") "__init__")) = some (.type "function")
  na_Duplicate : PySem.W.findIn K (.ref (ga K "Duplicate")) "label" = some none
  ex_Duplicate : PySem.W.exmAny K (.ref (ga K "Duplicate")) [.ref (ga K "TimeError"), .ref (ga K "MissingError"), .ref (ga K "StateError")] = some true
  x_NoLine : XC K .key (ga K "NoLine")
  i_NoLine : PySem.W.findIn K (.ref (ga K "NoLine")) "__init__" = some (some (.ref (ma K (ga K "NoLine") "__init__")))
  t_NoLine : PySem.W.typeIn K (.ref (ma K (ga K "NoLine") "__init__")) = some (.type "function")
  na_NoLine : PySem.W.findIn K (.ref (ga K "NoLine")) "index" = some none
  ex_NoLine : PySem.W.exmAny K (.ref (ga K "NoLine")) [.ref (ga K "TimeError"), .ref (ga K "MissingError"), .ref (ga K "StateError")] = some true
  x_NothingToUndo : XC K .look (ga K "NothingToUndo")
  i_NothingToUndo : PySem.W.findIn K (.ref (ga K "NothingToUndo")) "__init__" = some (some (.ref (ma K (ga K "NothingToUndo") "__init__")))
  t_NothingToUndo : PySem.W.typeIn K (.ref (ma K (ga K "NothingToUndo") "__init__")) = some (.type "function")
  ex_NothingToUndo : PySem.W.exmAny K (.ref (ga K "NothingToUndo")) [.ref (ga K "TimeError"), .ref (ga K "MissingError"), .ref (ga K "StateError")] = some true
  r_TimeError : XRecv K .val (ga K "TimeError")
  r_MissingError : XRecv K .key (ga K "MissingError")
  r_StateError : XRecv K .look (ga K "StateError")
  ic_Kind : InsC K (ga K "Kind")
  ic_Program : InsC K (ga K "Program")
  l_RULES_programs : ∀ H : Hp, SqL K H (ga K "RULES_programs") [.str "ahead", .str "behind", .str "strict"]
  l_CHANGES : ∀ H : Hp, SqL K H (ga K "CHANGES") [.str "program", .str "put", .str "take", .str "replace", .str "jumps", .str "apart", .str "most"]
  l_STOPS : ∀ H : Hp, SqL K H (ga K "STOPS") [.str "undo", .str "redo"]
  fi_Program___str__ : PySem.W.findIn K (.ref (ga K "Program")) "__str__" = some (some (.ref (ma K (ga K "Program") "__str__")))
  if_Program___str__ : PySem.W.isFn K (.ref (ma K (ga K "Program") "__str__")) = true
  fi_Session___len__ : PySem.W.findIn K (.ref (ga K "Session")) "__len__" = some (some (.ref (ma K (ga K "Session") "__len__")))
  if_Session___len__ : PySem.W.isFn K (.ref (ma K (ga K "Session") "__len__")) = true
  fi_Kind___eq__ : PySem.W.findIn K (.ref (ga K "Kind")) "__eq__" = some (some (.ref (ma K (ga K "Kind") "__eq__")))
  if_Kind___eq__ : PySem.W.isFn K (.ref (ma K (ga K "Kind") "__eq__")) = true
  w_FORMS : WDict w K (ga K "FORMS") formsL
  ne_Kind : ga K "Kind" ≠ ga K "Session"
  ne_Program : ga K "Program" ≠ ga K "Session"
  ne_State : ga K "State" ≠ ga K "Session"
end L2.K9
set_option maxHeartbeats 4000000
namespace L2.K9
open PySem PySem.Spec PyProof.Rows He
/-! ### facts of the top, as Bools -/
def propB (K : PySem.W.Frag) (C f : Str) : Bool := eqO (PySem.W.findIn K (.ref (ga K C)) f) (some (some (.ref (ppA K C f)))) && (eqO (PySem.W.specialIn K (.ref (ppA K C f)) "__get__") (some (some (.builtin "property.__get__"))) &&
  (decide (PySem.W.takesIn K (.ref (ppA K C f)) = some true) && (match PySem.W.recIn K (ppA K C f) "property" with
    | some (.ref _ :: _) => true
    | _ => false)))
theorem propB_ok {K : PySem.W.Frag} {C f : Str} (h : propB K C f = true) : PropOf K (ga K C) f (ppA K C f) (pgA K C f) := by
  obtain ⟨h1, h⟩ := ba h
  obtain ⟨h2, h⟩ := ba h
  obtain ⟨h3, h4⟩ := ba h
  refine ⟨eqO_ok h1, eqO_ok h2, of_decide_eq_true h3, ?_⟩
  unfold pgA
  revert h4
  cases PySem.W.recIn K (ppA K C f) "property" with
  | none => intro h; cases h
  | some l =>
    cases l with
    | nil => intro h; cases h
    | cons v r =>
      cases v with
      | ref a => intro _; exact ⟨r, rfl⟩
      | _ => intro h; cases h
def recvB (K : PySem.W.Frag) (b : Kd) (T : Addr) : Bool := PySem.W.readsIn K T (.type "type") && (eqO (PySem.W.specialIn K (.ref T) "__getattribute__") (some (some (.builtin "type.__getattribute__"))) &&
  (match PySem.W.findCls K (.ref T) (.type "type") "__init__" with
    | some (.val (.builtin n)) => n == b.ini
    | _ => false))
theorem recvB_ok {K : PySem.W.Frag} {b : Kd} {T : Addr} (h : recvB K b T = true) : XRecv K b T := by
  obtain ⟨h1, h⟩ := ba h
  obtain ⟨h2, h3⟩ := ba h
  refine ⟨h1, eqO_ok h2, ?_⟩
  revert h3
  cases PySem.W.findCls K (.ref T) (.type "type") "__init__" with
  | none => intro h; cases h
  | some c =>
    cases c with
    | val v =>
      cases v with
      | builtin n => intro h; rw [beq_iff_eq.mp h]
      | _ => intro h; cases h
    | get _ _ _ _ => intro h; cases h
def insB (K : PySem.W.Frag) (C : Addr) : Bool := eqO (PySem.W.findIn K (.ref C) "__class__") (some (some (.builtin "object.__class__"))) && (eqO (PySem.W.specialIn K (.builtin "object.__class__") "__get__") (some (some (.builtin "getset_descriptor.__get__"))) &&
  (decide (PySem.W.takesIn K (.builtin "object.__class__") = some true) && (decide (PySem.W.mroIn K C (.type "object") = some true) && decide (PySem.W.kitOne K (.ref C) (.ref C) = some true))))
theorem insB_ok {K : PySem.W.Frag} {C : Addr} (h : insB K C = true) : InsC K C := by
  obtain ⟨h1, h⟩ := ba h
  obtain ⟨h2, h⟩ := ba h
  obtain ⟨h3, h⟩ := ba h
  obtain ⟨h4, h5⟩ := ba h
  exact ⟨eqO_ok h1, eqO_ok h2, of_decide_eq_true h3, of_decide_eq_true h4, of_decide_eq_true h5⟩
def formB (K : PySem.W.Frag) (d : Addr) : Bool := match K.lookup d with
  | some ⟨_, _, .dict es _, _⟩ => decide (es.toList.map ekv = formsL.map some)
  | _ => false
theorem form_ok {w : World} {K : PySem.W.Frag} {d : Addr} {ks : List Str} (h : dicW K d = some (keysIn w.params ks)) (hb : formB K d = true) : WDict w K d formsL := by
  obtain ⟨es, n, kd⟩ := dicW_ok h
  refine ⟨es, n, kd, ?_⟩
  have lk := kd.1
  unfold formB at hb
  rw [lk] at hb
  exact of_decide_eq_true hb
/-- a def: where it stands, its text -/
structure D9 where
  ad : PySem.W.Frag → Addr
  name : Str
  qual : Str
  params : Arguments
  body : List Stmt
  scope : Scope
  dfl : List V
def fnA (K : PySem.W.Frag) (a : Addr) : FnW := match K.lookup a with
  | some ⟨_, _, .func fd, _⟩ => some (fd.name, fd.qualname, fd.params, fd.body, fd.scope, fd.globals, fd.closure, fd.builtins)
  | _ => none
def D9.val (d : D9) : FnW := some (d.name, d.qual, d.params, .stmts d.body, d.scope, mainGlobals, [], builtinsNs)
def D9.ok (K : PySem.W.Frag) (d : D9) : Bool := PySem.W.keepIn K (.ref (d.ad K)) && (match K.lookup (d.ad K) with
  | some ⟨_, _, .func fd, _⟩ => PySem.W.codeIn K fd.code d.qual && dflB K fd.defaults d.dfl
  | _ => false)
theorem D9.funD {K : PySem.W.Frag} {d : D9} (e : fnA K (d.ad K) = d.val) (c : d.ok K = true) : ∃ fd, FunD K d.name d.qual d.params d.body d.scope d.dfl [] (d.ad K) fd := by
  obtain ⟨kp, c2⟩ := ba c
  unfold fnA at e
  cases q : K.lookup (d.ad K) with
  | none =>
    rw [q] at c2
    cases c2
  | some o =>
    obtain ⟨oc, od, dt, osl⟩ := o
    rw [q] at c2 e
    cases dt with
    | func fd =>
      obtain ⟨n1, n2, n3, n4, n5, n6, n7, n8, n9, n10, n11, n12, n13, n14, n15⟩ := fd
      have e2 : (some (n1, n2, n3, n4, n5, n6, n7, n15) : FnW) = some (d.name, d.qual, d.params, .stmts d.body, d.scope, mainGlobals, [], builtinsNs) := e
      simp only [Option.some.injEq, Prod.mk.injEq] at e2
      obtain ⟨h1, h2, h3, h4, h5, h6, h7, h8⟩ := e2
      subst h1 h2 h3 h4 h5 h6 h7 h8
      have c3 : (PySem.W.codeIn K n13 d.qual && dflB K n8 d.dfl) = true := c2
      obtain ⟨k1, k3⟩ := ba c3
      exact ⟨_, ⟨oc, od, n8, n9, n10, n11, n12, n13, n14, osl, rfl, q, k1, dflB_ok k3, .inl rfl⟩, kp⟩
    | _ => cases c2
theorem fact9 {K : PySem.W.Frag} {fs : List (PySem.W.Frag → Bool)} (h : (fs.all fun f => f K) = true) (i : Nat) {f : PySem.W.Frag → Bool} (e : fs[i]? = some f := by rfl) : f K = true := List.all_eq_true.mp h f (List.mem_of_getElem? e)
theorem def9 {K : PySem.W.Frag} {ds : List D9} (h : (ds.all fun d => d.ok K) = true) (e : (ds.map fun d => fnA K (d.ad K)) = ds.map D9.val) (i : Nat) {d : D9} (hd : ds[i]? = some d := by rfl) : ∃ fd, FunD K d.name d.qual d.params d.body d.scope d.dfl [] (d.ad K) fd := by
  have e2 : (ds.map fun d => fnA K (d.ad K))[i]? = (ds.map D9.val)[i]? := by rw [e]
  rw [List.getElem?_map, List.getElem?_map, hd] at e2
  exact D9.funD (Option.some.inj e2) (List.all_eq_true.mp h d (List.mem_of_getElem? hd))

def fs0 : List (PySem.W.Frag → Bool) := [fun K => (Fa.glo "is_whole").ok K,
  fun K => (Fa.glo "is_integer").ok K,
  fun K => (Fa.glo "is_name").ok K,
  fun K => (Fa.glo "is_list").ok K,
  fun K => (Fa.glo "told_time").ok K,
  fun K => (Fa.glo "told_integer").ok K,
  fun K => (Fa.glo "need_kind").ok K,
  fun K => (Fa.glo "is_any").ok K,
  fun K => (Fa.glo "kind_of_one").ok K,
  fun K => (Fa.glo "kind_of_two").ok K,
  fun K => (Fa.glo "kind_of_line").ok K,
  fun K => (Fa.glo "start_of").ok K,
  fun K => (Fa.glo "are_answers").ok K,
  fun K => (Fa.glo "need_program").ok K,
  fun K => (Fa.glo "index_of").ok K,
  fun K => (Fa.glo "part_of").ok K,
  fun K => (Fa.glo "texts_of").ok K,
  fun K => (Fa.glo "parts_of").ok K,
  fun K => (Fa.glo "command_of").ok K,
  fun K => (Fa.glo "with_lines").ok K,
  fun K => (Fa.glo "edited").ok K,
  fun K => (Fa.glo "state_behind").ok K,
  fun K => (Fa.glo "_law_cell").ok K,
  fun K => (Fa.glo "_law_box").ok K,
  fun K => (Fa.glo "_law_take").ok K,
  fun K => (Fa.glo "_law_line_of").ok K,
  fun K => (Fa.glo "_law_change").ok K,
  fun K => (Fa.glo "_law_said").ok K,
  fun K => (Fa.glo "_law_state").ok K,
  fun K => (Fa.glo "_law_wound").ok K]
def fs1 : List (PySem.W.Frag → Bool) := [fun K => (Fa.glo "_law_made").ok K,
  fun K => (Fa.glo "_law_replayed").ok K,
  fun K => (Fa.glo "_law_long_right").ok K,
  fun K => (Fa.glo "law").ok K,
  fun K => (Fa.glo "Kind").ok K,
  fun K => (Fa.glo "Program").ok K,
  fun K => (Fa.glo "State").ok K,
  fun K => (Fa.glo "Session").ok K,
  fun K => (Fa.glo "InvalidInteger").ok K,
  fun K => (Fa.glo "InvalidLine").ok K,
  fun K => (Fa.glo "InvalidCommand").ok K,
  fun K => (Fa.glo "InvalidJump").ok K,
  fun K => (Fa.glo "Duplicate").ok K,
  fun K => (Fa.glo "NoLine").ok K,
  fun K => (Fa.glo "NothingToUndo").ok K,
  fun K => (Fa.glo "TimeError").ok K,
  fun K => (Fa.glo "MissingError").ok K,
  fun K => (Fa.glo "StateError").ok K,
  fun K => (Fa.glo "RULES_programs").ok K,
  fun K => (Fa.glo "CHANGES").ok K,
  fun K => (Fa.glo "STOPS").ok K,
  fun K => (Fa.glo "FORMS").ok K,
  fun K => (Fa.int "LONGEST_NAME" 8).ok K,
  fun K => (Fa.int "DAY" 1440).ok K,
  fun K => (Fa.int "HOUR" 60).ok K,
  fun K => (Fa.int "GREATEST_JUMP" 720).ok K,
  fun K => (Fa.int "MOST_JUMPS_kinds" 4).ok K,
  fun K => (Fa.int "MOST_CHANGES" 3).ok K,
  fun K => (Fa.int "USUAL_CHANGES" 2).ok K,
  fun K => (Fa.int "MOST_LINES" 8).ok K]
def fs2 : List (PySem.W.Frag → Bool) := [fun K => (Fa.int "MOST_ANSWERS" 4).ok K,
  fun K => (Fa.int "MOST_MINUTES" 100000).ok K,
  fun K => (Fa.int "MOST_DAYS" 60).ok K,
  fun K => (Fa.int "MOST_NUMBER" 999999999999999999999999999999).ok K,
  fun K => (Fa.int "MOST_INDEX" 99).ok K,
  fun K => (Fa.int "MOST_JUMPS_commands" 4).ok K,
  fun K => (Fa.str "LETTERS" "abcdefghijklmnopqrstuvwxyz").ok K,
  fun K => (Fa.str "DIGITS" "0123456789").ok K,
  fun K => (Fa.str "MOMENT" "moment").ok K,
  fun K => (Fa.str "READING" "reading").ok K,
  fun K => (Fa.str "NUMBER" "number").ok K,
  fun K => (Fa.str "TRUTH" "truth").ok K,
  fun K => (Fa.str "NOW" "now").ok K,
  fun K => (Fa.str "ADD" "add").ok K,
  fun K => (Fa.str "DAYS" "days").ok K,
  fun K => (Fa.str "AT" "at").ok K,
  fun K => (Fa.str "BEGIN" "program").ok K,
  fun K => (Fa.str "PUT" "put").ok K,
  fun K => (Fa.str "TAKE" "take").ok K,
  fun K => (Fa.str "REPLACE" "replace").ok K,
  fun K => (Fa.free "isinstance").ok K,
  fun K => (Fa.free "int").ok K,
  fun K => (Fa.free "bool").ok K,
  fun K => (Fa.free "str").ok K,
  fun K => (Fa.free "list").ok K,
  fun K => (Fa.free "tuple").ok K,
  fun K => (Fa.free "len").ok K,
  fun K => (Fa.free "all").ok K,
  fun K => (Fa.free "max").ok K,
  fun K => (Fa.free "min").ok K]
def fs3 : List (PySem.W.Frag → Bool) := [fun K => (Fa.free "sorted").ok K,
  fun K => (Fa.free "abs").ok K,
  fun K => (Fa.free "range").ok K,
  fun K => (Fa.free "zip").ok K,
  fun K => (Fa.free "enumerate").ok K,
  fun K => (Fa.cls "Kind").ok K,
  fun K => (Fa.mkr "Kind").ok K,
  fun K => (Fa.noat "Kind" "own_jumps").ok K,
  fun K => (Fa.noat "Kind" "own_apart").ok K,
  fun K => (Fa.noat "Kind" "own_most").ok K,
  fun K => (Fa.meth "Kind" "parts").ok K,
  fun K => (Fa.cls "Program").ok K,
  fun K => (Fa.mkr "Program").ok K,
  fun K => (Fa.noat "Program" "own_start").ok K,
  fun K => (Fa.noat "Program" "own_text").ok K,
  fun K => (Fa.noat "Program" "own_kinds").ok K,
  fun K => (Fa.noat "Program" "own_lines").ok K,
  fun K => (Fa.noat "Program" "own_answers").ok K,
  fun K => (Fa.meth "Program" "take").ok K,
  fun K => (Fa.cls "State").ok K,
  fun K => (Fa.mkr "State").ok K,
  fun K => (Fa.noat "State" "zones").ok K,
  fun K => (Fa.noat "State" "plan").ok K,
  fun K => (Fa.meth "State" "told").ok K,
  fun K => (Fa.cls "Session").ok K,
  fun K => (Fa.mkr "Session").ok K,
  fun K => (Fa.noat "Session" "origin").ok K,
  fun K => (Fa.noat "Session" "made").ok K,
  fun K => (Fa.noat "Session" "undone").ok K,
  fun K => (Fa.meth "Session" "state").ok K]
def fs4 : List (PySem.W.Frag → Bool) := [fun K => (Fa.meth "Session" "kind").ok K,
  fun K => (Fa.meth "Session" "text").ok K,
  fun K => (Fa.meth "Session" "done").ok K,
  fun K => (Fa.meth "Session" "say").ok K,
  fun K => (Fa.meth "Session" "say_all").ok K,
  fun K => (Fa.meth "Session" "step").ok K,
  fun K => (Fa.meth "Session" "performed").ok K,
  fun K => propB K "Kind" "jumps",
  fun K => propB K "Kind" "apart",
  fun K => propB K "Kind" "most",
  fun K => xcB K .val (ga K "InvalidInteger"),
  fun K => eqO (PySem.W.findIn K (.ref (ga K "InvalidInteger")) "__init__") (some (some (.ref (ma K (ga K "InvalidInteger") "__init__")))),
  fun K => decide (PySem.W.typeIn K (.ref (ma K (ga K "InvalidInteger") "__init__")) = some (.type "function")),
  fun K => eqO (PySem.W.findIn K (.ref (ga K "InvalidInteger")) "value") (some none),
  fun K => decide (PySem.W.exmAny K (.ref (ga K "InvalidInteger")) [.ref (ga K "TimeError"), .ref (ga K "MissingError"), .ref (ga K "StateError")] = some true),
  fun K => xcB K .val (ga K "InvalidLine"),
  fun K => eqO (PySem.W.findIn K (.ref (ga K "InvalidLine")) "__init__") (some (some (.ref (ma K (ga K "InvalidLine") "__init__")))),
  fun K => decide (PySem.W.typeIn K (.ref (ma K (ga K "InvalidLine") "__init__")) = some (.type "function")),
  fun K => eqO (PySem.W.findIn K (.ref (ga K "InvalidLine")) "index") (some none),
  fun K => decide (PySem.W.exmAny K (.ref (ga K "InvalidLine")) [.ref (ga K "TimeError"), .ref (ga K "MissingError"), .ref (ga K "StateError")] = some true),
  fun K => xcB K .val (ga K "InvalidCommand"),
  fun K => eqO (PySem.W.findIn K (.ref (ga K "InvalidCommand")) "__init__") (some (some (.ref (ma K (ga K "InvalidCommand") "__init__")))),
  fun K => decide (PySem.W.typeIn K (.ref (ma K (ga K "InvalidCommand") "__init__")) = some (.type "function")),
  fun K => eqO (PySem.W.findIn K (.ref (ga K "InvalidCommand")) "value") (some none),
  fun K => decide (PySem.W.exmAny K (.ref (ga K "InvalidCommand")) [.ref (ga K "TimeError"), .ref (ga K "MissingError"), .ref (ga K "StateError")] = some true),
  fun K => xcB K .val (ga K "InvalidJump"),
  fun K => eqO (PySem.W.findIn K (.ref (ga K "InvalidJump")) "__init__") (some (some (.ref (ma K (ga K "InvalidJump") "__init__")))),
  fun K => decide (PySem.W.typeIn K (.ref (ma K (ga K "InvalidJump") "__init__")) = some (.type "function")),
  fun K => eqO (PySem.W.findIn K (.ref (ga K "InvalidJump")) "value") (some none),
  fun K => decide (PySem.W.exmAny K (.ref (ga K "InvalidJump")) [.ref (ga K "TimeError"), .ref (ga K "MissingError"), .ref (ga K "StateError")] = some true)]
def fs5 : List (PySem.W.Frag → Bool) := [fun K => xcB K .val (ga K "Duplicate"),
  fun K => eqO (PySem.W.findIn K (.ref (ga K "Duplicate")) "__init__") (some (some (.ref (ma K (ga K "Duplicate") "__init__")))),
  fun K => decide (PySem.W.typeIn K (.ref (ma K (ga K "Duplicate") "__init__")) = some (.type "function")),
  fun K => eqO (PySem.W.findIn K (.ref (ga K "Duplicate")) "label") (some none),
  fun K => decide (PySem.W.exmAny K (.ref (ga K "Duplicate")) [.ref (ga K "TimeError"), .ref (ga K "MissingError"), .ref (ga K "StateError")] = some true),
  fun K => xcB K .key (ga K "NoLine"),
  fun K => eqO (PySem.W.findIn K (.ref (ga K "NoLine")) "__init__") (some (some (.ref (ma K (ga K "NoLine") "__init__")))),
  fun K => decide (PySem.W.typeIn K (.ref (ma K (ga K "NoLine") "__init__")) = some (.type "function")),
  fun K => eqO (PySem.W.findIn K (.ref (ga K "NoLine")) "index") (some none),
  fun K => decide (PySem.W.exmAny K (.ref (ga K "NoLine")) [.ref (ga K "TimeError"), .ref (ga K "MissingError"), .ref (ga K "StateError")] = some true),
  fun K => xcB K .look (ga K "NothingToUndo"),
  fun K => eqO (PySem.W.findIn K (.ref (ga K "NothingToUndo")) "__init__") (some (some (.ref (ma K (ga K "NothingToUndo") "__init__")))),
  fun K => decide (PySem.W.typeIn K (.ref (ma K (ga K "NothingToUndo") "__init__")) = some (.type "function")),
  fun K => decide (PySem.W.exmAny K (.ref (ga K "NothingToUndo")) [.ref (ga K "TimeError"), .ref (ga K "MissingError"), .ref (ga K "StateError")] = some true),
  fun K => recvB K .val (ga K "TimeError"),
  fun K => recvB K .key (ga K "MissingError"),
  fun K => recvB K .look (ga K "StateError"),
  fun K => insB K (ga K "Kind"),
  fun K => insB K (ga K "Program"),
  fun K => lstB K "RULES_programs" [.str "ahead", .str "behind", .str "strict"],
  fun K => lstB K "CHANGES" [.str "program", .str "put", .str "take", .str "replace", .str "jumps", .str "apart", .str "most"],
  fun K => lstB K "STOPS" [.str "undo", .str "redo"],
  fun K => eqO (PySem.W.findIn K (.ref (ga K "Program")) "__str__") (some (some (.ref (ma K (ga K "Program") "__str__")))),
  fun K => PySem.W.isFn K (.ref (ma K (ga K "Program") "__str__")),
  fun K => eqO (PySem.W.findIn K (.ref (ga K "Session")) "__len__") (some (some (.ref (ma K (ga K "Session") "__len__")))),
  fun K => PySem.W.isFn K (.ref (ma K (ga K "Session") "__len__")),
  fun K => eqO (PySem.W.findIn K (.ref (ga K "Kind")) "__eq__") (some (some (.ref (ma K (ga K "Kind") "__eq__")))),
  fun K => PySem.W.isFn K (.ref (ma K (ga K "Kind") "__eq__")),
  fun K => decide (ga K "Kind" ≠ ga K "Session"),
  fun K => decide (ga K "Program" ≠ ga K "Session")]
def fs6 : List (PySem.W.Frag → Bool) := [fun K => decide (ga K "State" ≠ ga K "Session"),
  fun K => formB K (ga K "FORMS")]
def dd0 : D9 := ⟨fun K => (ga K "is_whole"), "is_whole", "is_whole", defArgs s_is_whole, defBody s_is_whole, defScope s_is_whole, []⟩
def dd1 : D9 := ⟨fun K => (ga K "is_integer"), "is_integer", "is_integer", defArgs s_is_integer, defBody s_is_integer, defScope s_is_integer, []⟩
def dd2 : D9 := ⟨fun K => (ga K "is_name"), "is_name", "is_name", defArgs s_is_name, defBody s_is_name, defScope s_is_name, []⟩
def dd3 : D9 := ⟨fun K => (ga K "is_list"), "is_list", "is_list", defArgs s_is_list, defBody s_is_list, defScope s_is_list, []⟩
def dd4 : D9 := ⟨fun K => (ga K "told_time"), "told_time", "told_time", defArgs s_told_time, defBody s_told_time, defScope s_told_time, []⟩
def dd5 : D9 := ⟨fun K => (ga K "told_integer"), "told_integer", "told_integer", defArgs s_told_integer, defBody s_told_integer, defScope s_told_integer, []⟩
def dd6 : D9 := ⟨fun K => (ga K "need_kind"), "need_kind", "need_kind", defArgs s_need_kind, defBody s_need_kind, defScope s_need_kind, []⟩
def dd7 : D9 := ⟨fun K => (ga K "is_any"), "is_any", "is_any", defArgs s_is_any, defBody s_is_any, defScope s_is_any, []⟩
def dd8 : D9 := ⟨fun K => (ga K "kind_of_one"), "kind_of_one", "kind_of_one", defArgs s_kind_of_one, defBody s_kind_of_one, defScope s_kind_of_one, []⟩
def dd9 : D9 := ⟨fun K => (ga K "kind_of_two"), "kind_of_two", "kind_of_two", defArgs s_kind_of_two, defBody s_kind_of_two, defScope s_kind_of_two, []⟩
def dd10 : D9 := ⟨fun K => (ga K "kind_of_line"), "kind_of_line", "kind_of_line", defArgs s_kind_of_line, defBody s_kind_of_line, defScope s_kind_of_line, []⟩
def dd11 : D9 := ⟨fun K => (ga K "start_of"), "start_of", "start_of", defArgs s_start_of, defBody s_start_of, defScope s_start_of, []⟩
def dd12 : D9 := ⟨fun K => (ga K "are_answers"), "are_answers", "are_answers", defArgs s_are_answers, defBody s_are_answers, defScope s_are_answers, []⟩
def dd13 : D9 := ⟨fun K => (ga K "need_program"), "need_program", "need_program", defArgs s_need_program, defBody s_need_program, defScope s_need_program, []⟩
def dd14 : D9 := ⟨fun K => (ga K "index_of"), "index_of", "index_of", defArgs s_index_of, defBody s_index_of, defScope s_index_of, []⟩
def dd15 : D9 := ⟨fun K => (ga K "part_of"), "part_of", "part_of", defArgs s_part_of, defBody s_part_of, defScope s_part_of, []⟩
def dd16 : D9 := ⟨fun K => (ga K "texts_of"), "texts_of", "texts_of", defArgs s_texts_of, defBody s_texts_of, defScope s_texts_of, []⟩
def dd17 : D9 := ⟨fun K => (ga K "parts_of"), "parts_of", "parts_of", defArgs s_parts_of, defBody s_parts_of, defScope s_parts_of, []⟩
def dd18 : D9 := ⟨fun K => (ga K "command_of"), "command_of", "command_of", defArgs s_command_of, defBody s_command_of, defScope s_command_of, []⟩
def dd19 : D9 := ⟨fun K => (ga K "with_lines"), "with_lines", "with_lines", defArgs s_with_lines, defBody s_with_lines, defScope s_with_lines, []⟩
def dd20 : D9 := ⟨fun K => (ga K "edited"), "edited", "edited", defArgs s_edited, defBody s_edited, defScope s_edited, []⟩
def dd21 : D9 := ⟨fun K => (ga K "state_behind"), "state_behind", "state_behind", defArgs s_state_behind, defBody s_state_behind, defScope s_state_behind, []⟩
def dd22 : D9 := ⟨fun K => (ga K "_law_cell"), "_law_cell", "_law_cell", defArgs s__law_cell, defBody s__law_cell, defScope s__law_cell, []⟩
def dd23 : D9 := ⟨fun K => (ga K "_law_box"), "_law_box", "_law_box", defArgs s__law_box, defBody s__law_box, defScope s__law_box, []⟩
def dd24 : D9 := ⟨fun K => (ga K "_law_take"), "_law_take", "_law_take", defArgs s__law_take, defBody s__law_take, defScope s__law_take, []⟩
def dd25 : D9 := ⟨fun K => (ga K "_law_line_of"), "_law_line_of", "_law_line_of", defArgs s__law_line_of, defBody s__law_line_of, defScope s__law_line_of, []⟩
def dd26 : D9 := ⟨fun K => (ga K "_law_change"), "_law_change", "_law_change", defArgs s__law_change, defBody s__law_change, defScope s__law_change, []⟩
def dd27 : D9 := ⟨fun K => (ga K "_law_said"), "_law_said", "_law_said", defArgs s__law_said, defBody s__law_said, defScope s__law_said, []⟩
def dd28 : D9 := ⟨fun K => (ga K "_law_state"), "_law_state", "_law_state", defArgs s__law_state, defBody s__law_state, defScope s__law_state, []⟩
def dd29 : D9 := ⟨fun K => (ga K "_law_wound"), "_law_wound", "_law_wound", defArgs s__law_wound, defBody s__law_wound, defScope s__law_wound, []⟩
def dd30 : D9 := ⟨fun K => (ga K "_law_made"), "_law_made", "_law_made", defArgs s__law_made, defBody s__law_made, defScope s__law_made, []⟩
def dd31 : D9 := ⟨fun K => (ga K "_law_replayed"), "_law_replayed", "_law_replayed", defArgs s__law_replayed, defBody s__law_replayed, defScope s__law_replayed, []⟩
def dd32 : D9 := ⟨fun K => (ga K "_law_long_right"), "_law_long_right", "_law_long_right", defArgs s__law_long_right, defBody s__law_long_right, defScope s__law_long_right, []⟩
def dd33 : D9 := ⟨fun K => (ga K "law"), "law", "law", defArgs s_law, defBody s_law, defScope s_law, []⟩
def dd34 : D9 := ⟨fun K => (ma K (ga K "Kind") "__init__"), "__init__", "Kind.__init__", defArgs s_Kind___init__, defBody s_Kind___init__, defScope s_Kind___init__, [.int 2]⟩
def dd35 : D9 := ⟨fun K => (ma K (ga K "Kind") "__eq__"), "__eq__", "Kind.__eq__", defArgs s_Kind___eq__, defBody s_Kind___eq__, defScope s_Kind___eq__, []⟩
def dd36 : D9 := ⟨fun K => (ma K (ga K "Kind") "parts"), "parts", "Kind.parts", defArgs s_Kind_parts, defBody s_Kind_parts, defScope s_Kind_parts, []⟩
def dd37 : D9 := ⟨fun K => (pgA K "Kind" "jumps"), "jumps", "Kind.jumps", defArgs s_Kind_jumps, defBody s_Kind_jumps, defScope s_Kind_jumps, []⟩
def dd38 : D9 := ⟨fun K => (pgA K "Kind" "apart"), "apart", "Kind.apart", defArgs s_Kind_apart, defBody s_Kind_apart, defScope s_Kind_apart, []⟩
def dd39 : D9 := ⟨fun K => (pgA K "Kind" "most"), "most", "Kind.most", defArgs s_Kind_most, defBody s_Kind_most, defScope s_Kind_most, []⟩
def dd40 : D9 := ⟨fun K => (ma K (ga K "Program") "__init__"), "__init__", "Program.__init__", defArgs s_Program___init__, defBody s_Program___init__, defScope s_Program___init__, []⟩
def dd41 : D9 := ⟨fun K => (ma K (ga K "Program") "take"), "take", "Program.take", defArgs s_Program_take, defBody s_Program_take, defScope s_Program_take, []⟩
def dd42 : D9 := ⟨fun K => (ma K (ga K "Program") "__str__"), "__str__", "Program.__str__", defArgs s_Program___str__, defBody s_Program___str__, defScope s_Program___str__, []⟩
def dd43 : D9 := ⟨fun K => (ma K (ga K "State") "__init__"), "__init__", "State.__init__", defArgs s_State___init__, defBody s_State___init__, defScope s_State___init__, []⟩
def dd44 : D9 := ⟨fun K => (ma K (ga K "State") "told"), "told", "State.told", defArgs s_State_told, defBody s_State_told, defScope s_State_told, []⟩
def dd45 : D9 := ⟨fun K => (ma K (ga K "Session") "__init__"), "__init__", "Session.__init__", defArgs s_Session___init__, defBody s_Session___init__, defScope s_Session___init__, [.non]⟩
def dd46 : D9 := ⟨fun K => (ma K (ga K "Session") "state"), "state", "Session.state", defArgs s_Session_state, defBody s_Session_state, defScope s_Session_state, []⟩
def dd47 : D9 := ⟨fun K => (ma K (ga K "Session") "kind"), "kind", "Session.kind", defArgs s_Session_kind, defBody s_Session_kind, defScope s_Session_kind, []⟩
def dd48 : D9 := ⟨fun K => (ma K (ga K "Session") "text"), "text", "Session.text", defArgs s_Session_text, defBody s_Session_text, defScope s_Session_text, []⟩
def dd49 : D9 := ⟨fun K => (ma K (ga K "Session") "done"), "done", "Session.done", defArgs s_Session_done, defBody s_Session_done, defScope s_Session_done, []⟩
def dd50 : D9 := ⟨fun K => (ma K (ga K "Session") "__len__"), "__len__", "Session.__len__", defArgs s_Session___len__, defBody s_Session___len__, defScope s_Session___len__, []⟩
def dd51 : D9 := ⟨fun K => (ma K (ga K "Session") "say"), "say", "Session.say", defArgs s_Session_say, defBody s_Session_say, defScope s_Session_say, []⟩
def dd52 : D9 := ⟨fun K => (ma K (ga K "Session") "say_all"), "say_all", "Session.say_all", defArgs s_Session_say_all, defBody s_Session_say_all, defScope s_Session_say_all, []⟩
def dd53 : D9 := ⟨fun K => (ma K (ga K "Session") "step"), "step", "Session.step", defArgs s_Session_step, defBody s_Session_step, defScope s_Session_step, []⟩
def dd54 : D9 := ⟨fun K => (ma K (ga K "Session") "performed"), "performed", "Session.performed", defArgs s_Session_performed, defBody s_Session_performed, defScope s_Session_performed, []⟩
def dd55 : D9 := ⟨fun K => (ma K (ga K "InvalidInteger") "__init__"), "__init__", "InvalidInteger.__init__", defArgs s_InvalidInteger___init__, defBody s_InvalidInteger___init__, defScope s_InvalidInteger___init__, []⟩
def dd56 : D9 := ⟨fun K => (ma K (ga K "InvalidLine") "__init__"), "__init__", "InvalidLine.__init__", defArgs s_InvalidLine___init__, defBody s_InvalidLine___init__, defScope s_InvalidLine___init__, []⟩
def dd57 : D9 := ⟨fun K => (ma K (ga K "InvalidCommand") "__init__"), "__init__", "InvalidCommand.__init__", defArgs s_InvalidCommand___init__, defBody s_InvalidCommand___init__, defScope s_InvalidCommand___init__, []⟩
def dd58 : D9 := ⟨fun K => (ma K (ga K "InvalidJump") "__init__"), "__init__", "InvalidJump.__init__", defArgs s_InvalidJump___init__, defBody s_InvalidJump___init__, defScope s_InvalidJump___init__, []⟩
def dd59 : D9 := ⟨fun K => (ma K (ga K "Duplicate") "__init__"), "__init__", "Duplicate.__init__", defArgs s_Duplicate___init__, defBody s_Duplicate___init__, defScope s_Duplicate___init__, []⟩
def dd60 : D9 := ⟨fun K => (ma K (ga K "NoLine") "__init__"), "__init__", "NoLine.__init__", defArgs s_NoLine___init__, defBody s_NoLine___init__, defScope s_NoLine___init__, []⟩
def dd61 : D9 := ⟨fun K => (ma K (ga K "NothingToUndo") "__init__"), "__init__", "NothingToUndo.__init__", defArgs s_NothingToUndo___init__, defBody s_NothingToUndo___init__, defScope s_NothingToUndo___init__, []⟩
def ds0 : List D9 := [dd0, dd1, dd2, dd3, dd4, dd5, dd6, dd7, dd8, dd9, dd10, dd11, dd12, dd13, dd14, dd15, dd16, dd17, dd18, dd19, dd20, dd21, dd22, dd23, dd24, dd25, dd26, dd27, dd28, dd29]
def ds1 : List D9 := [dd30, dd31, dd32, dd33, dd34, dd35, dd36, dd37, dd38, dd39, dd40, dd41, dd42, dd43, dd44, dd45, dd46, dd47, dd48, dd49, dd50, dd51, dd52, dd53, dd54, dd55, dd56, dd57, dd58, dd59]
def ds2 : List D9 := [dd60, dd61]
def clsL : List (Str × List Str) := [(("Kind" : Str), [("__init__" : Str), ("__eq__" : Str), ("parts" : Str), ("jumps" : Str), ("apart" : Str), ("most" : Str)]), (("Program" : Str), [("__init__" : Str), ("take" : Str), ("__str__" : Str)]), (("State" : Str), [("__init__" : Str), ("told" : Str)]), (("Session" : Str), [("__init__" : Str), ("state" : Str), ("kind" : Str), ("text" : Str), ("done" : Str), ("__len__" : Str), ("say" : Str), ("say_all" : Str), ("step" : Str), ("performed" : Str)]), (("InvalidInteger" : Str), [("__init__" : Str)]), (("InvalidLine" : Str), [("__init__" : Str)]), (("InvalidCommand" : Str), [("__init__" : Str)]), (("InvalidJump" : Str), [("__init__" : Str)]), (("Duplicate" : Str), [("__init__" : Str)]), (("NoLine" : Str), [("__init__" : Str)]), (("NothingToUndo" : Str), [("__init__" : Str)]), (("TimeError" : Str), []), (("MissingError" : Str), []), (("StateError" : Str), [])]
def fnsL : List Str := [("is_whole" : Str), ("is_integer" : Str), ("is_name" : Str), ("is_list" : Str), ("told_time" : Str), ("told_integer" : Str), ("need_kind" : Str), ("is_any" : Str), ("kind_of_one" : Str), ("kind_of_two" : Str), ("kind_of_line" : Str), ("start_of" : Str), ("are_answers" : Str), ("need_program" : Str), ("index_of" : Str), ("part_of" : Str), ("texts_of" : Str), ("parts_of" : Str), ("command_of" : Str), ("with_lines" : Str), ("edited" : Str), ("state_behind" : Str), ("_law_cell" : Str), ("_law_box" : Str), ("_law_take" : Str), ("_law_line_of" : Str), ("_law_change" : Str), ("_law_said" : Str), ("_law_state" : Str), ("_law_wound" : Str), ("_law_made" : Str), ("_law_replayed" : Str), ("_law_long_right" : Str), ("law" : Str)]
def lisL : List Str := [("RULES_programs" : Str), ("CHANGES" : Str), ("STOPS" : Str), ("FORMS" : Str)]
/-! ### a small part of the heap -/
def gl (g : Addr → Option Obj) (a : Addr) (x : Str) : List Addr := match g a with
  | some ⟨_, _, .dict es _, _⟩ => (match es.toList.find? (·.key.isStr x) with
    | some e => refV e.val
    | none => [])
  | _ => []
def ofF (g : Addr → Option Obj) (a : Addr) : List Addr := match g a with
  | some ⟨_, _, .func fd, _⟩ => a :: (refV fd.code ++ refV fd.defaults)
  | _ => [a]
def ofM (g : Addr → Option Obj) (a : Addr) : List Addr := match g a with
  | some ⟨_, _, .fields vs, _⟩ => a :: (vs.toList.take 1).flatMap fun v => (refV v).flatMap (ofF g)
  | _ => ofF g a
def ofC (g : Addr → Option Obj) (ms : List Str) (a : Addr) : List Addr := match g a with
  | some ⟨_, _, .cls cd, _⟩ => a :: cd.ns :: ms.flatMap fun m => (gl g cd.ns m).flatMap (ofM g)
  | _ => [a]
def as9 (g : Addr → Option Obj) : List Addr := mainGlobals :: cStatics :: ((clsL.flatMap fun c => (gl g mainGlobals c.1).flatMap (ofC g c.2)) ++ ((fnsL.flatMap fun x => (gl g mainGlobals x).flatMap (ofF g)) ++ lisL.flatMap fun x => gl g mainGlobals x))
section
open HS
def fr1 {α : Type} (a : Addr) (o : Obj) (k : Addr × Obj → α) : α := match o with
  | ⟨c, d, dt, sl⟩ => match dt with
    | .dict es n => frL es.toList fun l => k (a, ⟨c, d, .dict ⟨l⟩ n, sl⟩)
    | dt => k (a, ⟨c, d, dt, sl⟩)
theorem fr1_eq {α : Type} (a : Addr) (o : Obj) (k : Addr × Obj → α) : fr1 a o k = k (a, o) := by
  obtain ⟨c, d, dt, sl⟩ := o
  cases dt <;> simp [fr1, frL_eq]
def frK {α : Type} (g : Addr → Option Obj) : List Addr → (PySem.W.Frag → α) → α
  | [], k => k []
  | a :: r, k => frK g r fun K => fN a fun a => match g a with
    | some o => fr1 a o fun q => k (q :: K)
    | none => k K
theorem frK_eq {α : Type} (g : Addr → Option Obj) : ∀ (as : List Addr) (k : PySem.W.Frag → α), frK g as k = k (frG g as)
  | [], k => rfl
  | a :: r, k => by
    show frK g r (fun K => fN a fun a => match g a with | some o => fr1 a o fun q => k (q :: K) | none => k K) = _
    rw [frK_eq g r, fN_eq]
    unfold frG
    rw [List.filterMap_cons]
    cases g a with
    | none => rfl
    | some o =>
      show fr1 a o (fun q => k (q :: _)) = _
      rw [fr1_eq]
      rfl
end

def facs (K : PySem.W.Frag) : Bool := (fs0.all fun f => f K) && (fs1.all fun f => f K) && (fs2.all fun f => f K) && (fs3.all fun f => f K) && (fs4.all fun f => f K) && (fs5.all fun f => f K) && (fs6.all fun f => f K)
def dfs (K : PySem.W.Frag) : Bool := (ds0.all fun d => d.ok K) && (ds1.all fun d => d.ok K) && (ds2.all fun d => d.ok K)
def dvs (K : PySem.W.Frag) : List (List FnW) := [ds0.map fun d => fnA K (d.ad K), ds1.map fun d => fnA K (d.ad K), ds2.map fun d => fnA K (d.ad K)]
def dvsV : List (List FnW) := [ds0.map D9.val, ds1.map D9.val, ds2.map D9.val]
abbrev Al9 : Type := (Bool × List (List FnW)) × Option (List (Option (Str × Int)))
def obs9 (K : PySem.W.Frag) : Al9 := ((facs K && dfs K, dvs K), dicW K (ga K "FORMS"))
def val9 (w : World) : Al9 := ((true, dvsV), some (keysIn w.params (formsL.map (·.1))))
theorem says9 {w : World} {K : PySem.W.Frag} (c : obs9 K = val9 w) : facs K = true ∧ dfs K = true ∧ dvs K = dvsV ∧ dicW K (ga K "FORMS") = some (keysIn w.params (formsL.map (·.1))) := by
  have h1 : (facs K && dfs K) = true := congrArg (fun z : Al9 => z.1.1) c
  exact ⟨(ba h1).1, (ba h1).2, congrArg (fun z : Al9 => z.1.2) c, congrArg (fun z : Al9 => z.2) c⟩
def hk9 : PySem.W.Hook where
  α := Al9
  obs := fun s => obs9 (frG s.heap.get? (as9 s.heap.get?))
  val := val9
  says := fun w h => ∃ K : PySem.W.Frag, K.In h ∧ obs9 K = val9 w
  of := fun _ _ e => ⟨_, frG_in, e⟩
  keeps := fun _ _ _ ⟨K, hK, c⟩ k => ⟨K, PySem.W.Frag.In.keeps hK k, c⟩
def ob9 (s : PySem.W.SharedT) : Al9 := frK (HandSHeadRun.getT s) (as9 (HandSHeadRun.getT s)) obs9
theorem ob9_eq (s : PySem.W.SharedT) : ob9 s = hk9.obs s.abs := by
  have e : HandSHeadRun.getT s = s.abs.heap.get? := funext (HandSHeadRun.getT_eq s)
  unfold ob9
  rw [frK_eq, e]
  rfl

theorem gt_of {w : World} {K : PySem.W.Frag} {h : Heap} {mg : Str → Option Value} (X : K.In h) (G : h.Ns mainGlobals mg) (c : obs9 K = val9 w) : GT w K mg := by
  obtain ⟨c1, c2, c3, c4⟩ := says9 c
  unfold facs at c1
  unfold dfs at c2
  simp only [Bool.and_eq_true] at c1 c2
  obtain ⟨⟨⟨⟨⟨⟨h0, h1⟩, h2⟩, h3⟩, h4⟩, h5⟩, h6⟩ := c1
  obtain ⟨⟨e0, e1⟩, e2⟩ := c2
  have f_g_is_whole : ((Fa.glo "is_whole").ok K) = true := fact9 h0 0
  have f_g_is_integer : ((Fa.glo "is_integer").ok K) = true := fact9 h0 1
  have f_g_is_name : ((Fa.glo "is_name").ok K) = true := fact9 h0 2
  have f_g_is_list : ((Fa.glo "is_list").ok K) = true := fact9 h0 3
  have f_g_told_time : ((Fa.glo "told_time").ok K) = true := fact9 h0 4
  have f_g_told_integer : ((Fa.glo "told_integer").ok K) = true := fact9 h0 5
  have f_g_need_kind : ((Fa.glo "need_kind").ok K) = true := fact9 h0 6
  have f_g_is_any : ((Fa.glo "is_any").ok K) = true := fact9 h0 7
  have f_g_kind_of_one : ((Fa.glo "kind_of_one").ok K) = true := fact9 h0 8
  have f_g_kind_of_two : ((Fa.glo "kind_of_two").ok K) = true := fact9 h0 9
  have f_g_kind_of_line : ((Fa.glo "kind_of_line").ok K) = true := fact9 h0 10
  have f_g_start_of : ((Fa.glo "start_of").ok K) = true := fact9 h0 11
  have f_g_are_answers : ((Fa.glo "are_answers").ok K) = true := fact9 h0 12
  have f_g_need_program : ((Fa.glo "need_program").ok K) = true := fact9 h0 13
  have f_g_index_of : ((Fa.glo "index_of").ok K) = true := fact9 h0 14
  have f_g_part_of : ((Fa.glo "part_of").ok K) = true := fact9 h0 15
  have f_g_texts_of : ((Fa.glo "texts_of").ok K) = true := fact9 h0 16
  have f_g_parts_of : ((Fa.glo "parts_of").ok K) = true := fact9 h0 17
  have f_g_command_of : ((Fa.glo "command_of").ok K) = true := fact9 h0 18
  have f_g_with_lines : ((Fa.glo "with_lines").ok K) = true := fact9 h0 19
  have f_g_edited : ((Fa.glo "edited").ok K) = true := fact9 h0 20
  have f_g_state_behind : ((Fa.glo "state_behind").ok K) = true := fact9 h0 21
  have f_g__law_cell : ((Fa.glo "_law_cell").ok K) = true := fact9 h0 22
  have f_g__law_box : ((Fa.glo "_law_box").ok K) = true := fact9 h0 23
  have f_g__law_take : ((Fa.glo "_law_take").ok K) = true := fact9 h0 24
  have f_g__law_line_of : ((Fa.glo "_law_line_of").ok K) = true := fact9 h0 25
  have f_g__law_change : ((Fa.glo "_law_change").ok K) = true := fact9 h0 26
  have f_g__law_said : ((Fa.glo "_law_said").ok K) = true := fact9 h0 27
  have f_g__law_state : ((Fa.glo "_law_state").ok K) = true := fact9 h0 28
  have f_g__law_wound : ((Fa.glo "_law_wound").ok K) = true := fact9 h0 29
  have f_g__law_made : ((Fa.glo "_law_made").ok K) = true := fact9 h1 0
  have f_g__law_replayed : ((Fa.glo "_law_replayed").ok K) = true := fact9 h1 1
  have f_g__law_long_right : ((Fa.glo "_law_long_right").ok K) = true := fact9 h1 2
  have f_g_law : ((Fa.glo "law").ok K) = true := fact9 h1 3
  have f_g_Kind : ((Fa.glo "Kind").ok K) = true := fact9 h1 4
  have f_g_Program : ((Fa.glo "Program").ok K) = true := fact9 h1 5
  have f_g_State : ((Fa.glo "State").ok K) = true := fact9 h1 6
  have f_g_Session : ((Fa.glo "Session").ok K) = true := fact9 h1 7
  have f_g_InvalidInteger : ((Fa.glo "InvalidInteger").ok K) = true := fact9 h1 8
  have f_g_InvalidLine : ((Fa.glo "InvalidLine").ok K) = true := fact9 h1 9
  have f_g_InvalidCommand : ((Fa.glo "InvalidCommand").ok K) = true := fact9 h1 10
  have f_g_InvalidJump : ((Fa.glo "InvalidJump").ok K) = true := fact9 h1 11
  have f_g_Duplicate : ((Fa.glo "Duplicate").ok K) = true := fact9 h1 12
  have f_g_NoLine : ((Fa.glo "NoLine").ok K) = true := fact9 h1 13
  have f_g_NothingToUndo : ((Fa.glo "NothingToUndo").ok K) = true := fact9 h1 14
  have f_g_TimeError : ((Fa.glo "TimeError").ok K) = true := fact9 h1 15
  have f_g_MissingError : ((Fa.glo "MissingError").ok K) = true := fact9 h1 16
  have f_g_StateError : ((Fa.glo "StateError").ok K) = true := fact9 h1 17
  have f_g_RULES_programs : ((Fa.glo "RULES_programs").ok K) = true := fact9 h1 18
  have f_g_CHANGES : ((Fa.glo "CHANGES").ok K) = true := fact9 h1 19
  have f_g_STOPS : ((Fa.glo "STOPS").ok K) = true := fact9 h1 20
  have f_g_FORMS : ((Fa.glo "FORMS").ok K) = true := fact9 h1 21
  have f_c_LONGEST_NAME : ((Fa.int "LONGEST_NAME" 8).ok K) = true := fact9 h1 22
  have f_c_DAY : ((Fa.int "DAY" 1440).ok K) = true := fact9 h1 23
  have f_c_HOUR : ((Fa.int "HOUR" 60).ok K) = true := fact9 h1 24
  have f_c_GREATEST_JUMP : ((Fa.int "GREATEST_JUMP" 720).ok K) = true := fact9 h1 25
  have f_c_MOST_JUMPS_kinds : ((Fa.int "MOST_JUMPS_kinds" 4).ok K) = true := fact9 h1 26
  have f_c_MOST_CHANGES : ((Fa.int "MOST_CHANGES" 3).ok K) = true := fact9 h1 27
  have f_c_USUAL_CHANGES : ((Fa.int "USUAL_CHANGES" 2).ok K) = true := fact9 h1 28
  have f_c_MOST_LINES : ((Fa.int "MOST_LINES" 8).ok K) = true := fact9 h1 29
  have f_c_MOST_ANSWERS : ((Fa.int "MOST_ANSWERS" 4).ok K) = true := fact9 h2 0
  have f_c_MOST_MINUTES : ((Fa.int "MOST_MINUTES" 100000).ok K) = true := fact9 h2 1
  have f_c_MOST_DAYS : ((Fa.int "MOST_DAYS" 60).ok K) = true := fact9 h2 2
  have f_c_MOST_NUMBER : ((Fa.int "MOST_NUMBER" 999999999999999999999999999999).ok K) = true := fact9 h2 3
  have f_c_MOST_INDEX : ((Fa.int "MOST_INDEX" 99).ok K) = true := fact9 h2 4
  have f_c_MOST_JUMPS_commands : ((Fa.int "MOST_JUMPS_commands" 4).ok K) = true := fact9 h2 5
  have f_c_LETTERS : ((Fa.str "LETTERS" "abcdefghijklmnopqrstuvwxyz").ok K) = true := fact9 h2 6
  have f_c_DIGITS : ((Fa.str "DIGITS" "0123456789").ok K) = true := fact9 h2 7
  have f_c_MOMENT : ((Fa.str "MOMENT" "moment").ok K) = true := fact9 h2 8
  have f_c_READING : ((Fa.str "READING" "reading").ok K) = true := fact9 h2 9
  have f_c_NUMBER : ((Fa.str "NUMBER" "number").ok K) = true := fact9 h2 10
  have f_c_TRUTH : ((Fa.str "TRUTH" "truth").ok K) = true := fact9 h2 11
  have f_c_NOW : ((Fa.str "NOW" "now").ok K) = true := fact9 h2 12
  have f_c_ADD : ((Fa.str "ADD" "add").ok K) = true := fact9 h2 13
  have f_c_DAYS : ((Fa.str "DAYS" "days").ok K) = true := fact9 h2 14
  have f_c_AT : ((Fa.str "AT" "at").ok K) = true := fact9 h2 15
  have f_c_BEGIN : ((Fa.str "BEGIN" "program").ok K) = true := fact9 h2 16
  have f_c_PUT : ((Fa.str "PUT" "put").ok K) = true := fact9 h2 17
  have f_c_TAKE : ((Fa.str "TAKE" "take").ok K) = true := fact9 h2 18
  have f_c_REPLACE : ((Fa.str "REPLACE" "replace").ok K) = true := fact9 h2 19
  have f_f_isinstance : ((Fa.free "isinstance").ok K) = true := fact9 h2 20
  have f_f_int : ((Fa.free "int").ok K) = true := fact9 h2 21
  have f_f_bool : ((Fa.free "bool").ok K) = true := fact9 h2 22
  have f_f_str : ((Fa.free "str").ok K) = true := fact9 h2 23
  have f_f_list : ((Fa.free "list").ok K) = true := fact9 h2 24
  have f_f_tuple : ((Fa.free "tuple").ok K) = true := fact9 h2 25
  have f_f_len : ((Fa.free "len").ok K) = true := fact9 h2 26
  have f_f_all : ((Fa.free "all").ok K) = true := fact9 h2 27
  have f_f_max : ((Fa.free "max").ok K) = true := fact9 h2 28
  have f_f_min : ((Fa.free "min").ok K) = true := fact9 h2 29
  have f_f_sorted : ((Fa.free "sorted").ok K) = true := fact9 h3 0
  have f_f_abs : ((Fa.free "abs").ok K) = true := fact9 h3 1
  have f_f_range : ((Fa.free "range").ok K) = true := fact9 h3 2
  have f_f_zip : ((Fa.free "zip").ok K) = true := fact9 h3 3
  have f_f_enumerate : ((Fa.free "enumerate").ok K) = true := fact9 h3 4
  have f_k_Kind : ((Fa.cls "Kind").ok K) = true := fact9 h3 5
  have f_m_Kind : ((Fa.mkr "Kind").ok K) = true := fact9 h3 6
  have f_n_Kind_own_jumps : ((Fa.noat "Kind" "own_jumps").ok K) = true := fact9 h3 7
  have f_n_Kind_own_apart : ((Fa.noat "Kind" "own_apart").ok K) = true := fact9 h3 8
  have f_n_Kind_own_most : ((Fa.noat "Kind" "own_most").ok K) = true := fact9 h3 9
  have f_e_Kind_parts : ((Fa.meth "Kind" "parts").ok K) = true := fact9 h3 10
  have f_k_Program : ((Fa.cls "Program").ok K) = true := fact9 h3 11
  have f_m_Program : ((Fa.mkr "Program").ok K) = true := fact9 h3 12
  have f_n_Program_own_start : ((Fa.noat "Program" "own_start").ok K) = true := fact9 h3 13
  have f_n_Program_own_text : ((Fa.noat "Program" "own_text").ok K) = true := fact9 h3 14
  have f_n_Program_own_kinds : ((Fa.noat "Program" "own_kinds").ok K) = true := fact9 h3 15
  have f_n_Program_own_lines : ((Fa.noat "Program" "own_lines").ok K) = true := fact9 h3 16
  have f_n_Program_own_answers : ((Fa.noat "Program" "own_answers").ok K) = true := fact9 h3 17
  have f_e_Program_take : ((Fa.meth "Program" "take").ok K) = true := fact9 h3 18
  have f_k_State : ((Fa.cls "State").ok K) = true := fact9 h3 19
  have f_m_State : ((Fa.mkr "State").ok K) = true := fact9 h3 20
  have f_n_State_zones : ((Fa.noat "State" "zones").ok K) = true := fact9 h3 21
  have f_n_State_plan : ((Fa.noat "State" "plan").ok K) = true := fact9 h3 22
  have f_e_State_told : ((Fa.meth "State" "told").ok K) = true := fact9 h3 23
  have f_k_Session : ((Fa.cls "Session").ok K) = true := fact9 h3 24
  have f_m_Session : ((Fa.mkr "Session").ok K) = true := fact9 h3 25
  have f_n_Session_origin : ((Fa.noat "Session" "origin").ok K) = true := fact9 h3 26
  have f_n_Session_made : ((Fa.noat "Session" "made").ok K) = true := fact9 h3 27
  have f_n_Session_undone : ((Fa.noat "Session" "undone").ok K) = true := fact9 h3 28
  have f_e_Session_state : ((Fa.meth "Session" "state").ok K) = true := fact9 h3 29
  have f_e_Session_kind : ((Fa.meth "Session" "kind").ok K) = true := fact9 h4 0
  have f_e_Session_text : ((Fa.meth "Session" "text").ok K) = true := fact9 h4 1
  have f_e_Session_done : ((Fa.meth "Session" "done").ok K) = true := fact9 h4 2
  have f_e_Session_say : ((Fa.meth "Session" "say").ok K) = true := fact9 h4 3
  have f_e_Session_say_all : ((Fa.meth "Session" "say_all").ok K) = true := fact9 h4 4
  have f_e_Session_step : ((Fa.meth "Session" "step").ok K) = true := fact9 h4 5
  have f_e_Session_performed : ((Fa.meth "Session" "performed").ok K) = true := fact9 h4 6
  have f_p_Kind_jumps : (propB K "Kind" "jumps") = true := fact9 h4 7
  have f_p_Kind_apart : (propB K "Kind" "apart") = true := fact9 h4 8
  have f_p_Kind_most : (propB K "Kind" "most") = true := fact9 h4 9
  have f_x_InvalidInteger : (xcB K .val (ga K "InvalidInteger")) = true := fact9 h4 10
  have f_i_InvalidInteger : (eqO (PySem.W.findIn K (.ref (ga K "InvalidInteger")) "__init__") (some (some (.ref (ma K (ga K "InvalidInteger") "__init__"))))) = true := fact9 h4 11
  have f_t_InvalidInteger : (decide (PySem.W.typeIn K (.ref (ma K (ga K "InvalidInteger") "__init__")) = some (.type "function"))) = true := fact9 h4 12
  have f_na_InvalidInteger : (eqO (PySem.W.findIn K (.ref (ga K "InvalidInteger")) "value") (some none)) = true := fact9 h4 13
  have f_ex_InvalidInteger : (decide (PySem.W.exmAny K (.ref (ga K "InvalidInteger")) [.ref (ga K "TimeError"), .ref (ga K "MissingError"), .ref (ga K "StateError")] = some true)) = true := fact9 h4 14
  have f_x_InvalidLine : (xcB K .val (ga K "InvalidLine")) = true := fact9 h4 15
  have f_i_InvalidLine : (eqO (PySem.W.findIn K (.ref (ga K "InvalidLine")) "__init__") (some (some (.ref (ma K (ga K "InvalidLine") "__init__"))))) = true := fact9 h4 16
  have f_t_InvalidLine : (decide (PySem.W.typeIn K (.ref (ma K (ga K "InvalidLine") "__init__")) = some (.type "function"))) = true := fact9 h4 17
  have f_na_InvalidLine : (eqO (PySem.W.findIn K (.ref (ga K "InvalidLine")) "index") (some none)) = true := fact9 h4 18
  have f_ex_InvalidLine : (decide (PySem.W.exmAny K (.ref (ga K "InvalidLine")) [.ref (ga K "TimeError"), .ref (ga K "MissingError"), .ref (ga K "StateError")] = some true)) = true := fact9 h4 19
  have f_x_InvalidCommand : (xcB K .val (ga K "InvalidCommand")) = true := fact9 h4 20
  have f_i_InvalidCommand : (eqO (PySem.W.findIn K (.ref (ga K "InvalidCommand")) "__init__") (some (some (.ref (ma K (ga K "InvalidCommand") "__init__"))))) = true := fact9 h4 21
  have f_t_InvalidCommand : (decide (PySem.W.typeIn K (.ref (ma K (ga K "InvalidCommand") "__init__")) = some (.type "function"))) = true := fact9 h4 22
  have f_na_InvalidCommand : (eqO (PySem.W.findIn K (.ref (ga K "InvalidCommand")) "value") (some none)) = true := fact9 h4 23
  have f_ex_InvalidCommand : (decide (PySem.W.exmAny K (.ref (ga K "InvalidCommand")) [.ref (ga K "TimeError"), .ref (ga K "MissingError"), .ref (ga K "StateError")] = some true)) = true := fact9 h4 24
  have f_x_InvalidJump : (xcB K .val (ga K "InvalidJump")) = true := fact9 h4 25
  have f_i_InvalidJump : (eqO (PySem.W.findIn K (.ref (ga K "InvalidJump")) "__init__") (some (some (.ref (ma K (ga K "InvalidJump") "__init__"))))) = true := fact9 h4 26
  have f_t_InvalidJump : (decide (PySem.W.typeIn K (.ref (ma K (ga K "InvalidJump") "__init__")) = some (.type "function"))) = true := fact9 h4 27
  have f_na_InvalidJump : (eqO (PySem.W.findIn K (.ref (ga K "InvalidJump")) "value") (some none)) = true := fact9 h4 28
  have f_ex_InvalidJump : (decide (PySem.W.exmAny K (.ref (ga K "InvalidJump")) [.ref (ga K "TimeError"), .ref (ga K "MissingError"), .ref (ga K "StateError")] = some true)) = true := fact9 h4 29
  have f_x_Duplicate : (xcB K .val (ga K "Duplicate")) = true := fact9 h5 0
  have f_i_Duplicate : (eqO (PySem.W.findIn K (.ref (ga K "Duplicate")) "__init__") (some (some (.ref (ma K (ga K "Duplicate") "__init__"))))) = true := fact9 h5 1
  have f_t_Duplicate : (decide (PySem.W.typeIn K (.ref (ma K (ga K "Duplicate") "__init__")) = some (.type "function"))) = true := fact9 h5 2
  have f_na_Duplicate : (eqO (PySem.W.findIn K (.ref (ga K "Duplicate")) "label") (some none)) = true := fact9 h5 3
  have f_ex_Duplicate : (decide (PySem.W.exmAny K (.ref (ga K "Duplicate")) [.ref (ga K "TimeError"), .ref (ga K "MissingError"), .ref (ga K "StateError")] = some true)) = true := fact9 h5 4
  have f_x_NoLine : (xcB K .key (ga K "NoLine")) = true := fact9 h5 5
  have f_i_NoLine : (eqO (PySem.W.findIn K (.ref (ga K "NoLine")) "__init__") (some (some (.ref (ma K (ga K "NoLine") "__init__"))))) = true := fact9 h5 6
  have f_t_NoLine : (decide (PySem.W.typeIn K (.ref (ma K (ga K "NoLine") "__init__")) = some (.type "function"))) = true := fact9 h5 7
  have f_na_NoLine : (eqO (PySem.W.findIn K (.ref (ga K "NoLine")) "index") (some none)) = true := fact9 h5 8
  have f_ex_NoLine : (decide (PySem.W.exmAny K (.ref (ga K "NoLine")) [.ref (ga K "TimeError"), .ref (ga K "MissingError"), .ref (ga K "StateError")] = some true)) = true := fact9 h5 9
  have f_x_NothingToUndo : (xcB K .look (ga K "NothingToUndo")) = true := fact9 h5 10
  have f_i_NothingToUndo : (eqO (PySem.W.findIn K (.ref (ga K "NothingToUndo")) "__init__") (some (some (.ref (ma K (ga K "NothingToUndo") "__init__"))))) = true := fact9 h5 11
  have f_t_NothingToUndo : (decide (PySem.W.typeIn K (.ref (ma K (ga K "NothingToUndo") "__init__")) = some (.type "function"))) = true := fact9 h5 12
  have f_ex_NothingToUndo : (decide (PySem.W.exmAny K (.ref (ga K "NothingToUndo")) [.ref (ga K "TimeError"), .ref (ga K "MissingError"), .ref (ga K "StateError")] = some true)) = true := fact9 h5 13
  have f_r_TimeError : (recvB K .val (ga K "TimeError")) = true := fact9 h5 14
  have f_r_MissingError : (recvB K .key (ga K "MissingError")) = true := fact9 h5 15
  have f_r_StateError : (recvB K .look (ga K "StateError")) = true := fact9 h5 16
  have f_ic_Kind : (insB K (ga K "Kind")) = true := fact9 h5 17
  have f_ic_Program : (insB K (ga K "Program")) = true := fact9 h5 18
  have f_l_RULES_programs : (lstB K "RULES_programs" [.str "ahead", .str "behind", .str "strict"]) = true := fact9 h5 19
  have f_l_CHANGES : (lstB K "CHANGES" [.str "program", .str "put", .str "take", .str "replace", .str "jumps", .str "apart", .str "most"]) = true := fact9 h5 20
  have f_l_STOPS : (lstB K "STOPS" [.str "undo", .str "redo"]) = true := fact9 h5 21
  have f_fi_Program___str__ : (eqO (PySem.W.findIn K (.ref (ga K "Program")) "__str__") (some (some (.ref (ma K (ga K "Program") "__str__"))))) = true := fact9 h5 22
  have f_if_Program___str__ : (PySem.W.isFn K (.ref (ma K (ga K "Program") "__str__"))) = true := fact9 h5 23
  have f_fi_Session___len__ : (eqO (PySem.W.findIn K (.ref (ga K "Session")) "__len__") (some (some (.ref (ma K (ga K "Session") "__len__"))))) = true := fact9 h5 24
  have f_if_Session___len__ : (PySem.W.isFn K (.ref (ma K (ga K "Session") "__len__"))) = true := fact9 h5 25
  have f_fi_Kind___eq__ : (eqO (PySem.W.findIn K (.ref (ga K "Kind")) "__eq__") (some (some (.ref (ma K (ga K "Kind") "__eq__"))))) = true := fact9 h5 26
  have f_if_Kind___eq__ : (PySem.W.isFn K (.ref (ma K (ga K "Kind") "__eq__"))) = true := fact9 h5 27
  have f_ne_Kind : (decide (ga K "Kind" ≠ ga K "Session")) = true := fact9 h5 28
  have f_ne_Program : (decide (ga K "Program" ≠ ga K "Session")) = true := fact9 h5 29
  have f_ne_State : (decide (ga K "State" ≠ ga K "Session")) = true := fact9 h6 0
  have f_FORMS : (formB K (ga K "FORMS")) = true := fact9 h6 1
  refine {
    g_is_whole := glo_ok X G f_g_is_whole
    g_is_integer := glo_ok X G f_g_is_integer
    g_is_name := glo_ok X G f_g_is_name
    g_is_list := glo_ok X G f_g_is_list
    g_told_time := glo_ok X G f_g_told_time
    g_told_integer := glo_ok X G f_g_told_integer
    g_need_kind := glo_ok X G f_g_need_kind
    g_is_any := glo_ok X G f_g_is_any
    g_kind_of_one := glo_ok X G f_g_kind_of_one
    g_kind_of_two := glo_ok X G f_g_kind_of_two
    g_kind_of_line := glo_ok X G f_g_kind_of_line
    g_start_of := glo_ok X G f_g_start_of
    g_are_answers := glo_ok X G f_g_are_answers
    g_need_program := glo_ok X G f_g_need_program
    g_index_of := glo_ok X G f_g_index_of
    g_part_of := glo_ok X G f_g_part_of
    g_texts_of := glo_ok X G f_g_texts_of
    g_parts_of := glo_ok X G f_g_parts_of
    g_command_of := glo_ok X G f_g_command_of
    g_with_lines := glo_ok X G f_g_with_lines
    g_edited := glo_ok X G f_g_edited
    g_state_behind := glo_ok X G f_g_state_behind
    g__law_cell := glo_ok X G f_g__law_cell
    g__law_box := glo_ok X G f_g__law_box
    g__law_take := glo_ok X G f_g__law_take
    g__law_line_of := glo_ok X G f_g__law_line_of
    g__law_change := glo_ok X G f_g__law_change
    g__law_said := glo_ok X G f_g__law_said
    g__law_state := glo_ok X G f_g__law_state
    g__law_wound := glo_ok X G f_g__law_wound
    g__law_made := glo_ok X G f_g__law_made
    g__law_replayed := glo_ok X G f_g__law_replayed
    g__law_long_right := glo_ok X G f_g__law_long_right
    g_law := glo_ok X G f_g_law
    g_Kind := glo_ok X G f_g_Kind
    g_Program := glo_ok X G f_g_Program
    g_State := glo_ok X G f_g_State
    g_Session := glo_ok X G f_g_Session
    g_InvalidInteger := glo_ok X G f_g_InvalidInteger
    g_InvalidLine := glo_ok X G f_g_InvalidLine
    g_InvalidCommand := glo_ok X G f_g_InvalidCommand
    g_InvalidJump := glo_ok X G f_g_InvalidJump
    g_Duplicate := glo_ok X G f_g_Duplicate
    g_NoLine := glo_ok X G f_g_NoLine
    g_NothingToUndo := glo_ok X G f_g_NothingToUndo
    g_TimeError := glo_ok X G f_g_TimeError
    g_MissingError := glo_ok X G f_g_MissingError
    g_StateError := glo_ok X G f_g_StateError
    g_RULES_programs := glo_ok X G f_g_RULES_programs
    g_CHANGES := glo_ok X G f_g_CHANGES
    g_STOPS := glo_ok X G f_g_STOPS
    g_FORMS := glo_ok X G f_g_FORMS
    c_LONGEST_NAME := int_ok X G f_c_LONGEST_NAME
    c_DAY := int_ok X G f_c_DAY
    c_HOUR := int_ok X G f_c_HOUR
    c_GREATEST_JUMP := int_ok X G f_c_GREATEST_JUMP
    c_MOST_JUMPS_kinds := int_ok X G f_c_MOST_JUMPS_kinds
    c_MOST_CHANGES := int_ok X G f_c_MOST_CHANGES
    c_USUAL_CHANGES := int_ok X G f_c_USUAL_CHANGES
    c_MOST_LINES := int_ok X G f_c_MOST_LINES
    c_MOST_ANSWERS := int_ok X G f_c_MOST_ANSWERS
    c_MOST_MINUTES := int_ok X G f_c_MOST_MINUTES
    c_MOST_DAYS := int_ok X G f_c_MOST_DAYS
    c_MOST_NUMBER := int_ok X G f_c_MOST_NUMBER
    c_MOST_INDEX := int_ok X G f_c_MOST_INDEX
    c_MOST_JUMPS_commands := int_ok X G f_c_MOST_JUMPS_commands
    c_LETTERS := str_ok X G f_c_LETTERS
    c_DIGITS := str_ok X G f_c_DIGITS
    c_MOMENT := str_ok X G f_c_MOMENT
    c_READING := str_ok X G f_c_READING
    c_NUMBER := str_ok X G f_c_NUMBER
    c_TRUTH := str_ok X G f_c_TRUTH
    c_NOW := str_ok X G f_c_NOW
    c_ADD := str_ok X G f_c_ADD
    c_DAYS := str_ok X G f_c_DAYS
    c_AT := str_ok X G f_c_AT
    c_BEGIN := str_ok X G f_c_BEGIN
    c_PUT := str_ok X G f_c_PUT
    c_TAKE := str_ok X G f_c_TAKE
    c_REPLACE := str_ok X G f_c_REPLACE
    f_isinstance := free_ok X G f_f_isinstance
    f_int := free_ok X G f_f_int
    f_bool := free_ok X G f_f_bool
    f_str := free_ok X G f_f_str
    f_list := free_ok X G f_f_list
    f_tuple := free_ok X G f_f_tuple
    f_len := free_ok X G f_f_len
    f_all := free_ok X G f_f_all
    f_max := free_ok X G f_f_max
    f_min := free_ok X G f_f_min
    f_sorted := free_ok X G f_f_sorted
    f_abs := free_ok X G f_f_abs
    f_range := free_ok X G f_f_range
    f_zip := free_ok X G f_f_zip
    f_enumerate := free_ok X G f_f_enumerate
    d_is_whole := def9 e0 (congrArg (fun z => z.getD 0 []) c3) 0
    d_is_integer := def9 e0 (congrArg (fun z => z.getD 0 []) c3) 1
    d_is_name := def9 e0 (congrArg (fun z => z.getD 0 []) c3) 2
    d_is_list := def9 e0 (congrArg (fun z => z.getD 0 []) c3) 3
    d_told_time := def9 e0 (congrArg (fun z => z.getD 0 []) c3) 4
    d_told_integer := def9 e0 (congrArg (fun z => z.getD 0 []) c3) 5
    d_need_kind := def9 e0 (congrArg (fun z => z.getD 0 []) c3) 6
    d_is_any := def9 e0 (congrArg (fun z => z.getD 0 []) c3) 7
    d_kind_of_one := def9 e0 (congrArg (fun z => z.getD 0 []) c3) 8
    d_kind_of_two := def9 e0 (congrArg (fun z => z.getD 0 []) c3) 9
    d_kind_of_line := def9 e0 (congrArg (fun z => z.getD 0 []) c3) 10
    d_start_of := def9 e0 (congrArg (fun z => z.getD 0 []) c3) 11
    d_are_answers := def9 e0 (congrArg (fun z => z.getD 0 []) c3) 12
    d_need_program := def9 e0 (congrArg (fun z => z.getD 0 []) c3) 13
    d_index_of := def9 e0 (congrArg (fun z => z.getD 0 []) c3) 14
    d_part_of := def9 e0 (congrArg (fun z => z.getD 0 []) c3) 15
    d_texts_of := def9 e0 (congrArg (fun z => z.getD 0 []) c3) 16
    d_parts_of := def9 e0 (congrArg (fun z => z.getD 0 []) c3) 17
    d_command_of := def9 e0 (congrArg (fun z => z.getD 0 []) c3) 18
    d_with_lines := def9 e0 (congrArg (fun z => z.getD 0 []) c3) 19
    d_edited := def9 e0 (congrArg (fun z => z.getD 0 []) c3) 20
    d_state_behind := def9 e0 (congrArg (fun z => z.getD 0 []) c3) 21
    d__law_cell := def9 e0 (congrArg (fun z => z.getD 0 []) c3) 22
    d__law_box := def9 e0 (congrArg (fun z => z.getD 0 []) c3) 23
    d__law_take := def9 e0 (congrArg (fun z => z.getD 0 []) c3) 24
    d__law_line_of := def9 e0 (congrArg (fun z => z.getD 0 []) c3) 25
    d__law_change := def9 e0 (congrArg (fun z => z.getD 0 []) c3) 26
    d__law_said := def9 e0 (congrArg (fun z => z.getD 0 []) c3) 27
    d__law_state := def9 e0 (congrArg (fun z => z.getD 0 []) c3) 28
    d__law_wound := def9 e0 (congrArg (fun z => z.getD 0 []) c3) 29
    d__law_made := def9 e1 (congrArg (fun z => z.getD 1 []) c3) 0
    d__law_replayed := def9 e1 (congrArg (fun z => z.getD 1 []) c3) 1
    d__law_long_right := def9 e1 (congrArg (fun z => z.getD 1 []) c3) 2
    d_law := def9 e1 (congrArg (fun z => z.getD 1 []) c3) 3
    d_Kind___init__ := def9 e1 (congrArg (fun z => z.getD 1 []) c3) 4
    d_Kind___eq__ := def9 e1 (congrArg (fun z => z.getD 1 []) c3) 5
    d_Kind_parts := def9 e1 (congrArg (fun z => z.getD 1 []) c3) 6
    d_Kind_jumps := def9 e1 (congrArg (fun z => z.getD 1 []) c3) 7
    d_Kind_apart := def9 e1 (congrArg (fun z => z.getD 1 []) c3) 8
    d_Kind_most := def9 e1 (congrArg (fun z => z.getD 1 []) c3) 9
    d_Program___init__ := def9 e1 (congrArg (fun z => z.getD 1 []) c3) 10
    d_Program_take := def9 e1 (congrArg (fun z => z.getD 1 []) c3) 11
    d_Program___str__ := def9 e1 (congrArg (fun z => z.getD 1 []) c3) 12
    d_State___init__ := def9 e1 (congrArg (fun z => z.getD 1 []) c3) 13
    d_State_told := def9 e1 (congrArg (fun z => z.getD 1 []) c3) 14
    d_Session___init__ := def9 e1 (congrArg (fun z => z.getD 1 []) c3) 15
    d_Session_state := def9 e1 (congrArg (fun z => z.getD 1 []) c3) 16
    d_Session_kind := def9 e1 (congrArg (fun z => z.getD 1 []) c3) 17
    d_Session_text := def9 e1 (congrArg (fun z => z.getD 1 []) c3) 18
    d_Session_done := def9 e1 (congrArg (fun z => z.getD 1 []) c3) 19
    d_Session___len__ := def9 e1 (congrArg (fun z => z.getD 1 []) c3) 20
    d_Session_say := def9 e1 (congrArg (fun z => z.getD 1 []) c3) 21
    d_Session_say_all := def9 e1 (congrArg (fun z => z.getD 1 []) c3) 22
    d_Session_step := def9 e1 (congrArg (fun z => z.getD 1 []) c3) 23
    d_Session_performed := def9 e1 (congrArg (fun z => z.getD 1 []) c3) 24
    d_InvalidInteger___init__ := def9 e1 (congrArg (fun z => z.getD 1 []) c3) 25
    d_InvalidLine___init__ := def9 e1 (congrArg (fun z => z.getD 1 []) c3) 26
    d_InvalidCommand___init__ := def9 e1 (congrArg (fun z => z.getD 1 []) c3) 27
    d_InvalidJump___init__ := def9 e1 (congrArg (fun z => z.getD 1 []) c3) 28
    d_Duplicate___init__ := def9 e1 (congrArg (fun z => z.getD 1 []) c3) 29
    d_NoLine___init__ := def9 e2 (congrArg (fun z => z.getD 2 []) c3) 0
    d_NothingToUndo___init__ := def9 e2 (congrArg (fun z => z.getD 2 []) c3) 1
    k_Kind := cls_ok f_k_Kind
    m_Kind := mkr_ok f_m_Kind
    n_Kind_own_jumps := noat_ok f_n_Kind_own_jumps
    n_Kind_own_apart := noat_ok f_n_Kind_own_apart
    n_Kind_own_most := noat_ok f_n_Kind_own_most
    e_Kind_parts := meth_ok f_e_Kind_parts
    k_Program := cls_ok f_k_Program
    m_Program := mkr_ok f_m_Program
    n_Program_own_start := noat_ok f_n_Program_own_start
    n_Program_own_text := noat_ok f_n_Program_own_text
    n_Program_own_kinds := noat_ok f_n_Program_own_kinds
    n_Program_own_lines := noat_ok f_n_Program_own_lines
    n_Program_own_answers := noat_ok f_n_Program_own_answers
    e_Program_take := meth_ok f_e_Program_take
    k_State := cls_ok f_k_State
    m_State := mkr_ok f_m_State
    n_State_zones := noat_ok f_n_State_zones
    n_State_plan := noat_ok f_n_State_plan
    e_State_told := meth_ok f_e_State_told
    k_Session := cls_ok f_k_Session
    m_Session := mkr_ok f_m_Session
    n_Session_origin := noat_ok f_n_Session_origin
    n_Session_made := noat_ok f_n_Session_made
    n_Session_undone := noat_ok f_n_Session_undone
    e_Session_state := meth_ok f_e_Session_state
    e_Session_kind := meth_ok f_e_Session_kind
    e_Session_text := meth_ok f_e_Session_text
    e_Session_done := meth_ok f_e_Session_done
    e_Session_say := meth_ok f_e_Session_say
    e_Session_say_all := meth_ok f_e_Session_say_all
    e_Session_step := meth_ok f_e_Session_step
    e_Session_performed := meth_ok f_e_Session_performed
    p_Kind_jumps := propB_ok f_p_Kind_jumps
    p_Kind_apart := propB_ok f_p_Kind_apart
    p_Kind_most := propB_ok f_p_Kind_most
    x_InvalidInteger := xcB_ok f_x_InvalidInteger
    i_InvalidInteger := eqO_ok f_i_InvalidInteger
    t_InvalidInteger := of_decide_eq_true f_t_InvalidInteger
    na_InvalidInteger := eqO_ok f_na_InvalidInteger
    ex_InvalidInteger := of_decide_eq_true f_ex_InvalidInteger
    x_InvalidLine := xcB_ok f_x_InvalidLine
    i_InvalidLine := eqO_ok f_i_InvalidLine
    t_InvalidLine := of_decide_eq_true f_t_InvalidLine
    na_InvalidLine := eqO_ok f_na_InvalidLine
    ex_InvalidLine := of_decide_eq_true f_ex_InvalidLine
    x_InvalidCommand := xcB_ok f_x_InvalidCommand
    i_InvalidCommand := eqO_ok f_i_InvalidCommand
    t_InvalidCommand := of_decide_eq_true f_t_InvalidCommand
    na_InvalidCommand := eqO_ok f_na_InvalidCommand
    ex_InvalidCommand := of_decide_eq_true f_ex_InvalidCommand
    x_InvalidJump := xcB_ok f_x_InvalidJump
    i_InvalidJump := eqO_ok f_i_InvalidJump
    t_InvalidJump := of_decide_eq_true f_t_InvalidJump
    na_InvalidJump := eqO_ok f_na_InvalidJump
    ex_InvalidJump := of_decide_eq_true f_ex_InvalidJump
    x_Duplicate := xcB_ok f_x_Duplicate
    i_Duplicate := eqO_ok f_i_Duplicate
    t_Duplicate := of_decide_eq_true f_t_Duplicate
    na_Duplicate := eqO_ok f_na_Duplicate
    ex_Duplicate := of_decide_eq_true f_ex_Duplicate
    x_NoLine := xcB_ok f_x_NoLine
    i_NoLine := eqO_ok f_i_NoLine
    t_NoLine := of_decide_eq_true f_t_NoLine
    na_NoLine := eqO_ok f_na_NoLine
    ex_NoLine := of_decide_eq_true f_ex_NoLine
    x_NothingToUndo := xcB_ok f_x_NothingToUndo
    i_NothingToUndo := eqO_ok f_i_NothingToUndo
    t_NothingToUndo := of_decide_eq_true f_t_NothingToUndo
    ex_NothingToUndo := of_decide_eq_true f_ex_NothingToUndo
    r_TimeError := recvB_ok f_r_TimeError
    r_MissingError := recvB_ok f_r_MissingError
    r_StateError := recvB_ok f_r_StateError
    ic_Kind := insB_ok f_ic_Kind
    ic_Program := insB_ok f_ic_Program
    l_RULES_programs := lstB_ok f_l_RULES_programs
    l_CHANGES := lstB_ok f_l_CHANGES
    l_STOPS := lstB_ok f_l_STOPS
    fi_Program___str__ := eqO_ok f_fi_Program___str__
    if_Program___str__ := id f_if_Program___str__
    fi_Session___len__ := eqO_ok f_fi_Session___len__
    if_Session___len__ := id f_if_Session___len__
    fi_Kind___eq__ := eqO_ok f_fi_Kind___eq__
    if_Kind___eq__ := id f_if_Kind___eq__
    w_FORMS := form_ok c4 f_FORMS
    ne_Kind := of_decide_eq_true f_ne_Kind
    ne_Program := of_decide_eq_true f_ne_Program
    ne_State := of_decide_eq_true f_ne_State
  }
end L2.K9
set_option maxHeartbeats 0
namespace HS
open PySem PySem.W PySem.Calls PyProof.Rows HandSHeadRun K99
theorem rB_false (w : World) (os : OsState) : (endS (denQ tabQ) 20000 R.prog (w.withFollow "special-get-raises" false) os).map L2.K9.ob9 = some (L2.K9.val9 (w.withFollow "special-get-raises" false)) := by kernel_rfl
end HS
set_option maxHeartbeats 0
namespace HS
open PySem PySem.W PySem.Calls PyProof.Rows HandSHeadRun K99
theorem rB_true (w : World) (os : OsState) : (endS (denQ tabQ) 20000 R.prog (w.withFollow "special-get-raises" true) os).map L2.K9.ob9 = some (L2.K9.val9 (w.withFollow "special-get-raises" true)) := by kernel_rfl
end HS
set_option maxHeartbeats 4000000
namespace L2.K9
open PySem PySem.Spec PyProof.Rows He

/-! ### what leaves a def -/
section
variable {P : Program} {w : World} {K : PySem.W.Frag} {mg : Str → Option Value} {base : Heap} {N : List Str} {qual : Str} {scope : Scope} {f : Addr} {cd : Value} {A : Around} {outer : List Env} {s : Shared} {H : Hp} {E : XK}
theorem pq : Passes (L2.CX P w) (cxOf (L2.CX P w) P w K mg base N qual scope f cd A outer s H E) E := passes_call (takes_of rfl rfl rfl rfl) (fun _ _ _ _ h => h)
theorem pqF {X : Cx} : Passes (L2.CX X.prog X.w) X (fun _ _ _ => False) := fun _ _ _ _ _ _ _ h => by
  obtain ⟨_, _, _, _, _, _, _, _, _, _, _, _, z⟩ := h
  exact z.elim
theorem po_def : PassesOwn (model P w) (cxOf (L2.CX P w) P w K mg base N qual scope f cd A outer s H E).A (cxOf (L2.CX P w) P w K mg base N qual scope f cd A outer s H E).env (cxOf (L2.CX P w) P w K mg base N qual scope f cd A outer s H E).xe :=
  passes_of (K := fun e s'' => L2.CX P w outer H s E e s'') rfl
end
/-- one def's theorem: its function object, its promise, how its arguments bind -/
abbrev DefOk (P : Program) (w : World) (K : PySem.W.Frag) (mg : Str → Option Value) (base : Heap) (k : Nat) (f : Addr) (ps : List Str) (sp : Sp) : Prop :=
  ∃ fd, FnOk P w K mg base (L2.CX P w) k f fd ps sp ∧ Binds K fd ps [] ∧ PySem.W.keepIn K (.ref f) = true

/-! ### heaps -/
theorem sm1 {H : Hp} {p : Addr} {o : HO} (h : H p = none) : Same H (upd H p o) := fun b u e => by
  rw [upd_ne (ne_of_none e h)]
  exact e
theorem Same.upd {H H1 : Hp} {p : Addr} {o : HO} (a : Same H H1) (h : H1 p = none) : Same H (upd H1 p o) := a.trans (sm1 h)
theorem Same.tup {K : PySem.W.Frag} {H H' : Hp} {a : Addr} {xs : List V} (e : Same H H') (h : SqT K H a xs) : SqT K H' a xs := by
  rcases h with (h | ⟨o, h⟩) | h
  · exact .inl (.inl (e _ _ h))
  · exact .inl (.inr ⟨o, e _ _ h⟩)
  · exact .inr h
/-- a function of flat values: the answer, all that stood stands -/
abbrev Gives (H : Hp) (Q : VK) (v : V) : Prop := ∀ H', Same H H' → Q v H'

/-! ### isinstance of built-in kinds -/
section
variable {K : PySem.W.Frag} {H : Hp} {Q : VK}
theorem isi_ty {x : V} {a n : String} {b : Bool} (ty : TyX K H x (.type a)) (h : kitB a n = some b) (q : Q (.bl b) H) : rIsi K [x, .ty n] H Q := ⟨x, .ty n, .type a, .type n, b, rfl, .ty n, ty, kit_ty h, q⟩
theorem isi_own {x : V} {C : Addr} {dx : Addr} {fs : List (Str × V)} {a : Addr} (k : Cls K C) (i : InsC K C) (e : H a = some (.ins C dx fs)) (q : Q (.bl true) H) : rIsi K [.ref a, .ref C] H Q :=
  ⟨.ref a, .ref C, .ref C, .ref C, true, rfl, .own C, .base (.ins e k i.ha i.hn i.ht i.hm), i.self, q⟩
theorem isi_seq {x : V} {tp : Addr} {b : Bool} {a : String} (ht : H tp = some (.tup [.ty "list", .ty "tuple"])) (ty : TyX K H x (.type a)) (h1 : kitB a "list" = some b) (h2 : b = false → kitB a "tuple" = some true) (q : Q (.bl true) H) : rIsiT K [x, .ref tp] H Q :=
  ⟨x, tp, _, .type a, [.type "list", .type "tuple"], true, rfl, ht, .cons (.ty _) (.cons (.ty _) .nil), ty, kitAny_cons (kit_ty h1) (fun e => kitAny_cons (kit_ty (h2 e)) (fun e => nomatch e) fun _ => rfl) fun _ => rfl, q⟩
end
end L2.K9
set_option maxHeartbeats 4000000
namespace L2.K9
open PySem PySem.Spec PyProof.Rows He
/-! ### the program's functions as plain functions -/
def ltrs : Str := "abcdefghijklmnopqrstuvwxyz"
def dgts : Str := "0123456789"
abbrev hasS (z : Str) (c : Nat) : Bool := decide (c ∈ z.cps.toList)
def isName (s : Str) : Bool := match s.cps.toList with
  | [] => false
  | c :: r => decide (r.length < 8) && hasS ltrs c && (c :: r).all (hasS (ltrs ++ dgts))
def valD (l : List Nat) : Int := ((NumText.digitsVal l : Nat) : Int)
def toldTime (t : Str) : Option Int := match t.cps.toList with
  | [a, b, c, d, e] => if c = 58 ∧ [a, b, d, e].all (hasS dgts) = true then
      (if valD [a, b] < 24 ∧ valD [d, e] < 60 then some (valD [a, b] * 60 + valD [d, e]) else none) else none
  | _ => none
def toldInt (t : Str) (most : Int) : Option Int :=
  let f := Txt.removeprefix t "-"
  if 0 < f.length ∧ f.length ≤ (toString most : Str).length ∧ f.cps.toList.all (hasS dgts) = true then
    (if atI f.cps.toList 0 = some 48 ∧ t ≠ "0" then none else
      let n := if f = t then valD f.cps.toList else -valD f.cps.toList
      if -most ≤ n ∧ n ≤ most then some n else none) else none
def oI : Option Int → V
  | none => .non
  | some i => .int i
def isAny (k : V) : Bool := inV k [.str "moment", .str "reading"]
def kindOne (w : Str) (k : V) : V :=
  if w = "read" then (if k = .str "moment" then .str "reading" else .non)
  else if inV (.str w) [.str "time", .str "day"] = true ∧ k = .str "reading" then .str "number" else .non
abbrev getK (kv : List (Key × V)) (w : Str) : V := (valV kv (.inr w)).getD .non
def kindTwo (w : Str) (k : V) (t : Str) (kv : List (Key × V)) : V :=
  if inV (.str w) [.str "between", .str "before"] = true then
    (if isAny k = true ∧ getK kv t = k then (if w = "between" then .str "number" else .str "truth") else .non)
  else if w = "add" then (if isAny k = true ∧ (toldInt t 100000).isSome = true then k else .non)
  else if k ≠ .str "reading" then .non
  else if w = "place" then (if inV (.str t) [.str "ahead", .str "behind", .str "strict"] = true then .str "moment" else .non)
  else if w = "days" then (if (toldInt t 60).isSome = true then .str "reading" else .non)
  else if w = "at" ∧ (toldTime t).isSome = true then .str "reading" else .non
def kindLine (ws : List Str) (kv : List (Key × V)) : V := match ws with
  | [a, b] => kindOne a (getK kv b)
  | [a, b, c] => kindTwo a (getK kv b) c kv
  | _ => .non
def startXY : Option Int → Option Int → Option (Int × Int)
  | some x, some y => if x > y then none else some (x, y)
  | _, _ => none
def startOf (ws : List Str) : Option (Int × Int) := match ws with
  | [a, b, c] => if a = "start" then startXY (toldTime b) (toldTime c) else none
  | _ => none
def areAns (ws : List Str) (kv : List (Key × V)) : Bool := match ws with
  | [] => false
  | w :: r => decide (w = "return") && decide (1 ≤ r.length) && decide (r.length ≤ 4) && r.all fun z => inV (getK kv z) [.str "number", .str "truth"]
structure PSt where
  kv : List (Key × V)
  n : Nat
  ans : Bool
def takeM (p : PSt) (ws : List Str) : Option PSt :=
  if p.ans = true then none
  else if areAns ws p.kv = true then some { p with ans := true }
  else match ws with
    | w :: e :: c :: r =>
      if 8 ≤ p.n ∨ e ≠ "=" then none
      else if isName w = false ∨ w = "return" ∨ (valV p.kv (.inr w)).isSome = true then none
      else if kindLine (c :: r) p.kv = .non then none
      else some ⟨putK p.kv (.inr w) (kindLine (c :: r) p.kv), p.n + 1, false⟩
    | _ => none
def takesM : PSt → List (List Str) → Option PSt
  | p, [] => some p
  | p, ws :: r => (takeM p ws).bind fun q => takesM q r
def rowsOf (t : Str) : List (List Str) := (Txt.split t "\n").map fun l => Txt.split l " "
def pst0 : PSt := ⟨[(.inr "now", .str "moment")], 0, false⟩
def progM (t : Str) : Bool := match rowsOf t with
  | [] => false
  | r :: rs => (startOf r).isSome && (match takesM pst0 rs with
    | none => false
    | some p => p.ans)
def indexOf (w : Str) : Option Int := match toldInt w 99 with
  | none => none
  | some n => if (match w.cps.toList with | [] => false | c :: _ => hasS dgts c) = true then some n else none
def mostN : Int := 999999999999999999999999999999
def partOf (k : Str) (w : Str) : Option Int := if k = "i" then indexOf w else toldInt w mostN
/-- a command's parts: a program's rows | ints and texts -/
inductive Pts where
  | rows (l : List Str)
  | flat (l : List V)
  deriving DecidableEq
def textsOf (w : Str) (ws : List Str) : Option Pts :=
  if w = "program" then (if ws = [] then none else some (.rows (Txt.split (Txt.join " " ws) " | ")))
  else match ws with
    | a :: b :: r => (indexOf a).map fun i => .flat [.int i, .str (Txt.join " " (b :: r))]
    | _ => none
def forms : List (Key × V) := [(.inr "take", .str "i"), (.inr "apart", .str "n"), (.inr "most", .str "n"), (.inr "show", .str ""), (.inr "kind", .str ""), (.inr "changes", .str ""), (.inr "cases", .str ""),
  (.inr "answers", .str "i"), (.inr "needless", .str ""), (.inr "faults", .str ""), (.inr "run", .str "nn"), (.inr "undo", .str ""), (.inr "redo", .str "")]
def formOf (w : Str) (n : Nat) : V := if w = "jumps" ∧ 1 ≤ n ∧ n ≤ 4 then .str ⟨(List.replicate n 110).toArray⟩ else getK forms w
def signs (z : Str) : List Str := z.cps.toList.map fun c => ⟨#[c]⟩
def partsOf (w : Str) (ws : List Str) : Option Pts :=
  if inV (.str w) [.str "program", .str "put", .str "replace"] = true then textsOf w ws
  else match formOf w ws.length with
    | .str f => if f.length ≠ ws.length then none else
        let ps := List.zipWith (fun k x => oI (partOf k x)) (signs f) ws
        if inV .non ps = true then none else some (.flat ps)
    | _ => none
def cmdM (l : Str) : Option (Str × Pts) := match Txt.split l " " with
  | [] => none
  | w :: ws => if inV (.str "") (ws.map V.str) = false ∧ hasS l 10 = false then (partsOf w ws).map fun p => (w, p) else none
structure Knd where
  js : List Int
  ap : Int
  mo : Int
  deriving DecidableEq
def insI (x : Int) : List Int → List Int
  | [] => [x]
  | y :: r => if x ≤ y then x :: y :: r else y :: insI x r
def srt : List Int → List Int
  | [] => []
  | x :: r => insI x (srt r)
def jumpsM : List Int → List Int → Bool
  | _, [] => true
  | kn, j :: r => decide (-720 ≤ j) && decide (j ≤ 720) && decide (j ≠ 0) && !(kn.contains j) && jumpsM (kn ++ [j]) r
def absI (j : Int) : Int := if j < 0 then -j else j
def kindM (js : List Int) (ap mo : Int) : Option Knd :=
  if 1 ≤ js.length ∧ js.length ≤ 4 ∧ jumpsM [] js = true ∧ (∀ j ∈ js, 2 * absI j < ap) ∧ 0 ≤ mo ∧ mo ≤ 3 then some ⟨srt js, ap, mo⟩ else none
/-- a state: a kind, a program's text -/
structure Stt where
  k : Knd
  t : Str
  deriving DecidableEq
def withM (s : Stt) (ls : List Str) : Option Stt := if progM (Txt.join "\n" ls) = true then some ⟨s.k, Txt.join "\n" ls⟩ else none
def editM (s : Stt) (w : Str) (i : Nat) (mid : List Str) : Option Stt :=
  let ls := Txt.split s.t "\n"
  if ls.length < i ∨ (i = ls.length ∧ w ≠ "put") then none
  else withM s (ls.take i ++ (mid ++ ls.drop (i + if w = "put" then 0 else 1)))
def behM (s : Stt) (w : Str) (p : Pts) : Option Stt := match p with
  | .rows l => if w = "program" then withM s l else none
  | .flat l => if w = "take" then (match l with
      | [.int i] => editM s w i.toNat []
      | _ => none)
    else if w = "put" ∨ w = "replace" then (match l with
      | [.int i, .str x] => editM s w i.toNat [x]
      | _ => none)
    else if w = "jumps" then (kindM (l.filterMap fun v => match v with | .int i => some i | _ => none) s.k.ap s.k.mo).map fun k => ⟨k, s.t⟩
    else if w = "apart" then (match l with
      | [.int i] => (kindM s.k.js i s.k.mo).map fun k => ⟨k, s.t⟩
      | _ => none)
    else match l with
      | [.int i] => (kindM s.k.js s.k.ap i).map fun k => ⟨k, s.t⟩
      | _ => none
def stepM (s : Stt) (l : Str) : Option Stt := (cmdM l).bind fun c => behM s c.1 c.2
def chgW : List V := [.str "program", .str "put", .str "take", .str "replace", .str "jumps", .str "apart", .str "most"]
/-- a row whose first word is a change -/
def Chg (l : Str) : Prop := ∃ w ws, Txt.split l " " = w :: ws ∧ inV (.str w) chgW = true
def runM : Stt → List Str → Option Stt
  | s, [] => some s
  | s, l :: r => (stepM s l).bind fun q => runM q r
def row0 : List Str := ["start 00:00 23:59", "r = read now", "n = time r", "return n"]
theorem prog0 : progM (Txt.join "\n" row0) = true := by decide +kernel
theorem split0 : Txt.split (Txt.join "\n" row0) "\n" = row0 := by decide +kernel
end L2.K9
set_option maxHeartbeats 4000000
namespace L2.K9
open PySem PySem.Spec PyProof.Rows He
/-! ### comprehensions that only lay new things -/
theorem rmap {α : Type} (l : List α) (f : Nat → V) (k : α → V) (h : ∀ i x, l[i]? = some x → f i = k x) : (List.range l.length).map f = l.map k := by
  apply List.ext_getElem
  · rw [List.length_map, List.length_range, List.length_map]
  · intro i h1 h2
    rw [List.length_map] at h2
    rw [List.getElem_map, List.getElem_map, List.getElem_range]
    exact h i _ (List.getElem?_eq_getElem h2)
section
variable {K : PySem.W.Frag} {J : It} {n : Nat} {G : Hp → Prop} {Y : Nat → Hp → V → Hp → Prop} {σ : St} {H1 : Hp} {g : TG} {tt : TT} {te : TE} {vs : List Nat} {Q : VK}
/-- a comprehension over what J walks -/
def LJ (J : It) (g : TG) (tt : TT) (te : TE) (vs : List Nat) (σ : St) (H1 : Hp) (Q : VK) : Prop := ∀ D, H1 D = none → ∃ W : Nat → Nat → Hp → Prop, (∃ m, W 0 m (upd H1 D (.lst []))) ∧ ∀ i m H, W i m H →
      (J.stop i H ∧ Q (.ref D) H) ∨ (J.go i H ∧ ∃ Nx : Hp → Prop, (∀ H', Nx H' → ∃ m', m' < m ∧ W (i + 1) m' H') ∧ ∀ x H', J.yld i H x H' → g x (wipe σ vs) H' fun σ2 H2 => wipe σ2 vs = wipe σ vs ∧ tt σ2 H2 fun b H3 =>
        if b = true then te σ2 H3 fun y H4 => ∃ acc, H4 D = some (.lst acc) ∧ acc.length < sizeLine ∧ Nx (upd H4 D (.lst (acc ++ [y]))) else Nx H3)
theorem tLc_str {te0 : TE} {H : Hp} {Q : VK} : tLc (iStr te0) g tt te vs σ H Q = te0 σ H fun v H1 => ∃ x, v = .str x ∧ LJ (Its x) g tt te vs σ H1 Q := rfl
theorem tLc_list {te0 : TE} {H : Hp} {Q : VK} : tLc (iList K te0) g tt te vs σ H Q = te0 σ H fun v H1 => ∃ a, v = .ref a ∧ (∃ xs, SqL K H1 a xs) ∧ LJ (Itl K a) g tt te vs σ H1 Q := rfl
/-- turn by turn: M i acc H, the new list apart -/
theorem lc_gen (w : Walk J n G Y) (M : Addr → Nat → List V → Hp → Prop) (hn : n ≤ 1000000) (hG : ∀ D i acc H, M D i acc H → G H) (h0 : ∀ D, H1 D = none → M D 0 [] (upd H1 D (.lst [])))
    (hs : ∀ (D : Addr) (i : Nat) (acc : List V) (x : V) (H H' : Hp) (Qy : VK) (Qn : Hp → Prop), H1 D = none → i < n → acc.length ≤ i → H D = some (.lst acc) → M D i acc H → Y i H x H' →
      (∀ y H4, H4 D = some (.lst acc) → M D (i + 1) (acc ++ [y]) (upd H4 D (.lst (acc ++ [y]))) → Qy y H4) → (∀ H3, H3 D = some (.lst acc) → M D (i + 1) acc H3 → Qn H3) →
      g x (wipe σ vs) H' fun σ2 H2 => wipe σ2 vs = wipe σ vs ∧ tt σ2 H2 fun b H3 => if b = true then te σ2 H3 Qy else Qn H3)
    (hd : ∀ D acc H, H1 D = none → H D = some (.lst acc) → M D n acc H → Q (.ref D) H) : LJ J g tt te vs σ H1 Q := by
  intro D hD
  refine ⟨fun i m H => m = n - i ∧ i ≤ n ∧ ∃ acc, acc.length ≤ i ∧ H D = some (.lst acc) ∧ M D i acc H, ⟨n, by simp, Nat.zero_le _, [], Nat.le_refl _, upd_same, h0 D hD⟩, ?_⟩
  rintro i m H ⟨rfl, hi, acc, la, ed, hM⟩
  have q := hG D i acc H hM
  by_cases hlt : i < n
  · refine .inr ⟨w.goes i H hlt q, fun H => ∃ acc, acc.length ≤ i + 1 ∧ H D = some (.lst acc) ∧ M D (i + 1) acc H, fun H' p' => ⟨n - (i + 1), by omega, rfl, hlt, p'⟩, fun x H' y => ?_⟩
    exact hs D i acc x H H' (fun y H4 => ∃ acc, H4 D = some (.lst acc) ∧ acc.length < sizeLine ∧ ∃ acc1, acc1.length ≤ i + 1 ∧ upd H4 D (.lst (acc ++ [y])) D = some (.lst acc1) ∧ M D (i + 1) acc1 (upd H4 D (.lst (acc ++ [y]))))
      (fun H => ∃ acc, acc.length ≤ i + 1 ∧ H D = some (.lst acc) ∧ M D (i + 1) acc H) hD hlt la ed hM (w.yields i H x H' hlt q y)
      (fun y H4 e4 m4 => ⟨acc, e4, by rw [sizeLine_eq]; omega, _, by rw [List.length_append]; simpa using la, upd_same, m4⟩) (fun H3 e3 m3 => ⟨acc, by omega, e3, m3⟩)
  · have e : i = n := by omega
    subst e
    exact .inl ⟨w.stops H q, hd D acc H hD ed hM⟩
/-- every turn gives F i -/
theorem lc_map (w : Walk J n G Y) (F : Nat → V) (hn : n ≤ 1000000) (hG : ∀ H, Same H1 H → G H)
    (hs : ∀ (i : Nat) (x : V) (H H' : Hp) (Qy : VK) (Qn : Hp → Prop), i < n → Same H1 H → Y i H x H' → (∀ H4, Same H H4 → Qy (F i) H4) →
      g x (wipe σ vs) H' fun σ2 H2 => wipe σ2 vs = wipe σ vs ∧ tt σ2 H2 fun b H3 => if b = true then te σ2 H3 Qy else Qn H3)
    (hd : ∀ D H, Same H1 H → H D = some (.lst ((List.range n).map F)) → Q (.ref D) H) : LJ J g tt te vs σ H1 Q := by
  refine lc_gen w (fun _ i acc H => Same H1 H ∧ acc = (List.range i).map F) hn (fun _ _ _ _ h => hG _ h.1) (fun D hD => ⟨Same.upd (Same.refl _) hD, rfl⟩) (fun D i acc x H H' Qy Qn hD hi la ed ⟨sm, ea⟩ y k kn => ?_) (fun D acc H hD ed ⟨sm, ea⟩ => hd D H sm (ea ▸ ed))
  refine hs i x H H' Qy Qn hi sm y fun H4 s4 => k _ _ (s4 _ _ ed) ⟨fun b u e => ?_, ?_⟩
  · rw [upd_ne (ne_of_none e hD)]
    exact s4 _ _ (sm _ _ e)
  · rw [ea, List.range_succ, List.map_append]; rfl
/-- every turn gives a new object o i -/
theorem lc_objs (w : Walk J n G Y) (o : Nat → HO) (hn : n ≤ 1000000) (hG : ∀ H, Same H1 H → G H)
    (hs : ∀ (i : Nat) (x : V) (H H' : Hp) (Qy : VK) (Qn : Hp → Prop), i < n → Same H1 H → Y i H x H' → (∀ p H4, Same H H4 → H p = none → H4 p = some (o i) → Qy (.ref p) H4) →
      g x (wipe σ vs) H' fun σ2 H2 => wipe σ2 vs = wipe σ vs ∧ tt σ2 H2 fun b H3 => if b = true then te σ2 H3 Qy else Qn H3)
    (hd : ∀ D (ps : List Addr) H, Same H1 H → H D = some (.lst (ps.map V.ref)) → ps.length = n → (∀ i p, ps[i]? = some p → H p = some (o i)) → Q (.ref D) H) : LJ J g tt te vs σ H1 Q := by
  refine lc_gen w (fun D i acc H => Same H1 H ∧ ∃ ps : List Addr, acc = ps.map V.ref ∧ ps.length = i ∧ ∀ j p, ps[j]? = some p → p ≠ D ∧ H p = some (o j)) hn (fun _ _ _ _ h => hG _ h.1)
    (fun D hD => ⟨Same.upd (Same.refl _) hD, [], rfl, rfl, fun j p h => by simp at h⟩) (fun D i acc x H H' Qy Qn hD hi la ed ⟨sm, ps, ea, hl, hp⟩ y k kn => ?_)
    (fun D acc H hD ed ⟨sm, ps, ea, hl, hp⟩ => hd D ps H sm (ea ▸ ed) hl fun j p h => (hp j p h).2)
  refine hs i x H H' Qy Qn hi sm y fun p H4 s4 np ep => k _ _ (s4 _ _ ed) ⟨fun b u e => ?_, ps ++ [p], by rw [ea, List.map_append]; rfl, by rw [List.length_append, hl]; rfl, fun j p' h => ?_⟩
  · rw [upd_ne (ne_of_none e hD)]
    exact s4 _ _ (sm _ _ e)
  · have hpD : p ≠ D := fun z => by rw [z, ed] at np; cases np
    by_cases hj : j < ps.length
    · rw [List.getElem?_append_left hj] at h
      have q := hp j p' h
      exact ⟨q.1, by rw [upd_ne q.1]; exact s4 _ _ q.2⟩
    · have hj2 : j = ps.length := by
        have := (List.getElem?_eq_some_iff.mp h).1
        rw [List.length_append] at this
        simp at this; omega
      subst hj2
      rw [List.getElem?_append_right (Nat.le_refl _), Nat.sub_self] at h
      have h : p = p' := Option.some.inj h
      subst h
      exact ⟨hpD, by rw [upd_ne hpD, ← hl] at *; rw [hl]; exact hl ▸ ep⟩
/-- over a text -/
theorem lc_strs {z : Str} (f : Nat → V) (hn : z.length ≤ 1000000)
    (hs : ∀ (c : Nat) (H : Hp) (Qy : VK) (Qn : Hp → Prop), c ∈ z.cps.toList → Same H1 H → (∀ H4, Same H H4 → Qy (f c) H4) →
      g (.str ⟨#[c]⟩) (wipe σ vs) H fun σ2 H2 => wipe σ2 vs = wipe σ vs ∧ tt σ2 H2 fun b H3 => if b = true then te σ2 H3 Qy else Qn H3)
    (hd : ∀ D H, Same H1 H → H D = some (.lst (z.cps.toList.map f)) → Q (.ref D) H) : LJ (Its z) g tt te vs σ H1 Q := by
  refine lc_map walk_str (fun i => f (z.cps.toList.getD i 0)) hn (fun _ _ => trivial) (fun i x H H' Qy Qn hi sm ⟨e, c, ec, ex⟩ k => ?_) (fun D H sm e => hd D H sm ?_)
  · subst e; subst ex
    rw [← Array.getElem?_toList] at ec
    refine hs c _ Qy Qn (List.mem_of_getElem? ec) sm fun H4 s4 => ?_
    have q := k H4 s4
    simp only [List.getD_eq_getElem?_getD, ec, Option.getD_some] at q
    exact q
  · rw [e]
    congr 2
    refine rmap z.cps.toList _ f fun i x h => ?_
    rw [List.getD_eq_getElem?_getD, h]; rfl
/-- over a list -/
theorem lc_lsts {a : Addr} {xs : List V} (f : V → V) (hq : SqL K H1 a xs) (hn : xs.length ≤ 1000000)
    (hs : ∀ (x : V) (H : Hp) (Qy : VK) (Qn : Hp → Prop), x ∈ xs → Same H1 H → (∀ H4, Same H H4 → Qy (f x) H4) →
      g x (wipe σ vs) H fun σ2 H2 => wipe σ2 vs = wipe σ vs ∧ tt σ2 H2 fun b H3 => if b = true then te σ2 H3 Qy else Qn H3)
    (hd : ∀ D H, Same H1 H → H D = some (.lst (xs.map f)) → Q (.ref D) H) : LJ (Itl K a) g tt te vs σ H1 Q := by
  refine lc_map (walk_list (xs := xs)) (fun i => f (xs.getD i .non)) hn (fun _ sm => sm.seq hq) (fun i x H H' Qy Qn hi sm ⟨e, ex⟩ k => ?_) (fun D H sm e => hd D H sm ?_)
  · subst e
    refine hs x _ Qy Qn (List.mem_of_getElem? ex) sm fun H4 s4 => ?_
    have q := k H4 s4
    simp only [List.getD_eq_getElem?_getD, ex, Option.getD_some] at q
    exact q
  · rw [e]
    congr 2
    refine rmap xs _ f fun i x h => ?_
    rw [List.getD_eq_getElem?_getD, h]; rfl
end
/-! ### readings made shorter -/
section
variable {K : PySem.W.Frag} {H : Hp} {y : Str} {n : Nat}
theorem len_s : LenV K (.str y) H n = (y.length ≤ sizeLine ∧ n = y.length) := rfl
theorem len_r {p : Addr} : LenV K (.ref p) H n = ((∃ xs, SqL K H p xs ∧ n = xs.length) ∨ ∃ xs, SqT K H p xs ∧ n = xs.length) := rfl
end
section
variable {CX : CXT} {P : Program} {w : World} {K : PySem.W.Frag} {mg : Str → Option Value} {base : Heap} {N : List Str} {qual : Str} {scope : Scope} {f : Addr} {cd : Value} {A : Around} {outer : List Env} {s : Shared} {H : Hp} {E : XK}
theorem cxK : (cxOf CX P w K mg base N qual scope f cd A outer s H E).K = K := rfl
theorem cxP : (cxOf CX P w K mg base N qual scope f cd A outer s H E).prog = P := rfl
theorem cxW : (cxOf CX P w K mg base N qual scope f cd A outer s H E).w = w := rfl
end
theorem ite_nd {α : Sort _} {p : Prop} [h : Decidable p] {x y : α} : (if (!decide p) = true then x else y) = (if p then y else x) := by by_cases c : p <;> simp [c]
theorem hu_of {k : Nat} {A : Around} (r : Room k A) : A.units + 1 < cLine := Nat.lt_of_le_of_lt (Nat.add_le_add_left (by decide) _) r.units
/-- None or a text -/
def SN (v : V) : Prop := v = .non ∨ ∃ s, v = .str s
theorem SN.sc {v : V} (h : SN v) (s : Str) : scal v (.str s) = true := by rcases h with rfl | ⟨_, rfl⟩ <;> rfl
theorem SN.fl {v : V} (h : SN v) : flatV v = true := by rcases h with rfl | ⟨_, rfl⟩ <;> rfl
theorem SN.str {s : Str} : SN (.str s) := .inr ⟨s, rfl⟩
theorem SN.non : SN .non := .inl rfl
theorem SN.any {v : V} (h : isAny v = true) : ∃ s, v = .str s := by
  unfold isAny inV at h
  cases v <;> simp [eqV] at h ⊢
/-- a dict whose values are texts -/
def SK (kv : List (Key × V)) : Prop := ∀ k, SN ((valV kv k).getD .non)
theorem scal_ss {a b : Str} : scal (.str a) (.str b) = true := rfl
theorem scal_ii {a b : Int} : scal (.int a) (.int b) = true := rfl
theorem scal_bb {a b : Bool} : scal (.bl a) (.bl b) = true := rfl
theorem scal_ns {b : Str} : scal .non (.str b) = true := rfl
theorem in_l {K : PySem.W.Frag} {H : Hp} {p : Addr} {xs : List V} {x : V} {Q : VK} (h : SqL K H p xs) (f : flatV x = true) (fs : xs.all flatV = true) (q : Q (.bl (inV x xs)) H) : rIn K false x (.ref p) H Q := ⟨p, xs, rfl, .inl h, f, fs, q⟩
theorem nin_l {K : PySem.W.Frag} {H : Hp} {p : Addr} {xs : List V} {x : V} {Q : VK} (h : SqL K H p xs) (f : flatV x = true) (fs : xs.all flatV = true) (q : Q (.bl (!inV x xs)) H) : rIn K true x (.ref p) H Q := ⟨p, xs, rfl, .inl h, f, fs, q⟩
theorem in_t {K : PySem.W.Frag} {H : Hp} {p : Addr} {xs : List V} {x : V} {Q : VK} (h : SqT K H p xs) (f : flatV x = true) (fs : xs.all flatV = true) (q : Q (.bl (inV x xs)) H) : rIn K false x (.ref p) H Q := ⟨p, xs, rfl, .inr h, f, fs, q⟩
theorem newL {K : PySem.W.Frag} {H : Hp} {p : Addr} {xs : List V} : SqL K (upd H p (.lst xs)) p xs := .inl (.inl upd_same)
theorem newT {K : PySem.W.Frag} {H : Hp} {p : Addr} {xs : List V} : SqT K (upd H p (.tup xs)) p xs := .inl (.inl upd_same)
theorem SqL.of {K : PySem.W.Frag} {H : Hp} {p : Addr} {xs : List V} (e : H p = some (.lst xs)) : SqL K H p xs := .inl (.inl e)
theorem SqT.of {K : PySem.W.Frag} {H : Hp} {p : Addr} {xs : List V} (e : H p = some (.tup xs)) : SqT K H p xs := .inl (.inl e)
theorem op_in_K {X : Cx} {K : PySem.W.Frag} (h : X.K = K) : OpR X (compareOp .In) (rIn K false) := h ▸ op_in_seq
theorem op_notIn_K {X : Cx} {K : PySem.W.Frag} (h : X.K = K) : OpR X (compareOp .NotIn) (rIn K true) := h ▸ op_notIn_seq
theorem pg_tup_K {X : Cx} {K : PySem.W.Frag} {es : List Expr} {k : Nat} {t : TGs} {n : Nat} {pos : Pos} (hK : X.K = K) (hc : X.calm = true) (h : PGs X es t)
    (hn : (assignEach es X.env).length = n := by rfl) (hst : (assignEach es X.env).findIdx? (·.1) = none := by rfl) : PG X (.Tuple es k pos) (gTup K n t) := hK ▸ pg_tup hc h hn hst
theorem pi_list_K {X : Cx} {K : PySem.W.Frag} {tg l : Expr} {tl : TE} (hK : X.K = K) (hl : PE X l tl) : PI X tg l (iList K tl) := hK ▸ pi_list hl
theorem ix_list_K {X : Cx} {K : PySem.W.Frag} (hK : X.K = K) : IxR X (rIxL K) := hK ▸ ix_list
theorem sg_inj {a b : Nat} : ((⟨#[a]⟩ : Str) = ⟨#[b]⟩) = (a = b) := by simp
theorem at0 {α : Type} {c : α} {r : List α} : atI (c :: r) 0 = some c := by simp [atI, ixN]
theorem all_bl {α : Type} (l : List α) (p : α → Bool) : (l.map p).all id = l.all p := by rw [List.all_map]; rfl
theorem map_bl {α : Type} (l : List α) (p : α → Bool) : l.map (fun x => V.bl (p x)) = (l.map p).map V.bl := by rw [List.map_map]; rfl
end L2.K9
set_option maxHeartbeats 4000000
/-! texts: split and join undo each other; lengths -/
namespace L2.K9
open PySem PySem.Spec PyProof.Rows He
theorem spl_ne (S : List Nat) : ∀ (l acc : List Nat) (k : Nat), TL.spl S k acc l ≠ []
  | [], acc, k => by rw [TL.spl_nil]; simp
  | c :: r, acc, 0 => by
    cases h : TL.pre S (c :: r) with
    | true => rw [TL.spl_hit h]; simp
    | false => rw [TL.spl_miss h]; exact spl_ne S r _ 0
  | c :: r, acc, k + 1 => spl_ne S r acc k
theorem joinL_cons {S p : List Nat} {ps : List (List Nat)} (h : ps ≠ []) : TL.joinL S (p :: ps) = p ++ (S ++ TL.joinL S ps) := by
  cases ps with
  | nil => exact absurd rfl h
  | cons q r => rfl
theorem join_spl {S : List Nat} (hS : S ≠ []) : ∀ (n : Nat) (l acc : List Nat), l.length ≤ n → TL.joinL S (TL.spl S 0 acc l) = acc ++ l
  | _, [], acc, _ => by rw [TL.spl_nil]; simp [TL.joinL]
  | 0, _ :: _, _, h => absurd h (by simp)
  | n + 1, c :: r, acc, h => by
    cases e : TL.pre S (c :: r) with
    | false =>
      rw [TL.spl_miss e, join_spl hS n r _ (by simpa using h), List.append_assoc]
      rfl
    | true =>
      have e1 : (c :: r).take S.length = S := eq_of_beq e
      have e2 : (c :: r).drop S.length = r.drop (S.length - 1) := by
        cases S with
        | nil => exact absurd rfl hS
        | cons s S => simp
      rw [TL.spl_hit e, joinL_cons (spl_ne _ _ _ _), TL.spl_pass, join_spl hS n _ _ (by rw [List.length_drop]; simp at h; omega), List.nil_append, ← e2]
      conv => rhs; rw [← List.take_append_drop S.length (c :: r), e1]
theorem joinL_len (S : List Nat) : ∀ ps : List (List Nat), (TL.joinL S ps).length = (ps.map List.length).sum + (ps.length - 1) * S.length
  | [] => by simp [TL.joinL]
  | [p] => by simp [TL.joinL]
  | p :: q :: r => by
    rw [joinL_cons (by simp), List.length_append, List.length_append, joinL_len S (q :: r)]
    simp only [List.map_cons, List.sum_cons, List.length_cons, Nat.add_sub_cancel]
    rw [Nat.add_mul]
    omega
theorem join_len (y : Str) (ps : List Str) : (Txt.join y ps).length = (ps.map (·.length)).sum + (ps.length - 1) * y.length := by
  rw [TL.len_tl, TL.join_eq, TL.tl_join, joinL_len, List.map_map, List.length_map, ← TL.len_tl]
  congr 2
def sepOk (y : Str) : Prop := TL.tl y ≠ [] ∧ y.cps.all (· < 256) = true
theorem split_ne {y : Str} (h : sepOk y) (x : Str) : Txt.split x y ≠ [] := fun e => by
  have := TL.split_spl x y h.1 (TL.kind_ok h.2)
  rw [e] at this
  exact spl_ne _ _ _ _ this.symm
theorem join_split {y : Str} (h : sepOk y) (x : Str) : Txt.join y (Txt.split x y) = x := by
  refine TL.ext_tl ?_
  rw [TL.join_eq, TL.tl_join, TL.split_spl x y h.1 (TL.kind_ok h.2), join_spl h.1 _ _ _ (Nat.le_refl _), List.nil_append]
theorem split_len {y : Str} (h : sepOk y) (x : Str) : ((Txt.split x y).map (·.length)).sum + ((Txt.split x y).length - 1) * y.length = x.length := by
  rw [← join_len, join_split h]
theorem mem_sum {l : List Nat} {x : Nat} (h : x ∈ l) : x ≤ l.sum := by
  induction l with
  | nil => cases h
  | cons y r ih =>
    rw [List.sum_cons]
    rcases List.mem_cons.mp h with h | h
    · omega
    · have := ih h; omega
theorem split_mem {y : Str} (h : sepOk y) {x z : Str} (hz : z ∈ Txt.split x y) : z.length ≤ x.length := by
  have h1 := split_len h x
  have h2 := mem_sum (List.mem_map_of_mem (f := fun s : Str => s.length) hz)
  omega
theorem split_cnt {y : Str} (h : sepOk y) (x : Str) : (Txt.split x y).length ≤ x.length + 1 := by
  have h1 := split_len h x
  have h2 : 1 ≤ y.length := by
    rw [TL.len_tl]
    exact List.length_pos_iff.mpr h.1
  have h3 : (Txt.split x y).length - 1 ≤ ((Txt.split x y).length - 1) * y.length := Nat.le_mul_of_pos_right _ h2
  omega
theorem sep_nl : sepOk "\n" := ⟨by decide +kernel, by decide +kernel⟩
theorem sep_sp : sepOk " " := ⟨by decide +kernel, by decide +kernel⟩
theorem sep_bar : sepOk " | " := ⟨by decide +kernel, by decide +kernel⟩
/-- the parts of a split by one sign and the sum of their lengths -/
theorem split_sum {y : Str} (h : sepOk y) (x : Str) : ((Txt.split x y).map (·.length)).sum ≤ x.length := by
  have h1 := split_len h x
  omega
theorem join_le {y : Str} (ps : List Str) (h1 : y.length = 1) : (Txt.join y ps).length ≤ (ps.map (·.length)).sum + ps.length := by
  rw [join_len, h1]; omega
theorem sum_le {l : List Str} : (l.map (·.length)).sum + l.length * 0 = (l.map (·.length)).sum := by simp
/-- a text that begins with a word and a blank -/
theorem split_word {w r : Str} (hw : 32 ∉ TL.tl w) : ∃ ws, Txt.split (w ++ " " ++ r) " " = w :: ws := by
  have hs : TL.tl (Str.ofString " ") = [32] := by decide +kernel
  have e := TL.split_spl (w ++ " " ++ r) " " sep_sp.1 (TL.kind_ok sep_sp.2)
  have e2 : TL.spl (TL.tl (Str.ofString " ")) 0 [] (TL.tl (w ++ " " ++ r)) = TL.tl w :: TL.spl [32] 0 [] (TL.tl r) := by
    rw [TL.tl_append, TL.tl_append, hs, List.append_assoc]
    have := TL.spl_part1 (s := 32) (S := []) (p := TL.tl w) (rest := TL.tl r) (acc := []) hw
    simpa using this
  rw [e2] at e
  cases h : Txt.split (w ++ " " ++ r) " " with
  | nil => rw [h] at e; cases e
  | cons x ws =>
    rw [h, List.map_cons] at e
    injection e with e3 _
    exact ⟨ws, by rw [TL.ext_tl e3]⟩
end L2.K9
set_option maxHeartbeats 4000000
namespace L2.K9
open PySem PySem.Spec PyProof.Rows He
/-! ### a written dict's get, any text -/
def mapK (L : List (Str × Str)) : List (Key × V) := L.map fun p => (.inr p.1, .str p.2)
theorem forms_eq : forms = mapK formsL := rfl
theorem ekv_some {e : DictEntry} {p : Str × Str} (h : ekv e = some p) : ∃ t u, e.key = .str p.1 t ∧ e.val = .str p.2 u := by
  unfold ekv at h
  split at h
  · rename_i x t y u hk hv
    cases h
    exact ⟨t, u, hk, hv⟩
  · cases h
theorem find_wd (z : Str) : ∀ (l : List DictEntry) (L : List (Str × Str)), l.map ekv = L.map some → RelV (getK (mapK L) z) (((l.find? fun e => Value.isStrOf z e.key).map (·.val)).getD .none)
  | [], [], _ => rfl
  | [], _ :: _, h => by cases h
  | _ :: _, [], h => by cases h
  | e :: l, p :: L, h => by
    rw [List.map_cons, List.map_cons] at h
    injection h with h1 h2
    obtain ⟨t, u, hk, hv⟩ := ekv_some h1
    have ih := find_wd z l L h2
    rw [List.find?_cons, hk]
    by_cases c : z = p.1
    · have e1 : Value.isStrOf z (.str p.1 t) = true := by rw [c]; unfold Value.isStrOf; simp
      rw [e1]
      have e2 : getK (mapK (p :: L)) z = .str p.2 := by
        unfold getK valV mapK
        rw [List.map_cons, List.find?_cons, c]
        simp
      rw [e2]
      show RelV (.str p.2) e.val
      rw [hv]
      exact ⟨u, rfl⟩
    · have e1 : Value.isStrOf z (.str p.1 t) = false := by unfold Value.isStrOf; simp; exact fun h => c h.symm
      rw [e1]
      have e2 : getK (mapK (p :: L)) z = getK (mapK L) z := by
        unfold getK valV mapK
        rw [List.map_cons, List.find?_cons]
        have : ¬ (Sum.inr p.1 : Key) = Sum.inr z := fun h => c (Sum.inr.inj h).symm
        simp [this]
      rw [e2]
      exact ih
def tWGet (L : List (Str × Str)) (te : TE) : TE := fun σ H Q => te σ H fun y H1 => ∃ z : Str, y = .str z ∧ Q (getK (mapK L) z) H1
section
variable {X : Cx} {o e : Expr} {apos cpos : Pos} {to te : TE} {d : Addr} {L : List (Str × Str)}
/-- d.get(k) -/
theorem pe_wget (D : WDict X.w X.K d L) (ho : PE X o (tC (.ref d))) (he : PE X e te) (m : M1 X o "get" apos e cpos) : PE X (.Call (.Attribute o "get" apos) [e] [] cpos) (tWGet L te) := by
  obtain ⟨es, n, D, hL⟩ := D
  refine ⟨fun pins s σ H Q I h => ?_⟩
  refine wpAny_Call_method m.base m.few m.line PySem.F.plainAttrs_dict PySem.F.slot_dict_get PySem.F.type_dict_get (thn (ho.run pins s σ H (fun x H1 => x = .ref d ∧ te σ H1 fun y H2 => ∃ z : Str, y = .str z ∧ Q (getK (mapK L) z) H2) I ⟨rfl, h⟩) fun u s1 ⟨x, H1, I1, rx, ex, q1⟩ => ?_)
  subst ex
  obtain rfl : u = Value.ref d := rx
  have hm := PySem.W.mapOf_K (prog := X.prog) (w := X.w) I1.kIn D.at_ D.lit
  refine ⟨hm.typeIs, fun b q => ?_, ?_⟩
  · cases q
    exact ⟨_, I1.kIn _ _ D.at_, rfl⟩
  rw [m.trees]
  refine wpAny_dict_get1 (knd := strKind X.prog X.w) D.low (thn (he.run pins s1 σ H1 _ I1 q1) fun iv s2 ⟨y, H2, I2, ry, z, ey, q2⟩ => ?_)
  subst ey
  obtain ⟨t, rfl⟩ := ry
  refine ⟨z, _, PySem.strKind_is X.prog X.w z t, PySem.W.mapOf_K (prog := X.prog) I2.kIn D.at_ D.lit, _, H2, I2.tok _, ?_, q2⟩
  have := find_wd z es.toList L hL
  unfold PySem.findBy
  rw [← Array.find?_toList]
  exact this
end
end L2.K9
set_option maxHeartbeats 4000000
/-! list != list whose items have an own ==; xs == [] -/
namespace PySem.K9N
open PySem PySem.SeqAt GQ

open MeetsSeq MeetsSeq2 MeetsSeq3 SeqRoads2
section
variable {prog : Program} {w : World} {A : Around} {R : Result → Shared → Prop}
theorem lp (l b : Addr) (N : Nat) (I : Nat → Shared → Prop) (hl : ListI prog w A (fun e s' => R (.error e) s') l b N I) (fin : ∀ s, I N s → R (.ok (.ret (.bool false))) s) (m : Nat) :
    ∀ j : Nat, N = j + m → ∀ s, I j s → wpAny (model prog w) A.in1 (Builtin.«list.__eq__.loop» ⟨[.ref l, .ref b, rawInt j, rawInt 3], []⟩) (FinOf prog w A R) (fun e s' => R (.error e) s') s := by
  induction m with
  | zero =>
    intro j hj s h
    obtain ⟨xs, ys, n, n2, g1, g2, z1, z2, _⟩ := hl _ _ h
    have q : R (.ok (.ret (.bool false))) s := fin s (by rw [hj]; exact h)
    have o1 : xs[((j : Nat) : Int).toNat]? = none := by simp; omega
    have o2 : ys[((j : Nat) : Int).toNat]? = none := by simp; omega
    obtain ⟨hp, gg, dd, tk, os⟩ := s
    wp_walk using AutoSeq1.wpAny_loadPart' g1, AutoSeq1.wpAny_loadPart' g2
    rw [o1, o2]
    wp_walk using AutoSeq1.wpAny_loadPart' g1, AutoSeq1.wpAny_loadPart' g2
    show R (.ok (.ret (.bool (xs.size != ys.size)))) _
    rw [z1, z2]
    simpa using q
  | succ m ih =>
    intro j hj s h
    obtain ⟨xs, ys, n, n2, g1, g2, z1, z2, turn⟩ := hl _ _ h
    have b1 : j < xs.size := by omega
    have b2 : j < ys.size := by omega
    have tt := turn b1 b2
    have o1 : xs[((j : Nat) : Int).toNat]? = some xs[j] := by simp [b1]
    have o2 : ys[((j : Nat) : Int).toNat]? = some ys[j] := by simp [b2]
    have nx : ((j : Int) + 1) = ((j + 1 : Nat) : Int) := by omega
    obtain ⟨hp, gg, dd, tk, os⟩ := s
    wp_walk using AutoSeq1.wpAny_loadPart' g1, AutoSeq1.wpAny_loadPart' g2
    rw [o1, o2]
    refine wpAny_bind (wpAny_mono tt (fun r s2 q => ?_) fun _ _ x => x)
    obtain ⟨er, q⟩ := q
    subst er
    have again := ih (j + 1) (by omega) s2 q
    obtain ⟨hp2, gg2, dd2, tk2, os2⟩ := s2
    wp_walk
    rw [nx]
    exact ⟨plainId_quiet plain_eq_loop _, codeAny_builtin entry_eq_loop (by
      rw [Around.under_plainId plain_eq_loop _]
      exact again)⟩
theorem body (l b : Addr) (N : Nat) (I : Nat → Shared → Prop) (hl : ListI prog w A (fun e s' => R (.error e) s') l b N I) (fin : ∀ s, I N s → R (.ok (.ret (.bool false))) s) {s : Shared} (h : I 0 s) :
    wpAny (model prog w) A.in1 (Builtin.«list.__ne__» ⟨[.ref l, .ref b], []⟩) (FinOf prog w A R) (fun e s' => R (.error e) s') s := by
  obtain ⟨xs, ys, n, n2, g1, g2, z1, z2, _⟩ := hl _ _ h
  have again := lp (A := A) (R := R) l b N I hl fin N 0 (by omega) s h
  have f3 := AutoSeq1.sub_list_list
  have ne : ¬ (xs.size != ys.size) = true := by simp [z1, z2]
  obtain ⟨hp, gg, dd, tk, os⟩ := s
  wp_walk using AutoSeq1.wpAny_loadPart' g1, AutoSeq1.wpAny_loadPart' g2
  exact ⟨plainId_quiet plain_eq_loop _, codeAny_builtin entry_eq_loop (by
    rw [Around.under_plainId plain_eq_loop _]
    exact again)⟩
end
section
variable {prog : Program} {w : World} {A : Around} {E : Value → Shared → Prop} {s : Shared}
theorem rc {l b : Addr} {N : Nat} {Q : Value → Shared → Prop} (hu : A.units < cLine) (I : Nat → Shared → Prop) (hl : ListI prog w A E l b N I)
    (fin : ∀ s, I N s → Q (.bool false) s) (h : I 0 s) : wpAny (model prog w) A (richCompare .NotEq (.ref l) (.ref b)) Q E s := by
  obtain ⟨xs, ys, n, n2, g1, g2, _, _, _⟩ := hl _ _ h
  refine wpAny_richCompare_same_room (op := .NotEq) ⟨_, g1, rfl⟩ ⟨_, g2, rfl⟩ F.slot_list_ne (call_here F.slot_list_ne ⟨_, g1, rfl⟩ F.entry_list_ne (F.args_list_ne_2 _ _) ?_) hu
  exact body (R := wants (fun v s' => v ≠ .notImplemented ∧ Q v s') E) l b N I hl (fun s' q => ⟨(fun x => nomatch x), fin s' q⟩) h
end
end PySem.K9N
namespace L2.K9
open PySem PySem.Spec PyProof.Rows He
section
variable {X : Cx} {n : Nat} {D : Eqv}
def rNeG (D : Eqv) : R2 := fun x y H Q => D x y H ∧ ∀ H', Ext H H' → Q (.bl false) H'
theorem op_neG (hD : Mon D) (h : EqG X n D) (hr : Room (n + 1) X.A) : OpR X (compareOp .NotEq) (rNeG (DList D)) := by
  intro pins s σ H x y v u Q I rx ry hq
  obtain ⟨d, q⟩ := hq
  obtain ⟨a, b, xs, ys, rfl, rfl, ha, hb, p⟩ := d
  cases rx
  cases ry
  show wpAny (model X.prog X.w) X.A (richCompare .NotEq (.ref a) (.ref b)) (EP X pins σ Q) X.xe s
  refine PySem.K9N.rc (N := xs.length) hr.units0 (fun _ s' => LoopI X pins σ H s') (fun i s' z => ?_) (fun s' ⟨H', I', e'⟩ => ⟨.bl false, H', I', rfl, q H' e'⟩) ⟨H, I, Ext.rfl'⟩
  obtain ⟨H1, I1, e1⟩ := id z
  obtain ⟨_, its, k, r, e⟩ := I1.hok a _ (e1 _ _ ha)
  obtain ⟨_, its2, k2, r2, e2⟩ := I1.hok b _ (e1 _ _ hb)
  refine ⟨its.toArray, its2.toArray, k, k2, e, e2, by rw [List.size_toArray, ← r.length], by rw [List.size_toArray, ← r2.length, ← p.1], fun h1 h2 => ?_⟩
  exact turnG hD h ⟨hr, rfl⟩ p r r2 i h1 h2 s' z
/-- xs == [] | xs != [] -/
def rEqE (K : PySem.W.Frag) : R2 := fun x y H Q => ∃ a b xs, x = .ref a ∧ y = .ref b ∧ SqL K H a xs ∧ SqL K H b [] ∧ Q (.bl (decide (xs = []))) H
def rNeE (K : PySem.W.Frag) : R2 := fun x y H Q => ∃ a b xs, x = .ref a ∧ y = .ref b ∧ SqL K H a xs ∧ SqL K H b [] ∧ Q (.bl (!decide (xs = []))) H
theorem op_eqE (hu : X.A.units < cLine) : OpR X (compareOp .Eq) (rEqE X.K) := by
  intro pins s σ H x y v u Q I rx ry h
  obtain ⟨a, b, xs, rfl, rfl, ha, hb, q⟩ := h
  cases rx
  cases ry
  obtain ⟨i1, r1, p1, _⟩ := I.list ha
  obtain ⟨i2, r2, p2, _⟩ := I.list hb
  cases r2
  cases r1 with
  | nil => exact PySem.SeqAt.eq_listAt (e := fun _ => true) p1.isList p2.isList rfl hu (fun j h1 h2 => by simp at h1) ⟨.bl true, H, I, rfl, q⟩
  | cons a b => exact PySem.SeqAt.eq_list_lengthsAt p1.isList p2.isList (by simp) hu ⟨.bl false, H, I, rfl, q⟩
theorem op_neE (hu : X.A.units < cLine) : OpR X (compareOp .NotEq) (rNeE X.K) := by
  intro pins s σ H x y v u Q I rx ry h
  obtain ⟨a, b, xs, rfl, rfl, ha, hb, q⟩ := h
  cases rx
  cases ry
  obtain ⟨i1, r1, p1, _⟩ := I.list ha
  obtain ⟨i2, r2, p2, _⟩ := I.list hb
  cases r2
  cases r1 with
  | nil => exact PySem.SeqAt.RcNeAt.lists (e := fun _ => true) p1.isList p2.isList rfl hu (fun j h1 h2 => by simp at h1) X.prog X.w _ _ ⟨.bl false, H, I, rfl, q⟩
  | cons a b => exact PySem.SeqAt.RcNeAt.lists_lengths p1.isList p2.isList (by simp) hu X.prog X.w _ _ ⟨.bl true, H, I, rfl, q⟩
end
end L2.K9
set_option maxHeartbeats 4000000
/-! walks whose turns are new tuples: enumerate(xs, k), zip(text, xs) -/
namespace L2.K9
open PySem PySem.Spec PyProof.Rows He
theorem turn_T {P : Program} {w : World} {K : PySem.W.Frag} {elts : List Expr} {kk : Nat} {tpos : Pos} {J : It} {it : Addr} {ch : List Addr} {tn : Nat → Heap → Prop} (hmem : it ∈ ch)
    (hobj : ∀ i h, tn i h → ∀ b ∈ ch, ∃ o, h.get? b = some o ∧ ∀ v, o.data ≠ .cell v) (hkeep : ∀ i h h', tn i h → (∀ b ∈ ch, ∀ o, h.get? b = some o → h'.get? b = some o) → tn i h')
    (hitem : ∀ (X : Cx), X.prog = P → X.w = w → X.K = K → X.calm = true → ∀ (i : Nat) (pins : List (Addr × Obj)) (s : Shared) (σ : St) (H : Hp), Inv X pins σ H s → tn i s.heap → J.go i H →
      ∃ (fp wr : List Addr) (n : Nat) (Pt : Nat → Array Value → Prop) (St : Nat → Heap → Prop) (Mid : Nat → Addr → Heap → Prop), WalksT P w X.A it fp wr n Pt St Mid ∧ i < n ∧ St i s.heap ∧ (∀ b ∈ wr, b ∈ ch) ∧ (∀ h, St (i + 1) h → tn (i + 1) h) ∧
        ∀ vals, Pt i vals → ∃ vs : List V, vs.length ≤ 1000 ∧ Vals vs vals.toList ∧ ∀ T, H T = none → J.yld i H (.ref T) (upd H T (.tup vs)))
    (hdone : ∀ (X : Cx), X.prog = P → X.w = w → X.K = K → X.calm = true → ∀ (i : Nat) (pins : List (Addr × Obj)) (s : Shared) (σ : St) (H : Hp), Inv X pins σ H s → tn i s.heap → J.stop i H →
      ∃ (fp wr : List Addr) (n : Nat) (Pt : Nat → Array Value → Prop) (St : Nat → Heap → Prop) (Mid : Nat → Addr → Heap → Prop), WalksT P w X.A it fp wr n Pt St Mid ∧ St n s.heap ∧ ∀ b ∈ wr, b ∈ ch)
    (hself : ∀ (A : Around) (i : Nat) (s : Shared) (Q : Value → Shared → Prop) (E : Value → Shared → Prop), tn i s.heap → Q (.ref it) s → wpAny (model P w) A (pyIter (.ref it)) Q E s) :
    Turn P w K (.Tuple elts kk tpos) J ch it tn where
  mem := hmem
  obj := hobj
  keep := hkeep
  item := by
    intro X hP hw hK hc i pins s σ H E I hf st hg
    obtain ⟨fp, wr, n, Pt, St, Mid, W, hi, st1, hwr, hst, hv⟩ := hitem X hP hw hK hc i pins s σ H I st hg
    subst hP hw hK
    refine W.item i s _ _ hi st1 fun T vals h' tk hp hT hTup hm hk => ?_
    refine ⟨_, rfl, W.go elts kk tpos i T { s with heap := h', toks := tk } _ _ hm fun h'' st2 hk2 => ?_⟩
    obtain ⟨vs, hl, rv, hy⟩ := hv vals hp
    have hn : H T = none := I.hok.fresh hT
    have hT2 : h''.IsTuple T vals := hTup.at fun o e => hk2 T o (W.apart i T h' hm) e
    have new : ObjOk X.prog X.w (upd H T (.tup vs)) h'' T (.tup vs) := ⟨by rw [sizeLine_eq]; omega, vals.toList, rv, (by rw [Array.toArray_toList]; exact hT2)⟩
    have I1 : Inv X pins σ (upd H T (.tup vs)) { s with heap := h'', toks := tk } :=
      I.turnedNew (ch := ch) (fun b o hb e => hk2 b o (fun z => hb (hwr b z)) (hk b o (fun z => hb (hwr b z)) e)) hf hT new
    refine ⟨.ref T, _, I1, rfl, hy T hn, hst _ st2, fun b hb => ?_⟩
    have hb0 := (hf b hb).1
    have hne : b ≠ T := fun z => by
      obtain ⟨o, e, _⟩ := hobj i s.heap st b hb
      exact absurd (Heap.lt_size e) (by rw [z]; exact Nat.not_lt.mpr hT)
    rw [upd_ne hne]
    exact hb0
  done := by
    intro X hP hw hK hc i pins s σ H E I hf st hg
    obtain ⟨fp, wr, n, Pt, St, Mid, W, st1, hwr⟩ := hdone X hP hw hK hc i pins s σ H I st hg
    subst hP hw hK
    refine W.done s _ _ st1 fun h' tk hk => ⟨rfl, ?_⟩
    exact I.turnedL (t' := tk) (ch := ch) (fun c o hb q => hk c o (fun z => hb (hwr c z)) q) hf
  self := hself
/-! ### enumerate(xs, k) -/
def Itek (K : PySem.W.Frag) (k : Int) (a : Addr) : It :=
  ⟨fun i H => ∃ (xs : List V) (x : V), SqL K H a xs ∧ xs[i]? = some x, fun i H v H' => ∃ T x, v = .ref T ∧ H T = none ∧ H' = upd H T (.tup [.int (k + i), x]) ∧ ∀ xs, SqL K H a xs → xs[i]? = some x, fun i H => ∃ xs : List V, SqL K H a xs ∧ i = xs.length⟩
theorem turn_enumk {P : Program} {w : World} {K : PySem.W.Frag} {elts : List Expr} {kk : Nat} {tpos : Pos} {k : Int} (a N : Addr) (ha : (a : Nat) < N) :
    Turn P w K (.Tuple elts kk tpos) (Itek K k a) [N + 1, N] (N + 1) (fun i h => (∃ old, IsEnum h (N + 1) N (k + (i : Int)) old) ∧ h.IsListIter N a i) := by
  have hne : (N + 1 : Nat) ≠ N := Nat.succ_ne_self _
  have haN : a ≠ N := Nat.ne_of_lt ha
  have haN1 : a ≠ N + 1 := Nat.ne_of_lt (Nat.lt_succ_of_lt ha)
  refine turn_T (by simp) (fun i h st b hb => ?_) (fun i h h' st hk => ?_) (fun X hP hw hK hc i pins s σ H I st hg => ?_) (fun X hP hw hK hc i pins s σ H I st hg => ?_) fun A i s Q E st h => ?_
  · obtain ⟨⟨old, he⟩, ⟨o, ho, hc, hd⟩⟩ := st
    have e' : b = N + 1 ∨ b = N := by simpa using hb
    rcases e' with z | z
    · rw [z]; exact ⟨_, he, fun v q => nomatch q⟩
    · rw [z]; exact ⟨o, ho, fun v q => by rw [hd] at q; cases q⟩
  · obtain ⟨⟨old, he⟩, hi⟩ := st
    exact ⟨⟨old, hk _ (by simp) _ he⟩, hi.at fun o q => hk N (by simp) o q⟩
  · subst hP hw hK
    obtain ⟨xs, x, hq, hx⟩ := hg
    obtain ⟨its, rv, p, hz⟩ := I.list hq
    obtain ⟨u, hu, ru⟩ := rv.get hx
    have D := Draws.list (prog := X.prog) (w := X.w) (A := X.A.in1) (I.ok.hd hc) N a haN its.toArray
    have hlt : i < its.toArray.size := by
      have := (List.getElem?_eq_some_iff.mp hu).1
      simpa using this
    refine ⟨_, _, _, _, _, _, WalksT.enumFrom k D (N + 1) hne (by simp; exact fun z => haN1 z.symm) (by simp), hlt, ⟨st.1, st.2, p.isList⟩, fun b hb => hb, fun h hst => ⟨hst.1, hst.2.1⟩, fun vals ⟨t, y, hy, ev⟩ => ?_⟩
    have hyu : y = u := by
      have : its[i]? = some y := by simpa using hy
      rw [hu] at this; exact (Option.some.inj this).symm
    subst ev
    subst hyu
    exact ⟨[.int (k + i), x], by simp, .cons ⟨_, rfl⟩ (.cons ru .nil), fun T hT => ⟨T, x, rfl, hT, rfl, fun ys hy => by rw [I.list_inj hy hq]; exact hx⟩⟩
  · subst hP hw hK
    obtain ⟨xs, hq, hx⟩ := hg
    obtain ⟨its, rv, p, hz⟩ := I.list hq
    have D := Draws.list (prog := X.prog) (w := X.w) (A := X.A.in1) (I.ok.hd hc) N a haN its.toArray
    have hl := rv.length
    have hi : i = its.toArray.size := by rw [hx, hl]; simp
    subst hi
    exact ⟨_, _, _, _, _, _, WalksT.enumFrom k D (N + 1) hne (by simp; exact fun z => haN1 z.symm) (by simp), ⟨st.1, st.2, p.isList⟩, fun b hb => hb⟩
  · obtain ⟨⟨old, he⟩, _⟩ := st
    exact wpAny_pyIter_enum he h
def iEnumk (K : PySem.W.Frag) (ta : TA) : TI := fun σ H R => ta σ H fun vs H1 => ∃ a k xs, vs = [.ref a, .int k] ∧ -1000 ≤ k ∧ k ≤ 1000 ∧ SqL K H1 a xs ∧ R (Itek K k a) H1
theorem pi_enumk {X : Cx} {e e2 : Expr} {ta : TA} {p pos tpos : Pos} {elts : List Expr} {kk : Nat} (hg : Gl X "enumerate") (hm : X.mg "enumerate" = none) (ha : PA X [e, e2] ta)
    (hs : starEach [e, e2] X.env = (false, eval e X.env) :: starEach [e2] X.env := by rfl) (hpl : (backTo pos (starEach [e2] X.env)).any (·.1) = false := by rfl) :
    PI X (.Tuple elts kk tpos) (.Call (.Name "enumerate" p) [e, e2] [] pos) (iEnumk X.K ta) := by
  refine ⟨fun pins s σ H R I h => ?_⟩
  refine Call_ (ld_blt I hg hm boot_enumerate (PyProof.Rows.callWith_type1 (thn (ha.run pos pins s σ H _ I h) fun us s1 ⟨vs, H1, I1, r1, q1⟩ => ?_) hs hpl))
  obtain ⟨a, k, xs, ex, hk0, hk1, hq, q⟩ := q1
  subst ex
  cases r1 with
  | cons r rr =>
    cases rr with
    | cons r' rr =>
      cases rr
      cases r
      obtain ⟨t, rfl⟩ := r'
      obtain ⟨its, rv, p1, _⟩ := I1.list hq
      refine enum_begins (begins_list a its.toArray) p1.isList (by omega) (by omega) fun h' he hit hsz hk => wpAny_pyIter_enum he ?_
      have I2 : Inv X pins σ H1 { s1 with heap := h' } := I1.kept (t' := s1.toks) hk
      refine ⟨s1.heap.objs.size + 1, [s1.heap.objs.size + 1, s1.heap.objs.size], _, _, H1, rfl, I2, turn_enumk a s1.heap.objs.size p1.lt, ⟨⟨.none, by simpa using he⟩, ⟨_, hit, rfl, rfl⟩⟩, fun b hb => ?_, q⟩
      have e' : b = s1.heap.objs.size + 1 ∨ b = s1.heap.objs.size := by simpa using hb
      have hle : s1.heap.objs.size ≤ b := by
        rcases e' with z | z
        · rw [z]; exact Nat.le_add_right _ _
        · rw [z]; exact Nat.le_refl _
      exact I1.fpOk hle (I1.hok.fresh hle)
theorem walk_enumk {K : PySem.W.Frag} {a : Addr} {xs : List V} {k : Int} : Walk (Itek K k a) xs.length (fun H => SqL K H a xs) (YPair (fun i => some (.int (k + i))) (fun i => xs[i]?)) := by
  refine ⟨fun i _ hi q => ⟨xs, xs[i], q, by simp [hi]⟩, fun _ q => ⟨xs, q, rfl⟩, fun i H v H' _ q y => ?_⟩
  obtain ⟨T, x, h1, h2, h3, h4⟩ := y
  exact ⟨T, _, x, h1, h2, h3, rfl, h4 xs q⟩
/-! ### zip(text, xs) -/
def Itzs (K : PySem.W.Frag) (z : Str) (b : Addr) : It :=
  ⟨fun i H => ∃ (ys : List V) (c : Nat) (y : V), SqL K H b ys ∧ z.cps[i]? = some c ∧ ys[i]? = some y,
    fun i H v H' => ∃ T c y, v = .ref T ∧ H T = none ∧ H' = upd H T (.tup [.str ⟨#[c]⟩, y]) ∧ z.cps[i]? = some c ∧ ∀ ys, SqL K H b ys → ys[i]? = some y,
    fun i H => ∃ ys : List V, SqL K H b ys ∧ i = min z.cps.size ys.length⟩
theorem turn_zips {P : Program} {w : World} {K : PySem.W.Frag} {elts : List Expr} {kk : Nat} {tpos : Pos} {x : Str} {t : Tok} (b N : Addr) (hb : (b : Nat) < N) :
    Turn P w K (.Tuple elts kk tpos) (Itzs K x b) [N + 4, N + 2, N + 3, N, N + 1] (N + 4)
      (fun i h => IsZip h (N + 4) (N + 2) (N + 3) .none ∧ IsTupOf2 h (N + 2) (.ref N) (.ref (N + 1)) ∧ (∃ a1 a2, IsTupOf2 h (N + 3) a1 a2) ∧ h.IsStrIter N (strIterType x) x t i ∧ h.IsListIter (N + 1) b i) := by
  have S : ZipSep2 (N + 4) (N + 2) (N + 3) N (N + 1) (N :: []) ((N + 1) :: [b]) := zip_sep2 (by simp) (by simpa using hb)
  have hbN : b ≠ N + 1 := Nat.ne_of_lt (Nat.lt_succ_of_lt hb)
  refine turn_T (by simp) (fun i h st c hc => ?_) (fun i h h' st hk => ?_) (fun X hP hw hK hc i pins s σ H I st hg => ?_) (fun X hP hw hK hc i pins s σ H I st hg => ?_) fun A i s Q E st h => ?_
  · obtain ⟨hz, hTI, ⟨a1, a2, hTO⟩, ⟨o1, e1, _, d1⟩, ⟨o2, e2, _, d2⟩⟩ := st
    have e' : c = N + 4 ∨ c = N + 2 ∨ c = N + 3 ∨ c = N ∨ c = N + 1 := by simpa using hc
    rcases e' with q | q | q | q | q
    · rw [q]; exact ⟨_, hz, fun v q => nomatch q⟩
    · rw [q]; exact ⟨_, hTI, fun v q => nomatch q⟩
    · rw [q]; exact ⟨_, hTO, fun v q => nomatch q⟩
    · rw [q]; exact ⟨o1, e1, fun v q => by rw [d1] at q; cases q⟩
    · rw [q]; exact ⟨o2, e2, fun v q => by rw [d2] at q; cases q⟩
  · obtain ⟨hz, hTI, ⟨a1, a2, hTO⟩, ⟨o1, e1, c1, d1⟩, h2⟩ := st
    exact ⟨hk _ (by simp) _ hz, hk _ (by simp) _ hTI, ⟨a1, a2, hk _ (by simp) _ hTO⟩, ⟨o1, hk _ (by simp) _ e1, c1, d1⟩, h2.at fun o q => hk _ (by simp) o q⟩
  · subst hP hw hK
    obtain ⟨ys, c, y, hq, hc1, hy⟩ := hg
    obtain ⟨its, rv, p, hz⟩ := I.list hq
    obtain ⟨u, hu, ru⟩ := rv.get hy
    have D1 := Draws.text (prog := X.prog) (w := X.w) (A := X.A.in1) (I.ok.hd hc) N x t
    have D2 := Draws.list (prog := X.prog) (w := X.w) (A := X.A.in1) (I.ok.hd hc) (N + 1) b hbN its.toArray
    have l1 : i < x.cps.size := (Array.getElem?_eq_some_iff.mp hc1).1
    have l2 : i < its.toArray.size := by
      have := (List.getElem?_eq_some_iff.mp hu).1
      simpa using this
    obtain ⟨hz1, hTI, hTO, st1, st2⟩ := st
    refine ⟨_, _, _, _, _, _, WalksT.zipD2 S D1 D2, by omega, ⟨hz1, hTI, hTO, st1, st2, p.isList⟩, fun b hb => ?_, fun h hst => ⟨hst.1, hst.2.1, hst.2.2.1, hst.2.2.2.1, hst.2.2.2.2.1⟩, fun vals ⟨x1, x2, ⟨c', u', hc', ex⟩, h2, ev⟩ => ?_⟩
    · have hb' : b = N + 4 ∨ b = N + 3 ∨ b = N ∨ b = N + 1 := by simpa using hb
      rcases hb' with e | e | e | e <;> rw [e] <;> simp
    · have e1 : c' = c := by rw [hc1] at hc'; exact (Option.some.inj hc').symm
      have e2 : x2 = u := by
        have : its[i]? = some x2 := by simpa using h2
        rw [hu] at this; exact (Option.some.inj this).symm
      subst e1 e2 ex ev
      exact ⟨[.str ⟨#[c']⟩, y], by simp, .cons ⟨_, rfl⟩ (.cons ru .nil), fun T hT => ⟨T, c', y, rfl, hT, rfl, hc1, fun l hl => by rw [I.list_inj hl hq]; exact hy⟩⟩
  · subst hP hw hK
    obtain ⟨ys, hq, hy⟩ := hg
    obtain ⟨its, rv, p, hz⟩ := I.list hq
    have D1 := Draws.text (prog := X.prog) (w := X.w) (A := X.A.in1) (I.ok.hd hc) N x t
    have D2 := Draws.list (prog := X.prog) (w := X.w) (A := X.A.in1) (I.ok.hd hc) (N + 1) b hbN its.toArray
    have hl := rv.length
    have hi : i = min x.cps.size its.toArray.size := by rw [hy, hl]; simp
    subst hi
    obtain ⟨hz1, hTI, hTO, st1, st2⟩ := st
    refine ⟨_, _, _, _, _, _, WalksT.zipD2 S D1 D2, ⟨hz1, hTI, hTO, st1, st2, p.isList⟩, fun b hb => ?_⟩
    have hb' : b = N + 4 ∨ b = N + 3 ∨ b = N ∨ b = N + 1 := by simpa using hb
    rcases hb' with e | e | e | e <;> rw [e] <;> simp
  · exact wpAny_pyIter_zip st.1 h
def iZips (K : PySem.W.Frag) (ta : TA) : TI := fun σ H R => ta σ H fun vs H1 => ∃ z b ys, vs = [.str z, .ref b] ∧ SqL K H1 b ys ∧ R (Itzs K z b) H1
theorem pi_zips {X : Cx} {e e2 : Expr} {ta : TA} {p pos tpos : Pos} {elts : List Expr} {kk : Nat} (hg : Gl X "zip") (hm : X.mg "zip" = none) (ha : PA X [e, e2] ta)
    (hs : starEach [e, e2] X.env = (false, eval e X.env) :: starEach [e2] X.env := by rfl) (hpl : (backTo pos (starEach [e2] X.env)).any (·.1) = false := by rfl) :
    PI X (.Tuple elts kk tpos) (.Call (.Name "zip" p) [e, e2] [] pos) (iZips X.K ta) := by
  refine ⟨fun pins s σ H R I h => ?_⟩
  refine Call_ (ld_blt I hg hm PyProof.Rows.boot_zip (PyProof.Rows.callWith_type1 (thn (ha.run pos pins s σ H _ I h) fun us s1 ⟨vs, H1, I1, r1, q1⟩ => ?_) hs hpl))
  obtain ⟨z, b, ys, ex, hq, q⟩ := q1
  subst ex
  cases r1 with
  | cons r rr =>
    cases rr with
    | cons r' rr =>
      cases rr
      cases r'
      obtain ⟨t, rfl⟩ := r
      obtain ⟨its, rv, p1, _⟩ := I1.list hq
      refine zip_begins2 (begins_text z t) (begins_list b its.toArray) trivial p1.isList fun h' hz hTI hTO h1 h2 hsz hk => wpAny_pyIter_zip hz ?_
      have I2 : Inv X pins σ H1 { s1 with heap := h' } := I1.kept (t' := s1.toks) hk
      refine ⟨s1.heap.objs.size + 4, [s1.heap.objs.size + 4, s1.heap.objs.size + 2, s1.heap.objs.size + 3, s1.heap.objs.size, s1.heap.objs.size + 1], _, _, H1, rfl, I2, turn_zips (t := t) b s1.heap.objs.size p1.lt, ⟨hz, hTI, ⟨_, _, hTO⟩, ⟨_, h1, rfl, rfl⟩, ⟨_, h2, rfl, rfl⟩⟩, fun c hcm => ?_, q⟩
      have e' : c = s1.heap.objs.size + 4 ∨ c = s1.heap.objs.size + 2 ∨ c = s1.heap.objs.size + 3 ∨ c = s1.heap.objs.size ∨ c = s1.heap.objs.size + 1 := by simpa using hcm
      have hle : s1.heap.objs.size ≤ c := by
        rcases e' with z | z | z | z | z
        · rw [z]; exact Nat.le_add_right _ _
        · rw [z]; exact Nat.le_add_right _ _
        · rw [z]; exact Nat.le_add_right _ _
        · rw [z]; exact Nat.le_refl _
        · rw [z]; exact Nat.le_add_right _ _
      exact I1.fpOk hle (I1.hok.fresh hle)
theorem walk_zips {K : PySem.W.Frag} {z : Str} {b : Addr} {ys : List V} : Walk (Itzs K z b) (min z.cps.size ys.length) (fun H => SqL K H b ys) (YPair (fun i => z.cps[i]?.map fun c => V.str ⟨#[c]⟩) (fun i => ys[i]?)) := by
  refine ⟨fun i _ hi q => ?_, fun _ q => ⟨ys, q, rfl⟩, fun i H v H' _ q y => ?_⟩
  · have h1 : i < z.cps.size := by omega
    have h2 : i < ys.length := by omega
    exact ⟨ys, z.cps[i], ys[i], q, by simp [h1], by simp [h2]⟩
  · obtain ⟨T, c, y, h1, h2, h3, h4, h5⟩ := y
    exact ⟨T, _, y, h1, h2, h3, by simp [h4], h5 ys q⟩
end L2.K9
set_option maxHeartbeats 4000000
/-! a, *b = xs -/
namespace L2.K9
open PySem PySem.Spec PyProof.Rows He
section
variable {prog : Program} {w : World} {A : Around} {E : Value → Shared → Prop} {s : Shared} {env : Env} {elts : List Expr} {k : Nat} {pos : Pos}
theorem star1 {l : Addr} {items : Array Value} {Q : Unit → Shared → Prop} (hl : s.heap.IsList l items) (hh : A.handled = none) (hlen : (assignEach elts env).length = 2) (hstar : (assignEach elts env).findIdx? (·.1) = some 1)
    (h1 : 1 ≤ items.size) (hz : items.size ≤ sizeLine)
    (h : ∀ (g : Heap) (tk : Nat), (∀ b o, s.heap.get? b = some o → g.get? b = some o) →
      wpAny (model prog w) A (assignInOrder ((assignEach elts env).map (·.2)) (items.toList.take 1 ++ [.ref g.objs.size])) Q E { s with heap := g.push { cls := .type "list", data := .seq (items.toList.drop 1).toArray }, toks := tk }) :
    wpAny (model prog w) A (assign (.Tuple elts k pos) env (.ref l)) Q E s := by
  rw [assign_Tuple]
  refine wpAny_bind (wpAny_standAt ?_)
  unfold unpack
  rw [hlen, hstar]
  refine wpAny_bind (wpAny_holding ?_)
  have hll : l < s.heap.objs.size := by obtain ⟨o, ho, _⟩ := hl; exact Heap.lt_size ho
  have hlt : l ≠ s.heap.objs.size := Nat.ne_of_lt hll
  unfold unpackItems
  refine wpAny_bind ?_
  unfold notIterableAtAll
  refine wpAny_bind (wpAny_specialOf hl.typeIs slot_list_iter.lookup ?_)
  refine wpAny_pure ?_
  simp only [Bool.false_eq_true, if_false]
  refine wpAny_bind (wpAny_holding (wpAny_pyIter_list hl ?_))
  refine wpAny_bind (wpAny_holding (PySem.W.kun_draw hlt 1 0 _ _ ⟨_, Heap.get?_push_size _ rfl, rfl, rfl⟩ (hl.push _) (by omega) fun g1 it1 sb1 => ?_))
  have hl1 : g1.IsList l items := (hl.push _).extBut sb1.extBut hlt
  rw [Nat.zero_add] at it1
  obtain ⟨oi, hoi, _⟩ := id it1
  obtain ⟨ol, hol, _⟩ := id hl1
  rw [List.drop_zero]
  have hfl : (items.toList.take 1).length = 1 := by rw [List.length_take, Array.length_toList]; omega
  rw [if_neg (show ¬ ((items.toList.take 1).length < 1) by rw [hfl]; omega)]
  refine wpAny_bind (wpAny_holding (PySem.W.kun_collect (s := { s with heap := g1 }) (T := "list_iterator") (.inr (.inr (.inl rfl))) (Walks.list (A := A.in1) hh s.heap.objs.size l hlt items) (fun j u st => st.1.typeIs) (k := 1) h1 ⟨it1, hl1⟩ (Heap.lt_size hoi) (Heap.lt_size hol) (fun g2 tk hk => ?_) hz))
  have hrl : (items.toList.drop 1).length = items.size - 1 := by rw [List.length_drop, Array.length_toList]
  show wpAny _ _ (if (items.toList.drop 1).length < 0 then _ else _) _ _ _
  rw [if_neg (Nat.not_lt_zero _)]
  show wpAny _ _ (newList ((items.toList.drop 1).take ((items.toList.drop 1).length - 0)) >>= fun d => pure (items.toList.take 1 ++ [d] ++ (items.toList.drop 1).drop ((items.toList.drop 1).length - 0))) _ _ _
  rw [Nat.sub_zero, List.take_length, List.drop_length]
  have up : ∀ b o, s.heap.get? b = some o → g2.get? b = some o := fun b o e =>
    hk b o (Nat.ne_of_lt (Heap.lt_size e)) (sb1.extBut b o (Nat.ne_of_lt (Heap.lt_size e)) (Heap.get?_push_of_some _ e))
  refine wpAny_bind (wpAny_newList (wpAny_pure ?_) (by rw [hrl]; omega))
  rw [List.append_nil]
  exact h g2 tk up
end
/-- x, *y = xs -/
def gStar (K : PySem.W.Frag) (g1 g2 : TG) : TG := fun v σ H Q => ∃ a x xs, v = .ref a ∧ SqL K H a (x :: xs) ∧ ∀ p, H p = none → g1 x σ (upd H p (.lst xs)) fun σ1 H1 => g2 (.ref p) σ1 H1 Q
theorem pg_star {X : Cx} {e1 e2 : Expr} {g1 g2 : TG} {k : Nat} {p pos : Pos} (hc : X.calm = true) (h1 : PG X e1 g1) (h2 : PG X e2 g2) (hlen : (assignEach [e1, .Starred e2 p] X.env).length = 2 := by rfl)
    (hst : (assignEach [e1, .Starred e2 p] X.env).findIdx? (·.1) = some 1 := by rfl) (hm : (assignEach [e1, .Starred e2 p] X.env).map (·.2) = [assign e1 X.env, assign e2 X.env] := by rfl) :
    PG X (.Tuple [e1, .Starred e2 p] k pos) (gStar X.K g1 g2) := by
  refine ⟨fun pins s σ H v u Q I r hw => ?_⟩
  obtain ⟨a, x, xs, ev, hq, hw⟩ := hw
  subst ev
  cases r
  obtain ⟨its, rv, p1, hz⟩ := I.list hq
  cases rv with
  | @cons _ u0 _ ur r0 rr =>
    have rl := rr.length
    have hz2 : ur.length + 1 ≤ sizeLine := by rw [← rl]; exact hz
    refine star1 p1.isList (I.ok.hd hc) hlen hst (by simp) (by simpa using hz2) fun g tk up => ?_
    rw [hm]
    have I1 : Inv X pins σ H { s with heap := g, toks := tk } := I.kept (t' := tk) up
    have hn : H g.objs.size = none := I1.hok.fresh (Nat.le_refl _)
    have I2 : Inv X pins σ (upd H g.objs.size (.lst xs)) { s with heap := g.push { cls := .type "list", data := .seq ur.toArray }, toks := tk } :=
      I1.laid (t' := tk) (fun b o e => Heap.get?_push_of_some _ e) (Nat.le_refl _) ⟨by rw [rl]; omega, _, 0, rr, Heap.get?_push_size _ rfl⟩
    refine assignInOrder_cons (thn (h1.run pins _ σ _ _ _ _ I2 r0 (hw _ hn)) fun _ s1 ⟨σ1, H1, I3, q1⟩ => ?_)
    refine assignInOrder_cons (thn (h2.run pins s1 σ1 H1 (.ref g.objs.size) _ _ I3 rfl q1) fun _ s2 ⟨σ2, H2, I4, q2⟩ => ?_)
    exact assignInOrder_nil ⟨σ2, H2, I4, q2⟩
end L2.K9
set_option maxHeartbeats 4000000
/-! try .. except (A, B, C): every exception of the body is one of the three -/
namespace L2.K9
open PySem PySem.Spec PyProof.Rows He
theorem fly_on {B h h' : Heap} {l : List Env} {a : Addr} {Z : Obj → Prop} (x : HandSPX.FlyingZ B l a Z h) (k : ∀ b o, h.get? b = some o → h'.get? b = some o) : HandSPX.FlyingZ B l a Z h' := by
  obtain ⟨x1, x2, x3, oe, vs, T, oT, ts, y1, y2, y3, y4, y5, y6, y7, y8, y9⟩ := x
  exact ⟨fun b o e => k b o (x1 b o e), x2, x3.of_keeps fun b o e _ => ⟨o, k b o e, rfl⟩, oe, vs, T, oT, ts, k _ _ y1, y2, y3, y4, y5, y6, k _ _ y7, y8, y9⟩
/-- what is wished of an exception of the body -/
def wTri (K : PySem.W.Frag) (cs : List Value) (ts : TS) (D : Ends) : WX := fun cls _ σ H => PySem.W.exmAny K cls cs = some true ∧ ts D σ H
section
variable {X : Cx} {x1 x2 x3 : Str} {c1 c2 c3 : Value} {body suite : List Stmt} {b₀ : Stmt} {p1 p2 p3 tpos pos pos' : Pos} {kk : Nat} {tb : WX → TS} {ts : TS}
theorem ps_try3 (hs : X.stack = X.env :: X.outer) (hf : X.env.frame = some X.env.locals) (n1 : Gl X x1 ∧ (x1 == ("__debug__" : Str)) = false ∧ X.mg x1 = some c1) (n2 : Gl X x2 ∧ (x2 == ("__debug__" : Str)) = false ∧ X.mg x2 = some c2) (n3 : Gl X x3 ∧ (x3 == ("__debug__" : Str)) = false ∧ X.mg x3 = some c3)
    (hb : ∀ (W : WX) (pn : List (Addr × Obj)) (xe : Value → Shared → Prop), Takes (X.tr pn xe) W → PassesOwn (model X.prog X.w) X.A X.env xe → PSs (X.tr pn xe) body (tb W))
    (hsu : ∀ (a : Addr) (oe : Obj) (pn : List (Addr × Obj)), PSs (X.suite a ((a, oe) :: pn)) (b₀ :: suite) ts) :
    PS X (.Try body [.ExceptHandler (some (.Tuple [.Name x1 p1, .Name x2 p2, .Name x3 p3] kk tpos)) none (b₀ :: suite) pos'] [] [] pos) (fun D σ H => tb (wTri X.K [c1, c2, c3] ts D) D σ H) := by
  refine ⟨fun pins s σ H D I h => ?_⟩
  have ok := I.ok
  have hfr : X.A.frames = some (X.env :: X.outer) := by rw [ok.frames, hs]
  refine wpAny_Try_except ?_
  refine wpAny_mono ((hb (wTri X.K [c1, c2, c3] ts D) (X.pn ++ pins) (fun e s₁ => wpAny (model X.prog X.w) X.A (noteFrame e X.env) (fun _ s₂ => wpAny (model X.prog X.w) X.A (setFlight e none) (fun _ s₃ =>
    wpAny (model X.prog X.w) X.A (handleBy e X.env [.ExceptHandler (some (.Tuple [.Name x1 p1, .Name x2 p2, .Name x3 p3] kk tpos)) none (b₀ :: suite) pos']) (SP X pins D) X.xe s₃) X.xe s₂) X.xe s₁) (fun u s' xx => ?_) PassesOwn.looking).run [] s σ H D (I.toTry _) h) (fun f s1 q => ?_) (fun e s1 he => he)
  · obtain ⟨a, B, sI, pins', σ', H', cls, d, rfl, J', nb, up, sky, na, os, ag, hx, hw⟩ := xx
    have J : Inv X pins σ' H' sI := J'.ofTry ok
    have sky2 : Sky B (X.env :: X.outer) a (Zc cls d) X.env.locals s'.heap := by rw [← hs]; exact sky
    show wpAny (model X.prog X.w) X.A (noteFrame (.ref a) X.env) _ _ _
    refine Sky.land Zc.steady hfr hf sky2 fun h3 f3 u3 => ?_
    have J3 : Inv X pins σ' H' { s' with heap := h3 } := J.landed nb f3.1 (up.trans u3) os ag
    obtain ⟨oe3, vs3, e3, z3, d3⟩ := f3.there
    have apart : a ∉ frs (X.env :: X.outer) := fun hm => by
      obtain ⟨_, o', e', hn⟩ := f3.2.2.1.mem hm
      rw [e3] at e'; cases e'
      exact hn _ d3
    have nL : a ≠ X.env.locals := fun z => apart (List.mem_filterMap.mpr ⟨X.env, List.mem_cons_self, by rw [hf, z]⟩)
    have nF : a ∉ X.fs := fun hm => by
      obtain ⟨e, he, q⟩ := List.mem_filterMap.mp hm
      exact apart (List.mem_filterMap.mpr ⟨e, List.mem_cons_of_mem _ he, q⟩)
    have S3 := J3.suite e3 d3 na nL nF
    refine wpAny_handleBy_cons (codeAny_handlers_test ?_) (by intro q; cases q)
    refine PySem.wpAny_Tuple ?_
    refine PySem.wpAny_items_cons (ld_glob (X := X.suite a ((a, oe3) :: (X.pn ++ pins))) S3 n1.1 n1.2.2 ?_ n1.2.1)
    refine PySem.wpAny_items_cons (ld_glob (X := X.suite a ((a, oe3) :: (X.pn ++ pins))) S3 n2.1 n2.2.2 ?_ n2.2.1)
    refine PySem.wpAny_items_cons (ld_glob (X := X.suite a ((a, oe3) :: (X.pn ++ pins))) S3 n3.1 n3.2.2 ?_ n3.2.1)
    refine PySem.wpAny_items_nil ⟨by size_fits, ?_⟩
    have kp : ∀ q o, h3.get? q = some o → (h3.push { cls := .type "tuple", data := .seq [c1, c2, c3].toArray }).get? q = some o := fun _ _ z => Heap.get?_push_of_some _ z
    have LT : PySem.W.Looks (model X.prog X.w) h3 (typeOf (.ref a)) cls := fun A Q E s k q => wpAny_typeOf_ref (k _ _ e3) (by rw [z3.1]; exact q)
    have kin : X.K.In (h3.push { cls := .type "tuple", data := .seq [c1, c2, c3].toArray }) := fun b o e => kp b o (J3.kIn b o e)
    have LM := PySem.W.exm_tup3 (M := model X.prog X.w) kin (LT.keeps kp) (Heap.get?_push_size h3 rfl) hx
    refine LM.here ?_
    refine codeAny_handlers_suite ?_
    refine HandSPX.lands_againZ (fly_on f3 kp) fun h4 f4 u4 => ?_
    have J4 : Inv X pins σ' H' { s' with heap := h4 } := J.landed nb f4.1 (((up.trans u3).trans (Heap.UpToSlots.of_keeps kp)).trans u4) os ag
    obtain ⟨oe4, vs4, e4, z4, d4⟩ := f4.there
    have S4 := J4.suite e4 d4 na nL nF
    refine wpAny_mono ((hsu a oe4 (X.pn ++ pins)).run [] _ _ H' _ S4 hw) (fun f s6 q => ?_) (fun _ _ z => False.elim z)
    cases f with
    | next => obtain ⟨σ6, H6, S6, q6⟩ := q; exact ⟨_, _, S6.unsuite ok, q6⟩
    | brk => obtain ⟨σ6, H6, S6, q6⟩ := q; exact ⟨_, _, S6.unsuite ok, q6⟩
    | cont => obtain ⟨σ6, H6, S6, q6⟩ := q; exact ⟨_, _, S6.unsuite ok, q6⟩
    | ret u => obtain ⟨v6, σ6, H6, S6, r6, q6⟩ := q; exact ⟨_, _, _, S6.unsuite ok, r6, q6⟩
  · cases f with
    | next => obtain ⟨σ', H', J', q⟩ := q; exact wpAny_execs_nil ⟨σ', H', J'.ofTry ok, q⟩
    | brk => obtain ⟨σ', H', J', q⟩ := q; exact ⟨σ', H', J'.ofTry ok, q⟩
    | cont => obtain ⟨σ', H', J', q⟩ := q; exact ⟨σ', H', J'.ofTry ok, q⟩
    | ret u => obtain ⟨v, σ', H', J', r, q⟩ := q; exact ⟨v, σ', H', J'.ofTry ok, r, q⟩
end
end L2.K9
set_option maxHeartbeats 4000000
/-! str(o), len(o) by the class's own def; text * int; for x in list | tuple -/
namespace L2.K9
open PySem PySem.Spec PyProof.Rows He
section
variable {X : Cx} {CX : CXT} {n : Nat} {C f : Addr} {fd : FuncData} {ps : List Str} {sp : Sp} {E : XK}
/-- a method by its name, called inside a builtin -/
theorem call_in {A : Around} {pins : List (Addr × Obj)} {σ : St} {H : Hp} {s : Shared} {a : Addr} {Q : VK} (F : FnOk X.prog X.w X.K X.mg X.base CX n f fd ps sp) (hb : Binds X.K fd ps []) (hx : Passes CX X E) (sb : Sub X n A) (I : Inv X pins σ H s)
    (hsp : sp [.ref a] H Q E) : wpAny (model X.prog X.w) A (call (.ref f) [.ref a]) (fun r s' => ∃ v H', Inv X pins σ H' s' ∧ RelV v r ∧ Q v H') X.xe s := by
  have e0 : Env0 X.prog X.w X.K X.mg X.base A X.stack s H := by
    have e := I.env0
    exact ⟨by rw [sb.fr]; exact e.frames, e.mod, e.bs, e.bsz, e.funs, e.frf, e.hok, e.bare⟩
  have hl := F.len _ _ _ _ hsp
  have r2 : Vals [V.ref a] [Value.ref a] := .cons rfl .nil
  refine wpAny_call (codeAny_mono (F.run A X.stack s H ⟨[.ref a], []⟩ [.ref a] [.ref a] _ E sb.room e0 (by
    have := hb s [.ref a] I.kIn (by simpa using hl)
    simpa using this) r2 hsp) fun r s' hq => ?_)
  cases r with
  | error e => exact hx pins σ H s e s' I hq
  | ok fl =>
    cases fl with
    | ret w =>
      obtain ⟨z, H', I', rz, q⟩ := I.after hq
      exact ⟨z, H', I', rz, q⟩
    | next => exact False.elim hq
    | brk => exact False.elim hq
    | cont => exact False.elim hq
/-- str(o) -/
theorem call_str_own (F : FnOk X.prog X.w X.K X.mg X.base CX n f fd ps sp) (hs : PySem.W.findIn X.K (.ref C) "__str__" = some (some (.ref f))) (hf : PySem.W.isFn X.K (.ref f) = true) (hb : Binds X.K fd ps []) (hx : Passes CX X E) (hr : Room (n + 2) X.A) :
    CallR X (.type "str") (fun xs H Q => ∃ a dx fs, xs = [.ref a] ∧ H a = some (.ins C dx fs) ∧ sp [.ref a] H (fun v H' => ∃ z, v = .str z ∧ Q (.str z) H') E) := by
  intro pins s σ H xs us Q I r h
  obtain ⟨a, dx, fs, rfl, ha, hsp⟩ := h
  obtain ⟨u, rfl, ru⟩ := vals1 r
  obtain rfl : u = Value.ref a := ru
  obtain ⟨m, J, _⟩ := ins_get I.hok ha
  obtain ⟨od, J, _⟩ := J.look
  have sb : Sub X n X.A.in1.in1 := ((⟨hr, rfl⟩ : Sub X (n + 1 + 1) X.A).in1).in1
  refine PySem.W.kso_call sb.room.units0 I.kIn J hs hf (wpAny_mono (call_in F hb hx sb I hsp) (fun v s' q => ?_) fun _ _ x => x)
  obtain ⟨z, H', I', rz, y, ez, q⟩ := q
  subst ez
  obtain ⟨t, rfl⟩ := rz
  exact ⟨.str y, H', I', ⟨_, rfl⟩, q⟩
/-- len(o) -/
theorem call_len_own (F : FnOk X.prog X.w X.K X.mg X.base CX n f fd ps sp) (hs : PySem.W.findIn X.K (.ref C) "__len__" = some (some (.ref f))) (hf : PySem.W.isFn X.K (.ref f) = true) (hb : Binds X.K fd ps []) (hx : Passes CX X E) (hr : Room (n + 1) X.A) :
    CallR X (.builtin "len") (fun xs H Q => ∃ a dx fs, xs = [.ref a] ∧ H a = some (.ins C dx fs) ∧ sp [.ref a] H (fun v H' => ∃ i : Int, v = .int i ∧ 0 ≤ i ∧ i < 2 ^ 63 ∧ Q (.int i) H') E) := by
  intro pins s σ H xs us Q I r h
  obtain ⟨a, dx, fs, rfl, ha, hsp⟩ := h
  obtain ⟨u, rfl, ru⟩ := vals1 r
  obtain rfl : u = Value.ref a := ru
  obtain ⟨m, J, _⟩ := ins_get I.hok ha
  obtain ⟨od, J, _⟩ := J.look
  have sb : Sub X n X.A.in1 := (⟨hr, rfl⟩ : Sub X (n + 1) X.A).in1
  refine Calls.call_function_entry kind_len plain_len entry_len (args_len1 _) ?_
  unfold Builtin.«len»
  refine wpAny_bind (m := oneArg "len" _) (wpAny_pure ?_)
  refine wpAny_bind (m := callSpecial? (.ref a) (Str.ofString "__len__")) (PySem.W.special_fn I.kIn J hs (beq_iff_eq.mp hf) (wpAny_mono (call_in F hb hx sb I hsp) (fun v s' q => ?_) fun _ _ x => x))
  obtain ⟨z, H', I', rz, i, ez, h0, h1, q⟩ := q
  subst ez
  obtain ⟨t, rfl⟩ := rz
  refine wpAny_bind (wpAny_holding (wpAny_pure ?_))
  refine wpAny_bind (wpAny_letGo ?_)
  show wpAny _ _ (if i < 0 then _ else _) _ _ _
  rw [if_neg (by omega)]
  show wpAny _ _ (if i ≥ 2 ^ 63 then _ else _) _ _ _
  rw [if_neg (by omega)]
  exact wpAny_bind (wpAny_mkInt (wpAny_pure ⟨_, rfl, .int i, H', I'.tok _, ⟨_, rfl⟩, q⟩))
end
section
variable {X : Cx}
theorem foldl_rep (c : Nat) : ∀ (n : Nat) (a : Array Nat), (List.replicate n #[c]).foldl (· ++ ·) a = a ++ (List.replicate n c).toArray
  | 0, a => by simp
  | n + 1, a => by
    rw [List.replicate_succ, List.foldl_cons, foldl_rep c n, List.replicate_succ]
    apply Array.toList_inj.mp
    simp
/-- one sign * int -/
theorem op_rep : OpR X (binaryOp .Mult) (fun x y H Q => ∃ (c : Nat) (n : Nat), x = .str ⟨#[c]⟩ ∧ y = .int n ∧ n ≤ 1000 ∧ Q (.str ⟨(List.replicate n c).toArray⟩) H) := by
  intro pins s σ H x y v u Q I rx ry h
  obtain ⟨c, n, rfl, rfl, hn, q⟩ := h
  obtain ⟨t, rfl⟩ := rx
  obtain ⟨t', rfl⟩ := ry
  have h1 : (decide ((n : Int) < -(2 ^ 63 : Int)) || decide ((n : Int) ≥ 2 ^ 63)) = false := by
    rw [decide_eq_false (by omega), decide_eq_false (by omega)]; rfl
  have fin : ∀ (z : Str) (tk : Tok) (k : Nat), z = ⟨(List.replicate n c).toArray⟩ → EP X pins σ Q (.str z tk) { s with toks := k } := fun z tk k e => ⟨.str z, H, I.tok _, ⟨_, rfl⟩, e ▸ q⟩
  refine PySem.P.mul_str h1 (fun _ _ => ?_) (fun _ _ => ?_) ?_
  · show ¬ ((1 : Int) > (2 ^ 63 - 1) / n)
    have : (1 : Int) ≤ (2 ^ 63 - 1) / n := by
      refine Int.le_ediv_of_mul_le (by omega) (by omega)
    omega
  · show decide (1 * (n : Int).toNat > sizeLine) = false
    rw [sizeLine_eq]
    simp; omega
  · by_cases n0 : n = 0
    · subst n0
      rw [if_pos (by decide)]
      dsimp only [Made.post]
      exact ⟨by decide, fin _ _ _ rfl⟩
    · rw [if_neg (by omega)]
      by_cases n1 : n = 1
      · subst n1
        rw [if_pos (by simp)]
        dsimp only [Made.post]
        exact fin _ _ s.toks rfl
      · rw [if_neg (by
          have : ((n : Int) == 1) = false := by simp; omega
          rw [this]
          simp [Str.length])]
        dsimp only [Made.post]
        have e : (⟨List.foldl (fun x1 x2 => x1 ++ x2) #[] (List.replicate ((n : Int)).toNat (⟨#[c]⟩ : Str).cps)⟩ : Str) = ⟨(List.replicate n c).toArray⟩ := by
          rw [Int.toNat_natCast]
          show (⟨List.foldl (· ++ ·) #[] (List.replicate n #[c])⟩ : Str) = _
          rw [foldl_rep]
          simp
        exact ⟨by rw [e, sizeLine_eq]; show (List.replicate n c).toArray.size ≤ 16777216; rw [List.size_toArray, List.length_replicate]; omega, fin _ _ _ e⟩
/-- for x in a list or a tuple -/
def iOr (w1 w2 : TI) : TI := fun σ H R => w1 σ H R ∨ w2 σ H R
theorem pi_or {tg l : Expr} {w1 w2 : TI} (h1 : PI X tg l w1) (h2 : PI X tg l w2) : PI X tg l (iOr w1 w2) :=
  ⟨fun pins s σ H R I h => h.elim (h1.run pins s σ H R I) (h2.run pins s σ H R I)⟩
end
/-! ### for loops -/
section
variable {K : PySem.W.Frag} {g : TG} {tb : TS} {D : Ends} {σ : St} {H : Hp} {ta : TA} {te : TE}
def FJ (J : It) (g : TG) (tb : TS) (D : Ends) (σ : St) (H : Hp) : Prop := ∃ W : Nat → Nat → St → Hp → Prop, (∃ m, W 0 m σ H) ∧ ∀ i m σ H, W i m σ H →
  (J.stop i H ∧ D.nx σ H) ∨ (J.go i H ∧ ∃ N : St → Hp → Prop, (∀ σ' H', N σ' H' → ∃ m', m' < m ∧ W (i + 1) m' σ' H') ∧ ∀ x H', J.yld i H x H' → g x σ H' fun σ2 H2 => tb { D with nx := N, ct := N, bk := D.nx } σ2 H2)
theorem tFor_enumk : tFor (iEnumk K ta) g tb D σ H = ta σ H fun vs H1 => ∃ a k xs, vs = [.ref a, .int k] ∧ -1000 ≤ k ∧ k ≤ 1000 ∧ SqL K H1 a xs ∧ FJ (Itek K k a) g tb D σ H1 := rfl
theorem tFor_list : tFor (iList K te) g tb D σ H = te σ H fun x H1 => ∃ a, x = .ref a ∧ (∃ xs, SqL K H1 a xs) ∧ FJ (Itl K a) g tb D σ H1 := rfl
theorem tFor_tup : tFor (iTup K te) g tb D σ H = te σ H fun x H1 => ∃ a, x = .ref a ∧ (∃ xs, SqT K H1 a xs) ∧ FJ (Itt K a) g tb D σ H1 := rfl
theorem tFor_or {w1 w2 : TI} : tFor (iOr w1 w2) g tb D σ H = (tFor w1 g tb D σ H ∨ tFor w2 g tb D σ H) := rfl
theorem fj {J : It} {n : Nat} {G : Hp → Prop} {Y : Nat → Hp → V → Hp → Prop} (w : Walk J n G Y) (Pv : Nat → St → Hp → Prop) (h0 : Pv 0 σ H) (hG : ∀ i σ H, i ≤ n → Pv i σ H → G H)
    (hs : ∀ i x σ H H', i < n → Pv i σ H → Y i H x H' → g x σ H' fun σ2 H2 => tb { D with nx := Pv (i + 1), ct := Pv (i + 1), bk := D.nx } σ2 H2) (hd : ∀ σ H, Pv n σ H → D.nx σ H) : FJ J g tb D σ H :=
  for_it w Pv h0 hG hs hd
end
end L2.K9
set_option maxHeartbeats 4000000
namespace L2.K9
open PySem PySem.Spec PyProof.Rows He
local macro_rules | `(tactic| walk_at "lf") => `(tactic| ((repeat' split) <;> first | contradiction | rfl | (simp_all; done)))
local macro_rules | `(tactic| walk_at "k9") => `(tactic| simp only [tRet, tRetN, tSeq, tNext, tAsg, gName, tDrop, tIfS, tIf, tVar, tC, tCB, tCons, tNil, tOp, tUn, tTest, tB, tAnd, tOr, tNot, tAndV, tOrV, tNotV, tChain, tCall, tMeth, tMake, tM1, tM0, tBM, tBM0, tSl, tPart, tNoPart, rI0, rI, rU, rEq, rNe, start, List.map_cons, List.map_nil, List.length_cons, List.length_nil, Nat.reduceAdd, Nat.reduceSub, List.replicate_succ, List.replicate_zero, List.cons_append, List.nil_append, List.append_nil, List.getElem?_cons_zero, List.getElem?_cons_succ, List.set_cons_zero, List.set_cons_succ, Option.some.injEq, V.int.injEq, V.bl.injEq, V.str.injEq, V.ref.injEq, exists_eq_left', exists_eq_left, and_true, true_and, exists_and_left, List.cons.injEq, len_s, cxK, cxP, cxW, exists_eq_right, exists_eq', scal_ss, scal_ii, scal_bb, scal_ns, eq_self, ite_nd, rSlS, rIxS, rIxL, rIxT, rSlL, tLc_str, tLc_list, tPar, gTup, tTup, tLst, tDGet1, wipe, List.foldl_cons, List.foldl_nil, sg_inj, and_assoc, exists_eq, decide_eq_true_eq, if_true, if_false, Bool.false_eq_true, Bool.not_true, Bool.not_false, rNeE, rEqE, iEnumk, iZips, gStar, tWGet, rNewStrs, tDIn, sDPut, tDisp, tPairs, sFld, tFld, rAppend, rPop, tFor_list, tFor_enumk, tFor_tup, tFor_or, tProp, gSub, rSetL, rCat])
section
variable {P : Program} {w : World} {K : PySem.W.Frag} {mg : Str → Option Value} {base : Heap}
/-- is_whole of an int -/
def sp_is_whole : Sp := fun vs H Q _ => ∃ i : Int, vs = [.int i] ∧ Q (.bl true) H
theorem len_is_whole {vs : List V} {H : Hp} {Q : VK} {E : XK} (h : sp_is_whole vs H Q E) : vs.length = 1 := by
  obtain ⟨_, rfl, _⟩ := h; rfl
theorem sc_is_whole : FnScope ["value"] ["value"] (defScope s_is_whole) := ⟨rfl, rfl, rfl, by decide +kernel, rfl, by decide +kernel, by decide +kernel⟩
theorem ok_is_whole (g : GT w K mg) : DefOk P w K mg base 1 (ga K "is_whole") ["value"] sp_is_whole := by
  obtain ⟨fd, F⟩ := g.d_is_whole
  refine ⟨fd, ?_, F.bindsN fun _ _ _ _ _ _ us hl => match us, hl with | [_], _ => rfl, F.kp⟩
  refine F.ok sc_is_whole (fun vs H Q E h => ?_) (fun cdv A outer s H vs Q E hr h => ?_)
  · exact len_is_whole h
  · obtain ⟨i, rfl, q⟩ := h
    refine ⟨_, (pss_one (ps_ret (pe_and (pe_callB call_isi (by rfl) g.f_isinstance (by decide +kernel) (pa_cons (pv 0) (pa_cons (pe_bltn (v := .ty "int") (u := .type "int") (by rfl) g.f_int (by decide +kernel) rfl) pa_nil))) (pe_one (pe_not (pe_callB call_isi (by rfl) g.f_isinstance (by decide +kernel) (pa_cons (pv 0) (pa_cons (pe_bltn (v := .ty "bool") (u := .type "bool") (by rfl) g.f_bool (by decide +kernel) rfl) pa_nil)))))))), ?_⟩
    walk_at "k9"
    refine isi_ty (.base (.int i)) (b := true) (by decide +kernel) ?_
    walk_at "k9"
    refine isi_ty (.base (.int i)) (b := false) (by decide +kernel) ?_
    walk_at "k9"
    exact q
def sp_is_integer : Sp := fun vs H Q _ => ∃ i lo hi : Int, vs = [.int i, .int lo, .int hi] ∧ Q (.bl (decide (lo ≤ i) && decide (i ≤ hi))) H
theorem len_is_integer {vs : List V} {H : Hp} {Q : VK} {E : XK} (h : sp_is_integer vs H Q E) : vs.length = 3 := by
  obtain ⟨_, _, _, rfl, _⟩ := h; rfl
theorem sc_is_integer : FnScope ["value", "low", "high"] ["value", "low", "high"] (defScope s_is_integer) := ⟨rfl, rfl, rfl, by decide +kernel, rfl, by decide +kernel, by decide +kernel⟩
theorem ok_is_integer (g : GT w K mg) : DefOk P w K mg base 2 (ga K "is_integer") ["value", "low", "high"] sp_is_integer := by
  obtain ⟨fd_is_whole, F_is_whole, B_is_whole, K_is_whole⟩ := ok_is_whole (P := P) (w := w) (base := base) g
  obtain ⟨fd, F⟩ := g.d_is_integer
  refine ⟨fd, ?_, F.bindsN fun _ _ _ _ _ _ us hl => match us, hl with | [_, _, _], _ => rfl, F.kp⟩
  refine F.ok sc_is_integer (fun vs H Q E h => ?_) (fun cdv A outer s H vs Q E hr h => ?_)
  · exact len_is_integer h
  · obtain ⟨i, lo, hi, rfl, q⟩ := h
    refine ⟨_, (pss_one (ps_ret (pe_and (pe_call F_is_whole (hr.mono (by decide)) rfl g.g_is_whole K_is_whole B_is_whole .nil pq (pa_cons (pv 0) pa_nil)) (pe_one (pe_chain op_le op_le (pv 1) (pv 0) (pv 2)))))), ?_⟩
    refine ⟨_, rfl, _, rfl, _, rfl, iteT ?_⟩
    refine ⟨_, rfl, _, rfl, _, _, rfl, rfl, _, rfl, ?_⟩
    by_cases c : lo ≤ i
    · rw [decide_eq_true c] at q ⊢
      refine iteT ?_
      exact ⟨_, rfl, _, _, rfl, rfl, q⟩
    · rw [decide_eq_false c] at q ⊢
      exact iteF q
end
end L2.K9
set_option maxHeartbeats 4000000
namespace L2.K9
open PySem PySem.Spec PyProof.Rows He
local macro_rules | `(tactic| walk_at "lf") => `(tactic| ((repeat' split) <;> first | contradiction | rfl | (simp_all; done)))
local macro_rules | `(tactic| walk_at "k9") => `(tactic| simp only [tRet, tRetN, tSeq, tNext, tAsg, gName, tDrop, tIfS, tIf, tVar, tC, tCB, tCons, tNil, tOp, tUn, tTest, tB, tAnd, tOr, tNot, tAndV, tOrV, tNotV, tChain, tCall, tMeth, tMake, tM1, tM0, tBM, tBM0, tSl, tPart, tNoPart, rI0, rI, rU, rEq, rNe, start, List.map_cons, List.map_nil, List.length_cons, List.length_nil, Nat.reduceAdd, Nat.reduceSub, List.replicate_succ, List.replicate_zero, List.cons_append, List.nil_append, List.append_nil, List.getElem?_cons_zero, List.getElem?_cons_succ, List.set_cons_zero, List.set_cons_succ, Option.some.injEq, V.int.injEq, V.bl.injEq, V.str.injEq, V.ref.injEq, exists_eq_left', exists_eq_left, and_true, true_and, exists_and_left, List.cons.injEq, len_s, cxK, cxP, cxW, exists_eq_right, exists_eq', scal_ss, scal_ii, scal_bb, scal_ns, eq_self, ite_nd, rSlS, rIxS, rIxL, rIxT, rSlL, tLc_str, tLc_list, tPar, gTup, tTup, tLst, tDGet1, wipe, List.foldl_cons, List.foldl_nil, sg_inj, and_assoc, exists_eq, decide_eq_true_eq, if_true, if_false, Bool.false_eq_true, Bool.not_true, Bool.not_false, rNeE, rEqE, iEnumk, iZips, gStar, tWGet, rNewStrs, tDIn, sDPut, tDisp, tPairs, sFld, tFld, rAppend, rPop, tFor_list, tFor_enumk, tFor_tup, tFor_or, tProp, gSub, rSetL, rCat])
section
variable {P : Program} {w : World} {K : PySem.W.Frag} {mg : Str → Option Value} {base : Heap}
def sp_is_name : Sp := fun vs H Q _ => ∃ z : Str, vs = [.str z] ∧ z.length ≤ 1000000 ∧ ∀ H', Same H H' → Q (.bl (isName z)) H'
theorem len_is_name {vs : List V} {H : Hp} {Q : VK} {E : XK} (h : sp_is_name vs H Q E) : vs.length = 1 := by
  obtain ⟨_, rfl, _⟩ := h; rfl
theorem sc_is_name : FnScope ["value", "sign"] ["value"] (defScope s_is_name) := ⟨rfl, rfl, rfl, by decide +kernel, rfl, by decide +kernel, by decide +kernel⟩
theorem ok_is_name (g : GT w K mg) : DefOk P w K mg base 1 (ga K "is_name") ["value"] sp_is_name := by
  obtain ⟨t_LETTERS, c_LETTERS⟩ := g.c_LETTERS
  obtain ⟨t_LONGEST_NAME, c_LONGEST_NAME⟩ := g.c_LONGEST_NAME
  obtain ⟨t_DIGITS, c_DIGITS⟩ := g.c_DIGITS
  obtain ⟨fd, F⟩ := g.d_is_name
  refine ⟨fd, ?_, F.bindsN fun _ _ _ _ _ _ us hl => match us, hl with | [_], _ => rfl, F.kp⟩
  refine F.ok sc_is_name (fun vs H Q E h => ?_) (fun cdv A outer s H vs Q E hr h => ?_)
  · exact len_is_name h
  · obtain ⟨z, rfl, hz, q⟩ := h
    refine ⟨_, (pss_cons (ps_if (PW.pt (pw_or (pt_not (pt_val (pe_callB call_isi (by rfl) g.f_isinstance (by decide +kernel) (pa_cons (pv 0) (pa_cons (pe_bltn (v := .ty "str") (u := .type "str") (by rfl) g.f_str (by decide +kernel) rfl) pa_nil))))) (pw_or (pt_not (pt_chain op_lt op_le pe_int (pe_callB call_len (by rfl) g.f_len (by decide +kernel) (pa_cons (pv 0) pa_nil)) (pe_glob (v := .int 8) rfl c_LONGEST_NAME ⟨_, rfl⟩))) (pw_or1 (pt_cmpR op_notIn_sign (pe_ix ix_str (pv 0) pe_int (fun _ _ => rfl)) (pe_glob (v := .str "abcdefghijklmnopqrstuvwxyz") rfl c_LETTERS ⟨_, rfl⟩) (by rfl)))))) (pss_one (ps_ret pe_bl)) pss_nil)
      (pss_one (ps_ret (pe_callB (cr_all rfl) (by rfl) g.f_all (by decide +kernel) (pa_cons (pe_lc (own := [("sign", 1)]) (by rfl) sc_is_name.nd (pi_str (pv 0)) (blkOk_by (N := ["value", "sign"]) (own := [("sign", 1)]) (show blkC _ (defScope s_is_name) _ _ = true by decide +kernel)) (fun _ _ _ _ _ => (pg_name (i := 1) sc_is_name.nd rfl (Or.inl rfl))) (fun _ _ _ _ _ => pts_nil) (fun _ _ _ _ _ => (pe_cmpR op_in_sign (pv 1) (pe_op op_add_str (pe_glob (v := .str "abcdefghijklmnopqrstuvwxyz") rfl c_LETTERS ⟨_, rfl⟩) (pe_glob (v := .str "0123456789") rfl c_DIGITS ⟨_, rfl⟩)) (by rfl)))) pa_nil))))), ?_⟩
    walk_at "k9"
    refine isi_ty (.base (.str z)) (b := true) (by decide +kernel) ?_
    walk_at "k9"
    refine ⟨by rw [sizeLine_eq]; omega, ?_⟩
    have hlen : z.length = z.cps.toList.length := by rw [Array.length_toList]; rfl
    cases hl : z.cps.toList with
    | nil =>
      rw [hl] at hlen
      rw [show isName z = false by unfold isName; rw [hl]] at q
      rw [if_neg (by rw [hlen]; simp)]
      exact q H (Same.refl H)
    | cons c r =>
      rw [hl] at hlen
      rw [show isName z = (decide (r.length < 8) && hasS ltrs c && (c :: r).all (hasS (ltrs ++ dgts))) by unfold isName; rw [hl]] at q
      rw [if_pos (by rw [hlen]; simp <;> omega)]
      by_cases h8 : r.length < 8
      · rw [if_pos (by rw [hlen]; simp; omega)]
        refine ⟨by rw [sizeLine_eq]; omega, c, by exact at0, ?_⟩
        by_cases hc : c ∈ (Str.ofString "abcdefghijklmnopqrstuvwxyz").cps.toList
        · rw [if_pos hc]
          refine lc_strs (fun c => .bl (hasS (ltrs ++ dgts) c)) hz (fun c H Qy Qn hc sm k => ?_) (fun D H' sm e => ?_)
          · refine ⟨rfl, ?_⟩
            walk_at "k9"
            exact ⟨by decide +kernel, k H (Same.refl H)⟩
          · rw [map_bl] at e
            refine ⟨_, _, rfl, .inl (.inl e), ?_⟩
            rw [all_bl, hl]
            have q2 := q H' sm
            simp only [h8, decide_true, Bool.true_and] at q2
            have hc' : hasS ltrs c = true := decide_eq_true hc
            rw [hc', Bool.true_and] at q2
            exact q2
        · rw [if_neg hc]
          have hc' : hasS ltrs c = false := decide_eq_false hc
          rw [hc'] at q
          simp only [Bool.and_false, Bool.false_and] at q
          exact q H (Same.refl H)
      · rw [if_neg (by rw [hlen]; simp; omega)]
        simp only [h8, decide_false, Bool.false_and] at q
        exact q H (Same.refl H)
end
end L2.K9
set_option maxHeartbeats 4000000
namespace L2.K9
open PySem PySem.Spec PyProof.Rows He
local macro_rules | `(tactic| walk_at "lf") => `(tactic| ((repeat' split) <;> first | contradiction | rfl | (simp_all; done)))
local macro_rules | `(tactic| walk_at "k9") => `(tactic| simp only [tRet, tRetN, tSeq, tNext, tAsg, gName, tDrop, tIfS, tIf, tVar, tC, tCB, tCons, tNil, tOp, tUn, tTest, tB, tAnd, tOr, tNot, tAndV, tOrV, tNotV, tChain, tCall, tMeth, tMake, tM1, tM0, tBM, tBM0, tSl, tPart, tNoPart, rI0, rI, rU, rEq, rNe, start, List.map_cons, List.map_nil, List.length_cons, List.length_nil, Nat.reduceAdd, Nat.reduceSub, List.replicate_succ, List.replicate_zero, List.cons_append, List.nil_append, List.append_nil, List.getElem?_cons_zero, List.getElem?_cons_succ, List.set_cons_zero, List.set_cons_succ, Option.some.injEq, V.int.injEq, V.bl.injEq, V.str.injEq, V.ref.injEq, exists_eq_left', exists_eq_left, and_true, true_and, exists_and_left, List.cons.injEq, len_s, cxK, cxP, cxW, exists_eq_right, exists_eq', scal_ss, scal_ii, scal_bb, scal_ns, eq_self, ite_nd, rSlS, rIxS, rIxL, rIxT, rSlL, tLc_str, tLc_list, tPar, gTup, tTup, tLst, tDGet1, wipe, List.foldl_cons, List.foldl_nil, sg_inj, and_assoc, exists_eq, decide_eq_true_eq, if_true, if_false, Bool.false_eq_true, Bool.not_true, Bool.not_false, rNeE, rEqE, iEnumk, iZips, gStar, tWGet, rNewStrs, tDIn, sDPut, tDisp, tPairs, sFld, tFld, rAppend, rPop, tFor_list, tFor_enumk, tFor_tup, tFor_or, tProp, gSub, rSetL, rCat])
theorem five {z : Str} (h : z.length = 5) : ∃ a b c d e, z = ⟨#[a, b, c, d, e]⟩ := by
  obtain ⟨⟨l⟩⟩ := z
  have h : l.length = 5 := h
  match l, h with
  | [a, b, c, d, e], _ => exact ⟨a, b, c, d, e, rfl⟩
theorem dig_ok {c : Nat} (h : c ∈ (Str.ofString "0123456789").cps.toList) : 48 ≤ c ∧ c ≤ 57 := by
  have : ∀ c ∈ (Str.ofString "0123456789").cps.toList, 48 ≤ c ∧ c ≤ 57 := by decide +kernel
  exact this c h
theorem dig_int {z : Str} (hne : z.cps.toList ≠ []) (hl : z.length ≤ 640) (h : z.cps.toList.all (hasS dgts) = true) : intText? z = some (valD z.cps.toList) :=
  intText_digits (x := z) (fun c hc => dig_ok (of_decide_eq_true (List.all_eq_true.mp h c hc))) hne (by show z.length ≤ 4300; exact Nat.le_trans hl (by decide))
section
variable {P : Program} {w : World} {K : PySem.W.Frag} {mg : Str → Option Value} {base : Heap}
def sp_told_time : Sp := fun vs H Q _ => ∃ z : Str, vs = [.str z] ∧ z.length ≤ 1000000 ∧ ∀ H', Same H H' → Q (oI (toldTime z)) H'
theorem len_told_time {vs : List V} {H : Hp} {Q : VK} {E : XK} (h : sp_told_time vs H Q E) : vs.length = 1 := by
  obtain ⟨_, rfl, _⟩ := h; rfl
theorem sc_told_time : FnScope ["text", "hours", "minutes", "sign"] ["text"] (defScope s_told_time) := ⟨rfl, rfl, rfl, by decide +kernel, rfl, by decide +kernel, by decide +kernel⟩
theorem ok_told_time (g : GT w K mg) : DefOk P w K mg base 1 (ga K "told_time") ["text"] sp_told_time := by
  obtain ⟨t_DIGITS, c_DIGITS⟩ := g.c_DIGITS
  obtain ⟨t_HOUR, c_HOUR⟩ := g.c_HOUR
  obtain ⟨fd, F⟩ := g.d_told_time
  refine ⟨fd, ?_, F.bindsN fun _ _ _ _ _ _ us hl => match us, hl with | [_], _ => rfl, F.kp⟩
  refine F.ok sc_told_time (fun vs H Q E h => ?_) (fun cdv A outer s H vs Q E hr h => ?_)
  · exact len_told_time h
  · obtain ⟨z, rfl, hz, q⟩ := h
    refine ⟨_, (pss_cons (ps_if (PW.pt (pw_or (pt_cmpR op_ne (pe_callB call_len (by rfl) g.f_len (by decide +kernel) (pa_cons (pv 0) pa_nil)) pe_int (nomark _)) (pw_or (pt_cmpR op_ne (pe_ix ix_str (pv 0) pe_int (fun _ _ => rfl)) pe_str (nomark _)) (pw_or1 (pt_not (pt_val (pe_callB (cr_all rfl) (by rfl) g.f_all (by decide +kernel) (pa_cons (pe_lc (own := [("sign", 3)]) (by rfl) sc_told_time.nd (pi_str (pe_op op_add_str (pe_slice sl_str (pv 0) po_none (po_some pe_int)) (pe_slice sl_str (pv 0) (po_some pe_int) po_none))) (blkOk_by (N := ["text", "hours", "minutes", "sign"]) (own := [("sign", 3)]) (show blkC _ (defScope s_told_time) _ _ = true by decide +kernel)) (fun _ _ _ _ _ => (pg_name (i := 3) sc_told_time.nd rfl (Or.inl rfl))) (fun _ _ _ _ _ => pts_nil) (fun _ _ _ _ _ => (pe_cmpR op_in_sign (pv 3) (pe_glob (v := .str "0123456789") rfl c_DIGITS ⟨_, rfl⟩) (by rfl)))) pa_nil)))))))) (pss_one (ps_ret pe_non)) pss_nil)
      (pss_cons (ps_par (i := 1) (j := 2) (by rfl) sc_told_time.nd rfl rfl (by decide) rfl rfl (pa_cons (pe_callTy call_int_str (by rfl) g.f_int (by decide +kernel) (pa_cons (pe_slice sl_str (pv 0) po_none (po_some pe_int)) pa_nil)) (pa_cons (pe_callTy call_int_str (by rfl) g.f_int (by decide +kernel) (pa_cons (pe_slice sl_str (pv 0) (po_some pe_int) po_none) pa_nil)) pa_nil)) (by rfl))
      (pss_one (ps_ret (pe_ifExp (PW.pt (pw_and (pt_cmpR op_lt (pv 1) pe_int (nomark _)) (pw_and1 (pt_cmpR op_lt (pv 2) (pe_glob (v := .int 60) rfl c_HOUR ⟨_, rfl⟩) (nomark _))))) (pe_op op_add (pe_op op_mul (pv 1) (pe_glob (v := .int 60) rfl c_HOUR ⟨_, rfl⟩)) (pv 2)) pe_non))))), ?_⟩
    walk_at "k9"
    refine ⟨by rw [sizeLine_eq]; omega, ?_⟩
    by_cases h5 : z.length = 5
    · obtain ⟨a, b, c, d, e, rfl⟩ := five h5
      rw [if_pos (by simp [Str.length])]
      have hs : ∀ n : Nat, n ≤ 5 → n ≤ sizeLine := fun n h => by rw [sizeLine_eq]; omega
      refine ⟨hs 5 (by decide), c, rfl, ?_⟩
      have qe : toldTime ⟨#[a, b, c, d, e]⟩ = if c = 58 ∧ [a, b, d, e].all (hasS dgts) = true then
        (if valD [a, b] < 24 ∧ valD [d, e] < 60 then some (valD [a, b] * 60 + valD [d, e]) else none) else none := rfl
      by_cases hc : c = 58
      · subst hc
        rw [if_pos (by decide +kernel)]
        refine ⟨hs 5 (by decide), hs 5 (by decide), hs 4 (by decide), lc_strs (z := ⟨#[a, b, d, e]⟩) (fun c => .bl (hasS dgts c)) (show 4 ≤ 1000000 by decide) (fun c H Qy Qn hc sm k => ?_) (fun D H1 sm e1 => ?_)⟩
        · refine ⟨rfl, ?_⟩
          walk_at "k9"
          exact k H (Same.refl H)
        · rw [map_bl] at e1
          refine ⟨_, _, rfl, .inl (.inl e1), _, rfl, ?_⟩
          rw [all_bl]
          by_cases ha : [a, b, d, e].all (hasS dgts) = true
          · rw [if_neg (by rw [show (⟨#[a, b, d, e]⟩ : Str).cps.toList = [a, b, d, e] from rfl, ha]; decide)]
            have hd : ∀ x ∈ [a, b, d, e], hasS dgts x = true := List.all_eq_true.mp ha
            have i1 : intText? ⟨#[a, b]⟩ = some (valD [a, b]) := dig_int (z := ⟨#[a, b]⟩) (by simp) (show 2 ≤ 640 by decide) (by simp [hd])
            have i2 : intText? ⟨#[d, e]⟩ = some (valD [d, e]) := dig_int (z := ⟨#[d, e]⟩) (by simp) (show 2 ≤ 640 by decide) (by simp [hd])
            refine ⟨hs 5 (by decide), _, i1, show 2 ≤ 640 by decide, hs 5 (by decide), _, i2, show 2 ≤ 640 by decide, ?_⟩
            rw [qe, if_pos ⟨rfl, ha⟩] at q
            by_cases c1 : valD [a, b] < 24
            · rw [if_pos c1]
              by_cases c2 : valD [d, e] < 60
              · rw [if_pos c2]
                rw [if_pos ⟨c1, c2⟩] at q
                exact ⟨.inr ⟨by decide, by decide⟩, q _ sm⟩
              · rw [if_neg c2]
                rw [if_neg (fun z => c2 z.2)] at q
                exact q _ sm
            · rw [if_neg c1]
              rw [if_neg (fun z => c1 z.1)] at q
              exact q _ sm
          · rw [if_pos (by rw [show (⟨#[a, b, d, e]⟩ : Str).cps.toList = [a, b, d, e] from rfl]; simp [ha])]
            rw [qe, if_neg (by simp [ha])] at q
            exact q H1 sm
      · rw [if_neg (by
          have : ¬ ((⟨#[c]⟩ : Str) = Str.ofString ":") := fun z => hc (by rw [show Str.ofString ":" = ⟨#[58]⟩ by decide +kernel, sg_inj] at z; exact z)
          exact this)]
        rw [qe, if_neg (by simp [hc])] at q
        exact q H (Same.refl H)
    · rw [if_neg (by omega)]
      have : toldTime z = none := by
        unfold toldTime
        split
        · rename_i h; exact absurd (by rw [show z.length = z.cps.toList.length from (Array.length_toList ..).symm, h]; rfl) h5
        · rfl
      rw [this] at q
      exact q H (Same.refl H)
end
end L2.K9
set_option maxHeartbeats 4000000
namespace L2.K9
open PySem PySem.Spec PyProof.Rows He
local macro_rules | `(tactic| walk_at "lf") => `(tactic| ((repeat' split) <;> first | contradiction | rfl | (simp_all; done)))
local macro_rules | `(tactic| walk_at "k9") => `(tactic| simp only [tRet, tRetN, tSeq, tNext, tAsg, gName, tDrop, tIfS, tIf, tVar, tC, tCB, tCons, tNil, tOp, tUn, tTest, tB, tAnd, tOr, tNot, tAndV, tOrV, tNotV, tChain, tCall, tMeth, tMake, tM1, tM0, tBM, tBM0, tSl, tPart, tNoPart, rI0, rI, rU, rEq, rNe, start, List.map_cons, List.map_nil, List.length_cons, List.length_nil, Nat.reduceAdd, Nat.reduceSub, List.replicate_succ, List.replicate_zero, List.cons_append, List.nil_append, List.append_nil, List.getElem?_cons_zero, List.getElem?_cons_succ, List.set_cons_zero, List.set_cons_succ, Option.some.injEq, V.int.injEq, V.bl.injEq, V.str.injEq, V.ref.injEq, exists_eq_left', exists_eq_left, and_true, true_and, exists_and_left, List.cons.injEq, len_s, cxK, cxP, cxW, exists_eq_right, exists_eq', scal_ss, scal_ii, scal_bb, scal_ns, eq_self, ite_nd, rSlS, rIxS, rIxL, rIxT, rSlL, tLc_str, tLc_list, tPar, gTup, tTup, tLst, tDGet1, wipe, List.foldl_cons, List.foldl_nil, sg_inj, and_assoc, exists_eq, decide_eq_true_eq, if_true, if_false, Bool.false_eq_true, Bool.not_true, Bool.not_false, rNeE, rEqE, iEnumk, iZips, gStar, tWGet, rNewStrs, tDIn, sDPut, tDisp, tPairs, sFld, tFld, rAppend, rPop, tFor_list, tFor_enumk, tFor_tup, tFor_or, tProp, gSub, rSetL, rCat])
theorem rem_len (z : Str) : (Txt.removeprefix z "-").length ≤ z.length := by
  unfold Txt.removeprefix Txt.affix
  split
  · split
    · exact Nat.le_refl _
    · exact strSub_length_le ..
  · exact Nat.le_refl _
section
variable {P : Program} {w : World} {K : PySem.W.Frag} {mg : Str → Option Value} {base : Heap}
def sp_told_integer : Sp := fun vs H Q _ => ∃ (z : Str) (m : Int), vs = [.str z, .int m] ∧ z.length ≤ 1000000 ∧ m.natAbs.log2 < 1920 ∧ (toString m : Str).length ≤ 600 ∧ ∀ H', Same H H' → Q (oI (toldInt z m)) H'
theorem len_told_integer {vs : List V} {H : Hp} {Q : VK} {E : XK} (h : sp_told_integer vs H Q E) : vs.length = 2 := by
  obtain ⟨_, _, rfl, _⟩ := h; rfl
theorem sc_told_integer : FnScope ["text", "most", "figures", "number", "sign"] ["text", "most"] (defScope s_told_integer) := ⟨rfl, rfl, rfl, by decide +kernel, rfl, by decide +kernel, by decide +kernel⟩
theorem ok_told_integer (g : GT w K mg) : DefOk P w K mg base 1 (ga K "told_integer") ["text", "most"] sp_told_integer := by
  obtain ⟨t_DIGITS, c_DIGITS⟩ := g.c_DIGITS
  obtain ⟨fd, F⟩ := g.d_told_integer
  refine ⟨fd, ?_, F.bindsN fun _ _ _ _ _ _ us hl => match us, hl with | [_, _], _ => rfl, F.kp⟩
  refine F.ok sc_told_integer (fun vs H Q E h => ?_) (fun cdv A outer s H vs Q E hr h => ?_)
  · exact len_told_integer h
  · obtain ⟨z, m, rfl, hz, hm, hml, q⟩ := h
    refine ⟨_, (pss_cons (ps_set (i := 2) sc_told_integer.nd rfl (Or.inl rfl) (pe_m1 PySem.F.slot_str_removeprefix PySem.F.type_str_removeprefix mt_removeprefix (pv 0) pe_str))
      (pss_cons (ps_if (PW.pt (pw_or (pt_not (pt_chain op_lt op_le pe_int (pe_callB call_len (by rfl) g.f_len (by decide +kernel) (pa_cons (pv 2) pa_nil)) (pe_callB call_len (by rfl) g.f_len (by decide +kernel) (pa_cons (pe_callTy call_str_int (by rfl) g.f_str (by decide +kernel) (pa_cons (pv 1) pa_nil)) pa_nil)))) (pw_or1 (pt_not (pt_val (pe_callB (cr_all rfl) (by rfl) g.f_all (by decide +kernel) (pa_cons (pe_lc (own := [("sign", 4)]) (by rfl) sc_told_integer.nd (pi_str (pv 2)) (blkOk_by (N := ["text", "most", "figures", "number", "sign"]) (own := [("sign", 4)]) (show blkC _ (defScope s_told_integer) _ _ = true by decide +kernel)) (fun _ _ _ _ _ => (pg_name (i := 4) sc_told_integer.nd rfl (Or.inl rfl))) (fun _ _ _ _ _ => pts_nil) (fun _ _ _ _ _ => (pe_cmpR op_in_sign (pv 4) (pe_glob (v := .str "0123456789") rfl c_DIGITS ⟨_, rfl⟩) (by rfl)))) pa_nil))))))) (pss_one (ps_ret pe_non)) pss_nil)
      (pss_cons (ps_if (PW.pt (pw_and (pt_cmpR op_eq (pe_ix ix_str (pv 2) pe_int (fun _ _ => rfl)) pe_str (nomark _)) (pw_and1 (pt_cmpR op_ne (pv 0) pe_str (nomark _))))) (pss_one (ps_ret pe_non)) pss_nil)
      (pss_cons (ps_set (i := 3) sc_told_integer.nd rfl (Or.inl rfl) (pe_ifExp (pt_cmpR op_eq (pv 2) (pv 0) (nomark _)) (pe_callTy call_int_str (by rfl) g.f_int (by decide +kernel) (pa_cons (pv 2) pa_nil)) (pe_un un_neg (pe_callTy call_int_str (by rfl) g.f_int (by decide +kernel) (pa_cons (pv 2) pa_nil)))))
      (pss_one (ps_ret (pe_ifExp (pt_chain op_le op_le (pe_un un_neg (pv 1)) (pv 3) (pv 1)) (pv 3) pe_non))))))), ?_⟩
    walk_at "k9"
    have hf : (Txt.removeprefix z "-").length ≤ 1000000 := Nat.le_trans (rem_len z) hz
    have hs : ∀ n : Nat, n ≤ 1000000 → n ≤ sizeLine := fun n h => by rw [sizeLine_eq]; omega
    refine ⟨hs _ hz, ?_⟩
    generalize hfe : Txt.removeprefix z "-" = f at *
    have qe : toldInt z m = if 0 < f.length ∧ f.length ≤ (toString m : Str).length ∧ f.cps.toList.all (hasS dgts) = true then
      (if atI f.cps.toList 0 = some 48 ∧ z ≠ "0" then none else
      let n := if f = z then valD f.cps.toList else -valD f.cps.toList
      if -m ≤ n ∧ n ≤ m then some n else none) else none := by unfold toldInt; rw [hfe]
    refine ⟨hs _ hf, ?_⟩
    by_cases c0 : 0 < f.length
    · rw [if_pos (by exact_mod_cast c0)]
      refine ⟨hm, hs _ (by omega), ?_⟩
      by_cases c1 : f.length ≤ (toString m : Str).length
      · rw [if_pos (by exact_mod_cast c1)]
        refine lc_strs (fun c => .bl (hasS dgts c)) hf (fun c H Qy Qn hc sm k => ?_) (fun D H1 sm e1 => ?_)
        · refine ⟨rfl, ?_⟩
          walk_at "k9"
          exact k H (Same.refl H)
        · rw [map_bl] at e1
          refine ⟨_, _, rfl, .inl (.inl e1), _, rfl, ?_⟩
          rw [all_bl]
          by_cases ha : f.cps.toList.all (hasS dgts) = true
          · rw [if_neg (by rw [ha]; decide)]
            rw [qe, if_pos ⟨c0, c1, ha⟩] at q
            have hne : f.cps.toList ≠ [] := fun z => by
              have : f.length = f.cps.toList.length := by rw [Array.length_toList]; rfl
              rw [this, z] at c0; simp at c0
            obtain ⟨c, r, hcr⟩ : ∃ c r, f.cps.toList = c :: r := by
              cases h : f.cps.toList with
              | nil => exact absurd h hne
              | cons c r => exact ⟨c, r, rfl⟩
            have i1 := dig_int hne (by omega) ha
            refine ⟨hs _ hf, c, by rw [hcr]; exact at0, ?_⟩
            rw [hcr, at0] at q
            have e0 : ((⟨#[c]⟩ : Str) = Str.ofString "0") = (c = 48) := by rw [show Str.ofString "0" = ⟨#[48]⟩ by decide +kernel, sg_inj]
            have fin : ∀ x : Int, (if f = z then valD f.cps.toList else -valD f.cps.toList) = x → (∀ H', Same H H' → Q (oI (if -m ≤ x ∧ x ≤ m then some x else none)) H') →
                if -m ≤ x then if x ≤ m then Q (V.int x) H1 else Q V.non H1 else Q V.non H1 := fun x _ q => by
              have q := q H1 sm
              by_cases d1 : -m ≤ x
              · rw [if_pos d1]
                by_cases d2 : x ≤ m
                · rw [if_pos d2]; rw [if_pos ⟨d1, d2⟩] at q; exact q
                · rw [if_neg d2]; rw [if_neg (fun z => d2 z.2)] at q; exact q
              · rw [if_neg d1]; rw [if_neg (fun z => d1 z.1)] at q; exact q
            have tail : (∀ H', Same H H' → Q (oI (let n := if f = z then valD (c :: r) else -valD (c :: r); if -m ≤ n ∧ n ≤ m then some n else none)) H') → if f = z then
                ∃ x, intText? f = some x ∧ f.length ≤ 640 ∧ if -m ≤ x then if x ≤ m then Q (V.int x) H1 else Q V.non H1 else Q V.non H1
              else ∃ x, intText? f = some x ∧ f.length ≤ 640 ∧ if -m ≤ -x then if -x ≤ m then Q (V.int (-x)) H1 else Q V.non H1 else Q V.non H1 := fun q => by
              by_cases d : f = z
              · rw [if_pos d]
                refine ⟨_, i1, by omega, fin _ (by rw [if_pos d]) ?_⟩
                simp only [if_pos d, ← hcr] at q
                exact q
              · rw [if_neg d]
                refine ⟨_, i1, by omega, fin _ (by rw [if_neg d]) ?_⟩
                simp only [if_neg d, ← hcr] at q
                exact q
            by_cases c2 : c = 48
            · rw [if_pos (by rw [e0]; exact c2)]
              by_cases c3 : z = Str.ofString "0"
              · rw [if_pos c3]
                rw [if_neg (fun h => h.2 c3)] at q
                exact tail q
              · rw [if_neg c3]
                rw [if_pos ⟨by rw [c2], c3⟩] at q
                exact q H1 sm
            · rw [if_neg (by rw [e0]; exact c2)]
              rw [if_neg (fun h => c2 (Option.some.inj h.1))] at q
              exact tail q
          · rw [if_pos (by simp [ha])]
            rw [qe, if_neg (fun z => ha z.2.2)] at q
            exact q H1 sm
      · rw [if_neg (by exact_mod_cast c1)]
        rw [qe, if_neg (fun z => c1 z.2.1)] at q
        exact q H (Same.refl H)
    · rw [if_neg (by exact_mod_cast c0)]
      rw [qe, if_neg (fun z => c0 z.1)] at q
      exact q H (Same.refl H)
end
end L2.K9
set_option maxHeartbeats 4000000
namespace L2.K9
open PySem PySem.Spec PyProof.Rows He
local macro_rules | `(tactic| walk_at "lf") => `(tactic| ((repeat' split) <;> first | contradiction | rfl | (simp_all; done)))
local macro_rules | `(tactic| walk_at "k9") => `(tactic| simp only [tRet, tRetN, tSeq, tNext, tAsg, gName, tDrop, tIfS, tIf, tVar, tC, tCB, tCons, tNil, tOp, tUn, tTest, tB, tAnd, tOr, tNot, tAndV, tOrV, tNotV, tChain, tCall, tMeth, tMake, tM1, tM0, tBM, tBM0, tSl, tPart, tNoPart, rI0, rI, rU, rEq, rNe, start, List.map_cons, List.map_nil, List.length_cons, List.length_nil, Nat.reduceAdd, Nat.reduceSub, List.replicate_succ, List.replicate_zero, List.cons_append, List.nil_append, List.append_nil, List.getElem?_cons_zero, List.getElem?_cons_succ, List.set_cons_zero, List.set_cons_succ, Option.some.injEq, V.int.injEq, V.bl.injEq, V.str.injEq, V.ref.injEq, exists_eq_left', exists_eq_left, and_true, true_and, exists_and_left, List.cons.injEq, len_s, cxK, cxP, cxW, exists_eq_right, exists_eq', scal_ss, scal_ii, scal_bb, scal_ns, eq_self, ite_nd, rSlS, rIxS, rIxL, rIxT, rSlL, tLc_str, tLc_list, tPar, gTup, tTup, tLst, tDGet1, wipe, List.foldl_cons, List.foldl_nil, sg_inj, and_assoc, exists_eq, decide_eq_true_eq, if_true, if_false, Bool.false_eq_true, Bool.not_true, Bool.not_false, rNeE, rEqE, iEnumk, iZips, gStar, tWGet, rNewStrs, tDIn, sDPut, tDisp, tPairs, sFld, tFld, rAppend, rPop, tFor_list, tFor_enumk, tFor_tup, tFor_or, tProp, gSub, rSetL, rCat])
section
variable {P : Program} {w : World} {K : PySem.W.Frag} {mg : Str → Option Value} {base : Heap}
def sp_is_any : Sp := fun vs H Q _ => ∃ k : V, vs = [k] ∧ SN k ∧ ∀ H', Same H H' → Q (.bl (isAny k)) H'
theorem len_is_any {vs : List V} {H : Hp} {Q : VK} {E : XK} (h : sp_is_any vs H Q E) : vs.length = 1 := by
  obtain ⟨_, rfl, _⟩ := h; rfl
theorem sc_is_any : FnScope ["kind"] ["kind"] (defScope s_is_any) := ⟨rfl, rfl, rfl, by decide +kernel, rfl, by decide +kernel, by decide +kernel⟩
theorem ok_is_any (g : GT w K mg) : DefOk P w K mg base 1 (ga K "is_any") ["kind"] sp_is_any := by
  obtain ⟨t_READING, c_READING⟩ := g.c_READING
  obtain ⟨t_MOMENT, c_MOMENT⟩ := g.c_MOMENT
  obtain ⟨fd, F⟩ := g.d_is_any
  refine ⟨fd, ?_, F.bindsN fun _ _ _ _ _ _ us hl => match us, hl with | [_], _ => rfl, F.kp⟩
  refine F.ok sc_is_any (fun vs H Q E h => ?_) (fun cdv A outer s H vs Q E hr h => ?_)
  · exact len_is_any h
  · obtain ⟨k, rfl, hk, q⟩ := h
    refine ⟨_, (pss_one (ps_ret (pe_cmpR op_in_seq (pv 0) (pe_lst (pa_cons (pe_glob (v := .str "moment") rfl c_MOMENT ⟨_, rfl⟩) (pa_cons (pe_glob (v := .str "reading") rfl c_READING ⟨_, rfl⟩) pa_nil))) (by rfl)))), ?_⟩
    walk_at "k9"
    refine ⟨by decide, fun p hp => ⟨p, _, rfl, .inl (.inl (.inl upd_same)), hk.fl, rfl, ?_⟩⟩
    exact q _ (sm1 hp)
def sp_kind_of_one : Sp := fun vs H Q _ => ∃ (x : Str) (k : V), vs = [.str x, k] ∧ SN k ∧ ∀ H', Same H H' → Q (kindOne x k) H'
theorem len_kind_of_one {vs : List V} {H : Hp} {Q : VK} {E : XK} (h : sp_kind_of_one vs H Q E) : vs.length = 2 := by
  obtain ⟨_, _, rfl, _⟩ := h; rfl
theorem sc_kind_of_one : FnScope ["word", "kind"] ["word", "kind"] (defScope s_kind_of_one) := ⟨rfl, rfl, rfl, by decide +kernel, rfl, by decide +kernel, by decide +kernel⟩
theorem ok_kind_of_one (g : GT w K mg) : DefOk P w K mg base 1 (ga K "kind_of_one") ["word", "kind"] sp_kind_of_one := by
  obtain ⟨t_MOMENT, c_MOMENT⟩ := g.c_MOMENT
  obtain ⟨t_READING, c_READING⟩ := g.c_READING
  obtain ⟨t_NUMBER, c_NUMBER⟩ := g.c_NUMBER
  obtain ⟨fd, F⟩ := g.d_kind_of_one
  refine ⟨fd, ?_, F.bindsN fun _ _ _ _ _ _ us hl => match us, hl with | [_, _], _ => rfl, F.kp⟩
  refine F.ok sc_kind_of_one (fun vs H Q E h => ?_) (fun cdv A outer s H vs Q E hr h => ?_)
  · exact len_kind_of_one h
  · obtain ⟨x, k, rfl, hk, q⟩ := h
    refine ⟨_, (pss_cons (ps_if (pt_cmpR op_eq (pv 0) pe_str (nomark _)) (pss_one (ps_ret (pe_ifExp (pt_cmpR op_eq (pv 1) (pe_glob (v := .str "moment") rfl c_MOMENT ⟨_, rfl⟩) (nomark _)) (pe_glob (v := .str "reading") rfl c_READING ⟨_, rfl⟩) pe_non))) pss_nil)
      (pss_one (ps_ret (pe_ifExp (PW.pt (pw_and (pt_cmpR op_in_seq (pv 0) (pe_lst (pa_cons pe_str (pa_cons pe_str pa_nil))) (by rfl)) (pw_and1 (pt_cmpR op_eq (pv 1) (pe_glob (v := .str "reading") rfl c_READING ⟨_, rfl⟩) (nomark _))))) (pe_glob (v := .str "number") rfl c_NUMBER ⟨_, rfl⟩) pe_non)))), ?_⟩
    replace q : ∀ v H', Same H H' → v = kindOne x k → Q v H' := fun v H' s e => e ▸ q H' s
    walk_at "k9"
    split
    · refine ⟨hk.sc _, ?_⟩
      split <;> exact q _ _ (Same.refl H) (by simp [kindOne, *])
    · refine ⟨by decide, fun p hp => in_l newL rfl rfl ⟨_, rfl, ?_⟩⟩
      have sm := sm1 (o := .lst [V.str "time", V.str "day"]) hp
      split
      · refine ⟨hk.sc _, ?_⟩
        split <;> exact q _ _ sm (by simp [kindOne, *])
      · exact q _ _ sm (by simp [kindOne, *])
theorem oI_non {o : Option Int} : (oI o = .non) = (o = none) := by cases o <;> simp [oI]
theorem scal_sn {a b : V} (h : SN a) (h' : SN b) : scal a b = true ∨ (a = .non ∧ b = .non) := by
  rcases h with rfl | ⟨_, rfl⟩ <;> rcases h' with rfl | ⟨_, rfl⟩ <;> simp [scal]
theorem DGet.of {H : Hp} {a : Addr} {kv : List (Key × V)} {x : Str} {Q : V → Prop} (e : H a = some (.dK kv)) (q : Q (getK kv x)) : ∃ o, DGet H a (.str x) o ∧ Q (o.getD .non) := ⟨_, DGet.k (k := .inr x) e, q⟩
def sp_kind_of_two : Sp := fun vs H Q _ => ∃ (x : Str) (k : V) (t : Str) (a : Addr) (kv : List (Key × V)), vs = [.str x, k, .str t, .ref a] ∧ SN k ∧ t.length ≤ 1000000 ∧ H a = some (.dK kv) ∧ SK kv ∧ ∀ H', Same H H' → Q (kindTwo x k t kv) H'
theorem len_kind_of_two {vs : List V} {H : Hp} {Q : VK} {E : XK} (h : sp_kind_of_two vs H Q E) : vs.length = 4 := by
  obtain ⟨_, _, _, _, _, rfl, _⟩ := h; rfl
theorem sc_kind_of_two : FnScope ["word", "kind", "told", "kinds", "fits"] ["word", "kind", "told", "kinds"] (defScope s_kind_of_two) := ⟨rfl, rfl, rfl, by decide +kernel, rfl, by decide +kernel, by decide +kernel⟩
theorem ok_kind_of_two (g : GT w K mg) : DefOk P w K mg base 2 (ga K "kind_of_two") ["word", "kind", "told", "kinds"] sp_kind_of_two := by
  obtain ⟨fd_is_any, F_is_any, B_is_any, K_is_any⟩ := ok_is_any (P := P) (w := w) (base := base) g
  obtain ⟨fd_told_integer, F_told_integer, B_told_integer, K_told_integer⟩ := ok_told_integer (P := P) (w := w) (base := base) g
  obtain ⟨fd_told_time, F_told_time, B_told_time, K_told_time⟩ := ok_told_time (P := P) (w := w) (base := base) g
  obtain ⟨t_NUMBER, c_NUMBER⟩ := g.c_NUMBER
  obtain ⟨t_TRUTH, c_TRUTH⟩ := g.c_TRUTH
  obtain ⟨t_ADD, c_ADD⟩ := g.c_ADD
  obtain ⟨t_MOST_MINUTES, c_MOST_MINUTES⟩ := g.c_MOST_MINUTES
  obtain ⟨t_READING, c_READING⟩ := g.c_READING
  obtain ⟨t_MOMENT, c_MOMENT⟩ := g.c_MOMENT
  obtain ⟨t_DAYS, c_DAYS⟩ := g.c_DAYS
  obtain ⟨t_MOST_DAYS, c_MOST_DAYS⟩ := g.c_MOST_DAYS
  obtain ⟨t_AT, c_AT⟩ := g.c_AT
  obtain ⟨fd, F⟩ := g.d_kind_of_two
  refine ⟨fd, ?_, F.bindsN fun _ _ _ _ _ _ us hl => match us, hl with | [_, _, _, _], _ => rfl, F.kp⟩
  refine F.ok sc_kind_of_two (fun vs H Q E h => ?_) (fun cdv A outer s H vs Q E hr h => ?_)
  · exact len_kind_of_two h
  · obtain ⟨x, k, t, a, kv, rfl, hk, ht, ha, hkv, q⟩ := h
    refine ⟨_, (pss_cons (ps_if (pt_cmpR op_in_seq (pv 0) (pe_lst (pa_cons pe_str (pa_cons pe_str pa_nil))) (by rfl)) (pss_cons (ps_set (i := 4) sc_kind_of_two.nd rfl (Or.inl rfl) (pe_and (pe_call F_is_any (hr.mono (by decide)) rfl g.g_is_any K_is_any B_is_any .nil pq (pa_cons (pv 1) pa_nil)) (pe_one (pe_cmpR op_eq (pe_dget1 (hu_of hr) (pv 3) (pv 2) ⟨rfl, rfl, rfl, rfl⟩) (pv 1) (nomark _)))))
      (pss_one (ps_ret (pe_ifExp (pt_not (pt_val (pv 4))) pe_non (pe_ifExp (pt_cmpR op_eq (pv 0) pe_str (nomark _)) (pe_glob (v := .str "number") rfl c_NUMBER ⟨_, rfl⟩) (pe_glob (v := .str "truth") rfl c_TRUTH ⟨_, rfl⟩)))))) pss_nil)
      (pss_cons (ps_if (pt_cmpR op_eq (pv 0) (pe_glob (v := .str "add") rfl c_ADD ⟨_, rfl⟩) (nomark _)) (pss_one (ps_ret (pe_ifExp (PW.pt (pw_and (pt_val (pe_call F_is_any (hr.mono (by decide)) rfl g.g_is_any K_is_any B_is_any .nil pq (pa_cons (pv 1) pa_nil))) (pw_and1 (pt_cmpR op_notN (pe_call F_told_integer (hr.mono (by decide)) rfl g.g_told_integer K_told_integer B_told_integer .nil pq (pa_cons (pv 2) (pa_cons (pe_glob (v := .int 100000) rfl c_MOST_MINUTES ⟨_, rfl⟩) pa_nil))) pe_non (nomark _))))) (pv 1) pe_non))) pss_nil)
      (pss_cons (ps_if (pt_cmpR op_ne (pv 1) (pe_glob (v := .str "reading") rfl c_READING ⟨_, rfl⟩) (nomark _)) (pss_one (ps_ret pe_non)) pss_nil)
      (pss_cons (ps_if (pt_cmpR op_eq (pv 0) pe_str (nomark _)) (pss_one (ps_ret (pe_ifExp (pt_cmpR op_in_seq (pv 2) (pe_glob (v := .ref (ga K "RULES_programs")) rfl g.g_RULES_programs rfl) (by rfl)) (pe_glob (v := .str "moment") rfl c_MOMENT ⟨_, rfl⟩) pe_non))) pss_nil)
      (pss_cons (ps_if (pt_cmpR op_eq (pv 0) (pe_glob (v := .str "days") rfl c_DAYS ⟨_, rfl⟩) (nomark _)) (pss_one (ps_ret (pe_ifExp (pt_cmpR op_notN (pe_call F_told_integer (hr.mono (by decide)) rfl g.g_told_integer K_told_integer B_told_integer .nil pq (pa_cons (pv 2) (pa_cons (pe_glob (v := .int 60) rfl c_MOST_DAYS ⟨_, rfl⟩) pa_nil))) pe_non (nomark _)) (pe_glob (v := .str "reading") rfl c_READING ⟨_, rfl⟩) pe_non))) pss_nil)
      (pss_one (ps_ret (pe_ifExp (PW.pt (pw_and (pt_cmpR op_eq (pv 0) (pe_glob (v := .str "at") rfl c_AT ⟨_, rfl⟩) (nomark _)) (pw_and1 (pt_cmpR op_notN (pe_call F_told_time (hr.mono (by decide)) rfl g.g_told_time K_told_time B_told_time .nil pq (pa_cons (pv 2) pa_nil)) pe_non (nomark _))))) (pe_glob (v := .str "reading") rfl c_READING ⟨_, rfl⟩) pe_non)))))))), ?_⟩
    replace q : ∀ v H', Same H H' → v = kindTwo x k t kv → Q v H' := fun v H' s e => e ▸ q H' s
    walk_at "k9"
    refine ⟨by decide, fun p hp => in_l newL rfl rfl ⟨_, rfl, ?_⟩⟩
    have sm := sm1 (o := .lst [V.str "between", V.str "before"]) hp
    split
    · rename_i c1
      refine ⟨k, rfl, hk, fun H1 s1 => ⟨_, rfl, ?_⟩⟩
      have sm1 := sm.trans s1
      split
      · rename_i c2
        obtain ⟨ks, rfl⟩ := SN.any c2
        have ha1 := sm1 _ _ ha
        refine ⟨.inl ⟨_, .inl ha1⟩, _, DGet.k (k := .inr t) ha1, (hkv _).sc _, ?_⟩
        by_cases c3 : getK kv t = V.str ks
        · have c3' : (valV kv (.inr t)).getD .non = V.str ks := c3
          rw [if_pos c3']
          split <;> exact q _ _ sm1 (by unfold kindTwo; walk_at "lf")
        · have c3' : ¬ (valV kv (.inr t)).getD .non = V.str ks := c3
          rw [if_neg c3']
          exact q _ _ sm1 (by unfold kindTwo; walk_at "lf")
      · exact q _ _ sm1 (by unfold kindTwo; walk_at "lf")
    · split
      · refine ⟨k, rfl, hk, fun H1 s1 => ⟨_, rfl, ?_⟩⟩
        have sm1 := sm.trans s1
        split
        · refine ⟨t, _, rfl, ht, by decide +kernel, by decide +kernel, fun H2 s2 => ?_⟩
          simp only [oI_non]
          split <;> exact q _ _ (sm1.trans s2) (by unfold kindTwo; walk_at "lf")
        · exact q _ _ sm1 (by unfold kindTwo; walk_at "lf")
      · refine ⟨hk.sc _, ?_⟩
        split
        · split
          · refine in_l (g.l_RULES_programs _) rfl rfl ⟨_, rfl, ?_⟩
            split <;> exact q _ _ sm (by unfold kindTwo; walk_at "lf")
          · split
            · refine ⟨t, _, rfl, ht, by decide +kernel, by decide +kernel, fun H2 s2 => ?_⟩
              simp only [oI_non]
              split <;> exact q _ _ (sm.trans s2) (by unfold kindTwo; walk_at "lf")
            · split
              · refine ⟨t, rfl, ht, fun H2 s2 => ?_⟩
                simp only [oI_non]
                split <;> exact q _ _ (sm.trans s2) (by unfold kindTwo; walk_at "lf")
              · exact q _ _ sm (by unfold kindTwo; walk_at "lf")
        · exact q _ _ sm (by unfold kindTwo; walk_at "lf")
end
end L2.K9
set_option maxHeartbeats 4000000
namespace L2.K9
open PySem PySem.Spec PyProof.Rows He
local macro_rules | `(tactic| walk_at "lf") => `(tactic| ((repeat' split) <;> first | contradiction | rfl | (simp_all; done)))
local macro_rules | `(tactic| walk_at "k9") => `(tactic| simp only [tRet, tRetN, tSeq, tNext, tAsg, gName, tDrop, tIfS, tIf, tVar, tC, tCB, tCons, tNil, tOp, tUn, tTest, tB, tAnd, tOr, tNot, tAndV, tOrV, tNotV, tChain, tCall, tMeth, tMake, tM1, tM0, tBM, tBM0, tSl, tPart, tNoPart, rI0, rI, rU, rEq, rNe, start, List.map_cons, List.map_nil, List.length_cons, List.length_nil, Nat.reduceAdd, Nat.reduceSub, List.replicate_succ, List.replicate_zero, List.cons_append, List.nil_append, List.append_nil, List.getElem?_cons_zero, List.getElem?_cons_succ, List.set_cons_zero, List.set_cons_succ, Option.some.injEq, V.int.injEq, V.bl.injEq, V.str.injEq, V.ref.injEq, exists_eq_left', exists_eq_left, and_true, true_and, exists_and_left, List.cons.injEq, len_s, cxK, cxP, cxW, exists_eq_right, exists_eq', scal_ss, scal_ii, scal_bb, scal_ns, eq_self, ite_nd, rSlS, rIxS, rIxL, rIxT, rSlL, tLc_str, tLc_list, tPar, gTup, tTup, tLst, tDGet1, wipe, List.foldl_cons, List.foldl_nil, sg_inj, and_assoc, exists_eq, decide_eq_true_eq, if_true, if_false, Bool.false_eq_true, Bool.not_true, Bool.not_false, rNeE, rEqE, iEnumk, iZips, gStar, tWGet, rNewStrs, tDIn, sDPut, tDisp, tPairs, sFld, tFld, rAppend, rPop, tFor_list, tFor_enumk, tFor_tup, tFor_or, tProp, gSub, rSetL, rCat])
theorem cutV_tl {x : V} {r : List V} : cutV (x :: r) (some 1) none = r := by
  unfold cutV
  have e1 : HT.sIx (x :: r).length 0 (some 1) = 1 := by simp [HT.sIx]
  have e2 : HT.sIx (x :: r).length (x :: r).length none = r.length + 1 := by simp [HT.sIx]
  rw [e1, e2]
  simp
section
variable {P : Program} {w : World} {K : PySem.W.Frag} {mg : Str → Option Value} {base : Heap}
def sp_kind_of_line (K : PySem.W.Frag) : Sp := fun vs H Q _ => ∃ (b : Addr) (ws : List Str) (a : Addr) (kv : List (Key × V)), vs = [.ref b, .ref a] ∧ SqL K H b (ws.map V.str) ∧ (∀ x ∈ ws, x.length ≤ 1000000) ∧ H a = some (.dK kv) ∧ SK kv ∧ ∀ H', Same H H' → Q (kindLine ws kv) H'
theorem len_kind_of_line {vs : List V} {H : Hp} {Q : VK} {E : XK} (h : (sp_kind_of_line K) vs H Q E) : vs.length = 2 := by
  obtain ⟨_, _, _, _, rfl, _⟩ := h; rfl
theorem sc_kind_of_line : FnScope ["words", "kinds"] ["words", "kinds"] (defScope s_kind_of_line) := ⟨rfl, rfl, rfl, by decide +kernel, rfl, by decide +kernel, by decide +kernel⟩
theorem ok_kind_of_line (g : GT w K mg) : DefOk P w K mg base 3 (ga K "kind_of_line") ["words", "kinds"] (sp_kind_of_line K) := by
  obtain ⟨fd_kind_of_one, F_kind_of_one, B_kind_of_one, K_kind_of_one⟩ := ok_kind_of_one (P := P) (w := w) (base := base) g
  obtain ⟨fd_kind_of_two, F_kind_of_two, B_kind_of_two, K_kind_of_two⟩ := ok_kind_of_two (P := P) (w := w) (base := base) g
  obtain ⟨fd, F⟩ := g.d_kind_of_line
  refine ⟨fd, ?_, F.bindsN fun _ _ _ _ _ _ us hl => match us, hl with | [_, _], _ => rfl, F.kp⟩
  refine F.ok sc_kind_of_line (fun vs H Q E h => ?_) (fun cdv A outer s H vs Q E hr h => ?_)
  · exact len_kind_of_line h
  · obtain ⟨b, ws, a, kv, rfl, hb, hl, ha, hkv, q⟩ := h
    refine ⟨_, (pss_cons (ps_if (pt_cmpR op_eq (pe_callB call_len (by rfl) g.f_len (by decide +kernel) (pa_cons (pv 0) pa_nil)) pe_int (nomark _)) (pss_one (ps_ret (pe_call F_kind_of_one (hr.mono (by decide)) rfl g.g_kind_of_one K_kind_of_one B_kind_of_one .nil pq (pa_cons (pe_ix ix_list (pv 0) pe_int (fun _ _ => rfl)) (pa_cons (pe_dget1 (hu_of hr) (pv 1) (pe_ix ix_list (pv 0) pe_int (fun _ _ => rfl)) ⟨rfl, rfl, rfl, rfl⟩) pa_nil))))) pss_nil)
      (pss_cons (ps_if (pt_cmpR op_eq (pe_callB call_len (by rfl) g.f_len (by decide +kernel) (pa_cons (pv 0) pa_nil)) pe_int (nomark _)) (pss_one (ps_ret (pe_call F_kind_of_two (hr.mono (by decide)) rfl g.g_kind_of_two K_kind_of_two B_kind_of_two .nil pq (pa_cons (pe_ix ix_list (pv 0) pe_int (fun _ _ => rfl)) (pa_cons (pe_dget1 (hu_of hr) (pv 1) (pe_ix ix_list (pv 0) pe_int (fun _ _ => rfl)) ⟨rfl, rfl, rfl, rfl⟩) (pa_cons (pe_ix ix_list (pv 0) pe_int (fun _ _ => rfl)) (pa_cons (pv 1) pa_nil))))))) pss_nil)
      (pss_one (ps_ret pe_non)))), ?_⟩
    walk_at "k9"
    refine ⟨_, .inl ⟨_, hb, rfl⟩, ?_⟩
    rcases ws with _ | ⟨x, _ | ⟨y, _ | ⟨z, _ | ⟨d, r⟩⟩⟩⟩
    · exact ⟨_, .inl ⟨_, hb, rfl⟩, q H (Same.refl H)⟩
    · exact ⟨_, .inl ⟨_, hb, rfl⟩, q H (Same.refl H)⟩
    · refine ⟨_, hb, _, rfl, .inl ⟨_, .inl ha⟩, _, hb, _, rfl, _, DGet.k (k := .inr y) ha, x, _, rfl, hkv _, q⟩
    · refine ⟨_, .inl ⟨_, hb, rfl⟩, _, hb, _, rfl, .inl ⟨_, .inl ha⟩, _, hb, _, rfl, _, DGet.k (k := .inr y) ha, _, hb, _, rfl, x, _, z, _, _, rfl, hkv _, hl z (by simp), ha, hkv, q⟩
    · refine ⟨_, .inl ⟨_, hb, rfl⟩, ?_⟩
      have e1 : ¬ ((((x :: y :: z :: d :: r).map V.str).length : Int) = 2) := by simp; omega
      have e2 : ¬ ((((x :: y :: z :: d :: r).map V.str).length : Int) = 3) := by simp; omega
      first
        | exact q H (Same.refl H)
        | (rw [if_neg e1, if_neg e2]; exact q H (Same.refl H))
def sp_is_list (K : PySem.W.Frag) : Sp := fun vs H Q _ => ∃ (a : Addr) (xs : List V), vs = [.ref a] ∧ (H a = some (.lst xs) ∨ H a = some (.tup xs)) ∧ ∀ H', Same H H' → Q (.bl true) H'
theorem len_is_list {vs : List V} {H : Hp} {Q : VK} {E : XK} (h : (sp_is_list K) vs H Q E) : vs.length = 1 := by
  obtain ⟨_, _, rfl, _⟩ := h; rfl
theorem sc_is_list : FnScope ["value"] ["value"] (defScope s_is_list) := ⟨rfl, rfl, rfl, by decide +kernel, rfl, by decide +kernel, by decide +kernel⟩
theorem ok_is_list (g : GT w K mg) : DefOk P w K mg base 1 (ga K "is_list") ["value"] (sp_is_list K) := by
  obtain ⟨fd, F⟩ := g.d_is_list
  refine ⟨fd, ?_, F.bindsN fun _ _ _ _ _ _ us hl => match us, hl with | [_], _ => rfl, F.kp⟩
  refine F.ok sc_is_list (fun vs H Q E h => ?_) (fun cdv A outer s H vs Q E hr h => ?_)
  · exact len_is_list h
  · obtain ⟨a, xs, rfl, ha, q⟩ := h
    refine ⟨_, (pss_one (ps_ret (pe_callB call_isiT (by rfl) g.f_isinstance (by decide +kernel) (pa_cons (pv 0) (pa_cons (pe_tup (pa_cons (pe_bltn (v := .ty "list") (u := .type "list") (by rfl) g.f_list (by decide +kernel) rfl) (pa_cons (pe_bltn (v := .ty "tuple") (u := .type "tuple") (by rfl) g.f_tuple (by decide +kernel) rfl) pa_nil))) pa_nil))))), ?_⟩
    walk_at "k9"
    refine ⟨by decide, fun p hp => ?_⟩
    have q2 := q _ (sm1 (o := .tup [V.ty "list", V.ty "tuple"]) hp)
    have s2 := sm1 (o := .tup [V.ty "list", V.ty "tuple"]) hp
    rcases ha with ha | ha
    · exact isi_seq upd_same (.base (.lst (s2 _ _ ha))) (b := true) (by decide +kernel) (fun z => nomatch z) q2
    · exact isi_seq upd_same (.base (.tup (s2 _ _ ha))) (b := false) (by decide +kernel) (fun _ => by decide +kernel) q2
def sp_start_of (K : PySem.W.Frag) : Sp := fun vs H Q _ => ∃ (b : Addr) (ws : List Str), vs = [.ref b] ∧ SqL K H b (ws.map V.str) ∧ (∀ x ∈ ws, x.length ≤ 1000000) ∧
  ∀ v H', Same H H' → (startOf ws = none → v = .non) → (∀ xy, startOf ws = some xy → ∃ a, v = .ref a) → Q v H'
theorem len_start_of {vs : List V} {H : Hp} {Q : VK} {E : XK} (h : (sp_start_of K) vs H Q E) : vs.length = 1 := by
  obtain ⟨_, _, rfl, _⟩ := h; rfl
theorem sc_start_of : FnScope ["words", "bounds"] ["words"] (defScope s_start_of) := ⟨rfl, rfl, rfl, by decide +kernel, rfl, by decide +kernel, by decide +kernel⟩
theorem ok_start_of (g : GT w K mg) : DefOk P w K mg base 2 (ga K "start_of") ["words"] (sp_start_of K) := by
  obtain ⟨fd_told_time, F_told_time, B_told_time, K_told_time⟩ := ok_told_time (P := P) (w := w) (base := base) g
  obtain ⟨fd, F⟩ := g.d_start_of
  refine ⟨fd, ?_, F.bindsN fun _ _ _ _ _ _ us hl => match us, hl with | [_], _ => rfl, F.kp⟩
  refine F.ok sc_start_of (fun vs H Q E h => ?_) (fun cdv A outer s H vs Q E hr h => ?_)
  · exact len_start_of h
  · obtain ⟨b, ws, rfl, hb, hl, q⟩ := h
    refine ⟨_, (pss_cons (ps_if (PW.pt (pw_or (pt_cmpR op_ne (pe_callB call_len (by rfl) g.f_len (by decide +kernel) (pa_cons (pv 0) pa_nil)) pe_int (nomark _)) (pw_or1 (pt_cmpR op_ne (pe_ix ix_list (pv 0) pe_int (fun _ _ => rfl)) pe_str (nomark _))))) (pss_one (ps_ret pe_non)) pss_nil)
      (pss_cons (ps_set (i := 1) sc_start_of.nd rfl (Or.inl rfl) (pe_tup (pa_cons (pe_call F_told_time (hr.mono (by decide)) rfl g.g_told_time K_told_time B_told_time .nil pq (pa_cons (pe_ix ix_list (pv 0) pe_int (fun _ _ => rfl)) pa_nil)) (pa_cons (pe_call F_told_time (hr.mono (by decide)) rfl g.g_told_time K_told_time B_told_time .nil pq (pa_cons (pe_ix ix_list (pv 0) pe_int (fun _ _ => rfl)) pa_nil)) pa_nil))))
      (pss_one (ps_ret (pe_ifExp (PW.pt (pw_or (pt_cmpR op_in_seq pe_non (pv 1) (by rfl)) (pw_or1 (pt_cmpR op_gt (pe_ix ix_tup (pv 1) pe_int (fun _ _ => rfl)) (pe_ix ix_tup (pv 1) pe_int (fun _ _ => rfl)) (nomark _))))) pe_non (pv 1)))))), ?_⟩
    walk_at "k9"
    refine ⟨_, .inl ⟨_, hb, rfl⟩, ?_⟩
    have big : (∀ x y z, ws ≠ [x, y, z]) → Q V.non H := fun hn => q _ H (Same.refl H) (fun _ => rfl) fun xy e => by
      unfold startOf at e
      split at e
      · exact absurd rfl (hn _ _ _)
      · cases e
    rcases ws with _ | ⟨x, _ | ⟨y, _ | ⟨z, _ | ⟨d, r⟩⟩⟩⟩
    · exact big fun _ _ _ h => by cases h
    · exact big fun _ _ _ h => by cases h
    · exact big fun _ _ _ h => by cases h
    · refine ⟨_, hb, _, rfl, rfl, ?_⟩
      simp only [V.str.injEq]
      by_cases c : x = Str.ofString "start"
      · rw [if_pos c]
        refine ⟨_, hb, _, rfl, y, rfl, hl y (by simp), fun H1 s1 => ⟨_, s1.seq hb, _, rfl, z, rfl, hl z (by simp), fun H2 s2 => ⟨by decide, fun p hp => ?_⟩⟩⟩
        have sm := Same.upd (s1.trans s2) (o := .tup [oI (toldTime y), oI (toldTime z)]) hp
        refine in_t newT rfl (by cases toldTime y <;> cases toldTime z <;> rfl) ⟨_, rfl, ?_⟩
        have e : startOf [x, y, z] = startXY (toldTime y) (toldTime z) := by simp only [startOf, if_pos c]
        rw [e] at q
        generalize toldTime y = o1 at *
        generalize toldTime z = o2 at *
        cases o1 with
        | none => exact q _ _ sm (fun _ => rfl) (fun xy e => by cases e)
        | some i =>
          cases o2 with
          | none => exact q _ _ sm (fun _ => rfl) (fun xy e => by cases e)
          | some j =>
            rw [if_neg (show ¬ inV V.non [oI (some i), oI (some j)] = true from fun z => by cases z)]
            refine ⟨_, newT, _, rfl, _, newT, _, rfl, i, rfl, j, rfl, ?_⟩
            by_cases c2 : i > j
            · rw [if_pos c2]
              exact q _ _ sm (fun _ => rfl) (fun xy e => by simp only [startXY, if_pos c2] at e; cases e)
            · rw [if_neg c2]
              exact q _ _ sm (fun e => by simp only [startXY, if_neg c2] at e; cases e) (fun xy e => ⟨p, rfl⟩)
      · rw [if_neg c]
        exact q _ H (Same.refl H) (fun _ => rfl) fun xy e => by
          simp only [startOf, if_neg c] at e
          cases e
    · have e1 : ¬ ((((x :: y :: z :: d :: r).map V.str).length : Int) = 3) := by simp; omega
      rw [if_neg e1]
      exact big fun _ _ _ h => by simp at h
def sp_are_answers (K : PySem.W.Frag) : Sp := fun vs H Q _ => ∃ (b : Addr) (ws : List Str) (a : Addr) (kv : List (Key × V)), vs = [.ref b, .ref a] ∧ SqL K H b (ws.map V.str) ∧ ws ≠ [] ∧ H a = some (.dK kv) ∧ SK kv ∧ ∀ H', Same H H' → Q (.bl (areAns ws kv)) H'
theorem len_are_answers {vs : List V} {H : Hp} {Q : VK} {E : XK} (h : (sp_are_answers K) vs H Q E) : vs.length = 2 := by
  obtain ⟨_, _, _, _, rfl, _⟩ := h; rfl
theorem sc_are_answers : FnScope ["words", "kinds", "word"] ["words", "kinds"] (defScope s_are_answers) := ⟨rfl, rfl, rfl, by decide +kernel, rfl, by decide +kernel, by decide +kernel⟩
theorem ok_are_answers (g : GT w K mg) : DefOk P w K mg base 1 (ga K "are_answers") ["words", "kinds"] (sp_are_answers K) := by
  obtain ⟨t_MOST_ANSWERS, c_MOST_ANSWERS⟩ := g.c_MOST_ANSWERS
  obtain ⟨t_TRUTH, c_TRUTH⟩ := g.c_TRUTH
  obtain ⟨t_NUMBER, c_NUMBER⟩ := g.c_NUMBER
  obtain ⟨fd, F⟩ := g.d_are_answers
  refine ⟨fd, ?_, F.bindsN fun _ _ _ _ _ _ us hl => match us, hl with | [_, _], _ => rfl, F.kp⟩
  refine F.ok sc_are_answers (fun vs H Q E h => ?_) (fun cdv A outer s H vs Q E hr h => ?_)
  · exact len_are_answers h
  · obtain ⟨b, ws, a, kv, rfl, hb, hne, ha, hkv, q⟩ := h
    refine ⟨_, (pss_cons (ps_if (PW.pt (pw_or (pt_cmpR op_ne (pe_ix ix_list (pv 0) pe_int (fun _ _ => rfl)) pe_str (nomark _)) (pw_or1 (pt_not (pt_chain op_le op_le pe_int (pe_op op_sub (pe_callB call_len (by rfl) g.f_len (by decide +kernel) (pa_cons (pv 0) pa_nil)) pe_int) (pe_glob (v := .int 4) rfl c_MOST_ANSWERS ⟨_, rfl⟩)))))) (pss_one (ps_ret pe_bl)) pss_nil)
      (pss_one (ps_ret (pe_callB (cr_all rfl) (by rfl) g.f_all (by decide +kernel) (pa_cons (pe_lc (own := [("word", 2)]) (by rfl) sc_are_answers.nd (pi_list (pe_slice sl_list (pv 0) (po_some pe_int) po_none)) (blkOk_by (N := ["words", "kinds", "word"]) (own := [("word", 2)]) (show blkC _ (defScope s_are_answers) _ _ = true by decide +kernel)) (fun _ _ _ _ _ => (pg_name (i := 2) sc_are_answers.nd rfl (Or.inl rfl))) (fun _ _ _ _ _ => pts_nil) (fun _ _ _ _ _ => (pe_cmpR (op_in_K (K := K) rfl) (pe_dget1 (hu_of hr) (pv 1) (pv 2) ⟨rfl, rfl, rfl, rfl⟩) (pe_lst (pa_cons (pe_glob (v := .str "number") rfl c_NUMBER ⟨_, rfl⟩) (pa_cons (pe_glob (v := .str "truth") rfl c_TRUTH ⟨_, rfl⟩) pa_nil))) (by rfl)))) pa_nil))))), ?_⟩
    obtain ⟨x, r, rfl⟩ : ∃ x r, ws = x :: r := by
      cases ws with
      | nil => exact absurd rfl hne
      | cons x r => exact ⟨x, r, rfl⟩
    replace q : ∀ b H', Same H H' → b = areAns (x :: r) kv → Q (.bl b) H' := fun v H' s e => e ▸ q H' s
    unfold areAns at q
    walk_at "k9"
    refine ⟨_, hb, _, at0, rfl, ?_⟩
    simp only [V.str.injEq]
    by_cases c : x = Str.ofString "return"
    · rw [if_pos c]
      refine ⟨_, .inl ⟨_, hb, rfl⟩, ?_⟩
      have e : ((((x :: r).map V.str).length : Nat) : Int) - 1 = (r.length : Int) := by simp
      rw [e]
      by_cases c1 : 1 ≤ r.length
      · rw [if_pos (by omega)]
        by_cases c2 : r.length ≤ 4
        · rw [if_pos (by omega)]
          refine ⟨_, hb, fun p hp => ⟨⟨_, newL⟩, ?_⟩⟩
          rw [show cutV ((x :: r).map V.str) (some 1) none = r.map V.str from cutV_tl]
          have s1 := sm1 (o := .lst (r.map V.str)) hp
          refine lc_lsts (f := fun v => .bl (match v with | .str z => inV (getK kv z) [.str "number", .str "truth"] | _ => false)) newL (by rw [List.length_map]; omega) (fun v H2 Qy Qn hv s2 k => ?_) (fun D H2 s2 e2 => ?_)
          · obtain ⟨z, hz, rfl⟩ := List.mem_map.mp hv
            have sm := s1.trans s2
            refine ⟨rfl, ?_⟩
            walk_at "k9"
            refine ⟨.inl ⟨_, .inl (sm _ _ ha)⟩, _, DGet.k (k := .inr z) (sm _ _ ha), by decide, fun p2 hp2 => in_l newL (hkv _).fl rfl ?_⟩
            exact k _ (sm1 hp2)
          · rw [List.map_map, show ((fun v => V.bl (match v with | .str z => inV (getK kv z) [.str "number", .str "truth"] | _ => false)) ∘ V.str) = (fun z => V.bl (inV (getK kv z) [.str "number", .str "truth"])) from rfl, map_bl] at e2
            refine ⟨_, _, rfl, .of e2, ?_⟩
            rw [all_bl]
            exact q _ _ (s1.trans s2) (by simp [c, c1, c2])
        · rw [if_neg (by omega)]
          exact q _ _ (Same.refl H) (by simp [c2])
      · rw [if_neg (by omega)]
        exact q _ _ (Same.refl H) (by simp [c1])
    · rw [if_neg c]
      exact q _ _ (Same.refl H) (by simp [c])
end
end L2.K9
set_option maxHeartbeats 4000000
namespace L2.K9
open PySem PySem.Spec PyProof.Rows He
local macro_rules | `(tactic| walk_at "lf") => `(tactic| ((repeat' split) <;> first | contradiction | rfl | (simp_all; done)))
local macro_rules | `(tactic| walk_at "k9") => `(tactic| simp only [tRet, tRetN, tSeq, tNext, tAsg, gName, tDrop, tIfS, tIf, tVar, tC, tCB, tCons, tNil, tOp, tUn, tTest, tB, tAnd, tOr, tNot, tAndV, tOrV, tNotV, tChain, tCall, tMeth, tMake, tM1, tM0, tBM, tBM0, tSl, tPart, tNoPart, rI0, rI, rU, rEq, rNe, start, List.map_cons, List.map_nil, List.length_cons, List.length_nil, Nat.reduceAdd, Nat.reduceSub, List.replicate_succ, List.replicate_zero, List.cons_append, List.nil_append, List.append_nil, List.getElem?_cons_zero, List.getElem?_cons_succ, List.set_cons_zero, List.set_cons_succ, Option.some.injEq, V.int.injEq, V.bl.injEq, V.str.injEq, V.ref.injEq, exists_eq_left', exists_eq_left, and_true, true_and, exists_and_left, List.cons.injEq, len_s, cxK, cxP, cxW, exists_eq_right, exists_eq', scal_ss, scal_ii, scal_bb, scal_ns, eq_self, ite_nd, rSlS, rIxS, rIxL, rIxT, rSlL, tLc_str, tLc_list, tPar, gTup, tTup, tLst, tDGet1, wipe, List.foldl_cons, List.foldl_nil, sg_inj, and_assoc, exists_eq, decide_eq_true_eq, if_true, if_false, Bool.false_eq_true, Bool.not_true, Bool.not_false, rNeE, rEqE, iEnumk, iZips, gStar, tWGet, rNewStrs, tDIn, sDPut, tDisp, tPairs, sFld, tFld, rAppend, rPop, tFor_list, tFor_enumk, tFor_tup, tFor_or, tProp, gSub, rSetL, rCat])
section
variable {X : Cx} {b : Kd} {ta : TA} {p pos : Pos} {CX : CXT} {x : Str} {C fI : Addr} {k : Nat} {fd : FuncData} {ps : List Str} {sp : Sp}
/-- C() raised -/
theorem pmk_90 (T : XC X.K b C) (iC : PySem.W.findIn X.K (.ref C) "__init__" = some (some (.ref fI))) (tI : PySem.W.typeIn X.K (.ref fI) = some (.type "function"))
    (F1 : FnOk X.prog X.w X.K X.mg X.base CX k fI fd ps sp) (hr : Room (k + 1) X.A) (hb : Binds X.K fd ps []) (hx : Passes CX X (fun _ _ _ => False)) (hg : Gl X x) (hm : X.mg x = some (.ref C))
    (hdb : (x == ("__debug__" : Str)) = false) :
    PMk X (.Call (.Name x p) [] [] pos) (tMk9 C sp tNil) := by
  intro pins s σ H Q I h
  refine wpAny_Call_Name_kw (ld_glob I hg hm ?_ hdb)
  refine PySem.W.callWith_K0 I.kIn T.kC ?_
  obtain ⟨hz, q1⟩ := h
  exact call9 T iC tI F1 hr hb hx I .nil hz q1
end
section
variable {P : Program} {w : World} {K : PySem.W.Frag} {mg : Str → Option Value} {base : Heap}
theorem len_InvalidInteger___init__ {vs : List V} {H : Hp} {Q : VK} {E : XK} (h : (spIni1 .val K "value") vs H Q E) : vs.length = 2 := by
  obtain ⟨_, _, _, rfl, _⟩ := h; rfl
theorem sc_InvalidInteger_init : FnScope ["self", "value"] ["self", "value"] (defScope s_InvalidInteger___init__) := ⟨rfl, rfl, rfl, by decide +kernel, rfl, by decide +kernel, by decide +kernel⟩
theorem ok_InvalidInteger___init__ (g : GT w K mg) : DefOk P w K mg base 1 (ma K (ga K "InvalidInteger") "__init__") ["self", "value"] (spIni1 .val K "value") := by
  obtain ⟨fd, F⟩ := g.d_InvalidInteger___init__
  refine ⟨fd, ?_, F.bindsN fun _ _ _ _ _ _ us hl => match us, hl with | [_, _], _ => rfl, F.kp⟩
  refine F.ok sc_InvalidInteger_init (fun vs H Q E h => ?_) (fun cdv A outer s H vs Q E hr h => ?_)
  · exact len_InvalidInteger___init__ h
  · obtain ⟨a, C, v, rfl, hC, hf, ha, q⟩ := h
    refine ⟨_, (pss_cons (ps_expr (pe_xini rfl g.g_TimeError g.r_TimeError (pa_cons (pv 0) (pa_cons pe_str pa_nil)) rfl rfl rfl rfl))
      (pss_one (ps_xset (b := .val) (pv 0) (pv 1) rfl))), ?_⟩
    exact ⟨_, rfl, a, C, _, rfl, by decide, hC, ha, _, rfl, _, rfl, a, C, rfl, hC, hf, ha, q⟩
theorem len_InvalidLine___init__ {vs : List V} {H : Hp} {Q : VK} {E : XK} (h : (spIni1 .val K "index") vs H Q E) : vs.length = 2 := by
  obtain ⟨_, _, _, rfl, _⟩ := h; rfl
theorem sc_InvalidLine_init : FnScope ["self", "index"] ["self", "index"] (defScope s_InvalidLine___init__) := ⟨rfl, rfl, rfl, by decide +kernel, rfl, by decide +kernel, by decide +kernel⟩
theorem ok_InvalidLine___init__ (g : GT w K mg) : DefOk P w K mg base 1 (ma K (ga K "InvalidLine") "__init__") ["self", "index"] (spIni1 .val K "index") := by
  obtain ⟨fd, F⟩ := g.d_InvalidLine___init__
  refine ⟨fd, ?_, F.bindsN fun _ _ _ _ _ _ us hl => match us, hl with | [_, _], _ => rfl, F.kp⟩
  refine F.ok sc_InvalidLine_init (fun vs H Q E h => ?_) (fun cdv A outer s H vs Q E hr h => ?_)
  · exact len_InvalidLine___init__ h
  · obtain ⟨a, C, v, rfl, hC, hf, ha, q⟩ := h
    refine ⟨_, (pss_cons (ps_expr (pe_xini rfl g.g_TimeError g.r_TimeError (pa_cons (pv 0) (pa_cons pe_str pa_nil)) rfl rfl rfl rfl))
      (pss_one (ps_xset (b := .val) (pv 0) (pv 1) rfl))), ?_⟩
    exact ⟨_, rfl, a, C, _, rfl, by decide, hC, ha, _, rfl, _, rfl, a, C, rfl, hC, hf, ha, q⟩
theorem len_InvalidCommand___init__ {vs : List V} {H : Hp} {Q : VK} {E : XK} (h : (spIni1 .val K "value") vs H Q E) : vs.length = 2 := by
  obtain ⟨_, _, _, rfl, _⟩ := h; rfl
theorem sc_InvalidCommand_init : FnScope ["self", "value"] ["self", "value"] (defScope s_InvalidCommand___init__) := ⟨rfl, rfl, rfl, by decide +kernel, rfl, by decide +kernel, by decide +kernel⟩
theorem ok_InvalidCommand___init__ (g : GT w K mg) : DefOk P w K mg base 1 (ma K (ga K "InvalidCommand") "__init__") ["self", "value"] (spIni1 .val K "value") := by
  obtain ⟨fd, F⟩ := g.d_InvalidCommand___init__
  refine ⟨fd, ?_, F.bindsN fun _ _ _ _ _ _ us hl => match us, hl with | [_, _], _ => rfl, F.kp⟩
  refine F.ok sc_InvalidCommand_init (fun vs H Q E h => ?_) (fun cdv A outer s H vs Q E hr h => ?_)
  · exact len_InvalidCommand___init__ h
  · obtain ⟨a, C, v, rfl, hC, hf, ha, q⟩ := h
    refine ⟨_, (pss_cons (ps_expr (pe_xini rfl g.g_TimeError g.r_TimeError (pa_cons (pv 0) (pa_cons pe_str pa_nil)) rfl rfl rfl rfl))
      (pss_one (ps_xset (b := .val) (pv 0) (pv 1) rfl))), ?_⟩
    exact ⟨_, rfl, a, C, _, rfl, by decide, hC, ha, _, rfl, _, rfl, a, C, rfl, hC, hf, ha, q⟩
theorem len_InvalidJump___init__ {vs : List V} {H : Hp} {Q : VK} {E : XK} (h : (spIni1 .val K "value") vs H Q E) : vs.length = 2 := by
  obtain ⟨_, _, _, rfl, _⟩ := h; rfl
theorem sc_InvalidJump_init : FnScope ["self", "value"] ["self", "value"] (defScope s_InvalidJump___init__) := ⟨rfl, rfl, rfl, by decide +kernel, rfl, by decide +kernel, by decide +kernel⟩
theorem ok_InvalidJump___init__ (g : GT w K mg) : DefOk P w K mg base 1 (ma K (ga K "InvalidJump") "__init__") ["self", "value"] (spIni1 .val K "value") := by
  obtain ⟨fd, F⟩ := g.d_InvalidJump___init__
  refine ⟨fd, ?_, F.bindsN fun _ _ _ _ _ _ us hl => match us, hl with | [_, _], _ => rfl, F.kp⟩
  refine F.ok sc_InvalidJump_init (fun vs H Q E h => ?_) (fun cdv A outer s H vs Q E hr h => ?_)
  · exact len_InvalidJump___init__ h
  · obtain ⟨a, C, v, rfl, hC, hf, ha, q⟩ := h
    refine ⟨_, (pss_cons (ps_expr (pe_xini rfl g.g_TimeError g.r_TimeError (pa_cons (pv 0) (pa_cons pe_str pa_nil)) rfl rfl rfl rfl))
      (pss_one (ps_xset (b := .val) (pv 0) (pv 1) rfl))), ?_⟩
    exact ⟨_, rfl, a, C, _, rfl, by decide, hC, ha, _, rfl, _, rfl, a, C, rfl, hC, hf, ha, q⟩
theorem len_Duplicate___init__ {vs : List V} {H : Hp} {Q : VK} {E : XK} (h : (spIni1 .val K "label") vs H Q E) : vs.length = 2 := by
  obtain ⟨_, _, _, rfl, _⟩ := h; rfl
theorem sc_Duplicate_init : FnScope ["self", "label"] ["self", "label"] (defScope s_Duplicate___init__) := ⟨rfl, rfl, rfl, by decide +kernel, rfl, by decide +kernel, by decide +kernel⟩
theorem ok_Duplicate___init__ (g : GT w K mg) : DefOk P w K mg base 1 (ma K (ga K "Duplicate") "__init__") ["self", "label"] (spIni1 .val K "label") := by
  obtain ⟨fd, F⟩ := g.d_Duplicate___init__
  refine ⟨fd, ?_, F.bindsN fun _ _ _ _ _ _ us hl => match us, hl with | [_, _], _ => rfl, F.kp⟩
  refine F.ok sc_Duplicate_init (fun vs H Q E h => ?_) (fun cdv A outer s H vs Q E hr h => ?_)
  · exact len_Duplicate___init__ h
  · obtain ⟨a, C, v, rfl, hC, hf, ha, q⟩ := h
    refine ⟨_, (pss_cons (ps_expr (pe_xini rfl g.g_TimeError g.r_TimeError (pa_cons (pv 0) (pa_cons pe_str pa_nil)) rfl rfl rfl rfl))
      (pss_one (ps_xset (b := .val) (pv 0) (pv 1) rfl))), ?_⟩
    exact ⟨_, rfl, a, C, _, rfl, by decide, hC, ha, _, rfl, _, rfl, a, C, rfl, hC, hf, ha, q⟩
theorem len_NoLine___init__ {vs : List V} {H : Hp} {Q : VK} {E : XK} (h : (spIni1 .key K "index") vs H Q E) : vs.length = 2 := by
  obtain ⟨_, _, _, rfl, _⟩ := h; rfl
theorem sc_NoLine_init : FnScope ["self", "index"] ["self", "index"] (defScope s_NoLine___init__) := ⟨rfl, rfl, rfl, by decide +kernel, rfl, by decide +kernel, by decide +kernel⟩
theorem ok_NoLine___init__ (g : GT w K mg) : DefOk P w K mg base 1 (ma K (ga K "NoLine") "__init__") ["self", "index"] (spIni1 .key K "index") := by
  obtain ⟨fd, F⟩ := g.d_NoLine___init__
  refine ⟨fd, ?_, F.bindsN fun _ _ _ _ _ _ us hl => match us, hl with | [_, _], _ => rfl, F.kp⟩
  refine F.ok sc_NoLine_init (fun vs H Q E h => ?_) (fun cdv A outer s H vs Q E hr h => ?_)
  · exact len_NoLine___init__ h
  · obtain ⟨a, C, v, rfl, hC, hf, ha, q⟩ := h
    refine ⟨_, (pss_cons (ps_expr (pe_xini rfl g.g_MissingError g.r_MissingError (pa_cons (pv 0) (pa_cons pe_str pa_nil)) rfl rfl rfl rfl))
      (pss_one (ps_xset (b := .key) (pv 0) (pv 1) rfl))), ?_⟩
    exact ⟨_, rfl, a, C, _, rfl, by decide, hC, ha, _, rfl, _, rfl, a, C, rfl, hC, hf, ha, q⟩
theorem len_NothingToUndo___init__ {vs : List V} {H : Hp} {Q : VK} {E : XK} (h : (spIni0 .look K) vs H Q E) : vs.length = 1 := by
  obtain ⟨_, _, rfl, _⟩ := h; rfl
theorem sc_NothingToUndo_init : FnScope ["self"] ["self"] (defScope s_NothingToUndo___init__) := ⟨rfl, rfl, rfl, by decide +kernel, rfl, by decide +kernel, by decide +kernel⟩
theorem ok_NothingToUndo___init__ (g : GT w K mg) : DefOk P w K mg base 1 (ma K (ga K "NothingToUndo") "__init__") ["self"] (spIni0 .look K) := by
  obtain ⟨fd, F⟩ := g.d_NothingToUndo___init__
  refine ⟨fd, ?_, F.bindsN fun _ _ _ _ _ _ us hl => match us, hl with | [_], _ => rfl, F.kp⟩
  refine F.ok sc_NothingToUndo_init (fun vs H Q E h => ?_) (fun cdv A outer s H vs Q E hr h => ?_)
  · exact len_NothingToUndo___init__ h
  · obtain ⟨a, C, rfl, hC, ha, q⟩ := h
    refine ⟨_, (pss_one (ps_expr (pe_xini rfl g.g_StateError g.r_StateError (pa_cons (pv 0) (pa_cons pe_str pa_nil)) rfl rfl rfl rfl))), ?_⟩
    exact ⟨_, rfl, a, C, _, rfl, by decide, hC, ha, q⟩
end
end L2.K9
set_option maxHeartbeats 4000000
namespace L2.K9
open PySem PySem.Spec PyProof.Rows He
local macro_rules | `(tactic| walk_at "lf") => `(tactic| ((repeat' split) <;> first | contradiction | rfl | (simp_all; done)))
local macro_rules | `(tactic| walk_at "k9") => `(tactic| simp only [tRet, tRetN, tSeq, tNext, tAsg, gName, tDrop, tIfS, tIf, tVar, tC, tCB, tCons, tNil, tOp, tUn, tTest, tB, tAnd, tOr, tNot, tAndV, tOrV, tNotV, tChain, tCall, tMeth, tMake, tM1, tM0, tBM, tBM0, tSl, tPart, tNoPart, rI0, rI, rU, rEq, rNe, start, List.map_cons, List.map_nil, List.length_cons, List.length_nil, Nat.reduceAdd, Nat.reduceSub, List.replicate_succ, List.replicate_zero, List.cons_append, List.nil_append, List.append_nil, List.getElem?_cons_zero, List.getElem?_cons_succ, List.set_cons_zero, List.set_cons_succ, Option.some.injEq, V.int.injEq, V.bl.injEq, V.str.injEq, V.ref.injEq, exists_eq_left', exists_eq_left, and_true, true_and, exists_and_left, List.cons.injEq, len_s, cxK, cxP, cxW, exists_eq_right, exists_eq', scal_ss, scal_ii, scal_bb, scal_ns, eq_self, ite_nd, rSlS, rIxS, rIxL, rIxT, rSlL, tLc_str, tLc_list, tPar, gTup, tTup, tLst, tDGet1, wipe, List.foldl_cons, List.foldl_nil, sg_inj, and_assoc, exists_eq, decide_eq_true_eq, if_true, if_false, Bool.false_eq_true, Bool.not_true, Bool.not_false, rNeE, rEqE, iEnumk, iZips, gStar, tWGet, rNewStrs, tDIn, sDPut, tDisp, tPairs, sFld, tFld, rAppend, rPop, tFor_list, tFor_enumk, tFor_tup, tFor_or, tProp, gSub, rSetL, rCat])
theorem toldInt_ne {z : Str} {m n : Int} (h : toldInt z m = some n) : z.cps.toList ≠ [] := fun e => by
  have l0 : z.length = 0 := by
    have : z.length = z.cps.toList.length := by rw [Array.length_toList]; rfl
    rw [this, e]; rfl
  have := rem_len z
  unfold toldInt at h
  simp only at h
  rw [if_neg (fun c => by omega)] at h
  cases h
section
variable {P : Program} {w : World} {K : PySem.W.Frag} {mg : Str → Option Value} {base : Heap}
def sp_index_of : Sp := fun vs H Q _ => ∃ z : Str, vs = [.str z] ∧ z.length ≤ 1000000 ∧ ∀ H', Same H H' → Q (oI (indexOf z)) H'
theorem len_index_of {vs : List V} {H : Hp} {Q : VK} {E : XK} (h : sp_index_of vs H Q E) : vs.length = 1 := by
  obtain ⟨_, rfl, _⟩ := h; rfl
theorem sc_index_of : FnScope ["word", "number"] ["word"] (defScope s_index_of) := ⟨rfl, rfl, rfl, by decide +kernel, rfl, by decide +kernel, by decide +kernel⟩
theorem ok_index_of (g : GT w K mg) : DefOk P w K mg base 2 (ga K "index_of") ["word"] sp_index_of := by
  obtain ⟨fd_told_integer, F_told_integer, B_told_integer, K_told_integer⟩ := ok_told_integer (P := P) (w := w) (base := base) g
  obtain ⟨t_MOST_INDEX, c_MOST_INDEX⟩ := g.c_MOST_INDEX
  obtain ⟨t_DIGITS, c_DIGITS⟩ := g.c_DIGITS
  obtain ⟨fd, F⟩ := g.d_index_of
  refine ⟨fd, ?_, F.bindsN fun _ _ _ _ _ _ us hl => match us, hl with | [_], _ => rfl, F.kp⟩
  refine F.ok sc_index_of (fun vs H Q E h => ?_) (fun cdv A outer s H vs Q E hr h => ?_)
  · exact len_index_of h
  · obtain ⟨z, rfl, hz, q⟩ := h
    refine ⟨_, (pss_cons (ps_set (i := 1) sc_index_of.nd rfl (Or.inl rfl) (pe_call F_told_integer (hr.mono (by decide)) rfl g.g_told_integer K_told_integer B_told_integer .nil pq (pa_cons (pv 0) (pa_cons (pe_glob (v := .int 99) rfl c_MOST_INDEX ⟨_, rfl⟩) pa_nil))))
      (pss_one (ps_ret (pe_ifExp (PW.pt (pw_and (pt_cmpR op_notN (pv 1) pe_non (nomark _)) (pw_and1 (pt_cmpR op_in_sign (pe_ix ix_str (pv 0) pe_int (fun _ _ => rfl)) (pe_glob (v := .str "0123456789") rfl c_DIGITS ⟨_, rfl⟩) (by rfl))))) (pv 1) pe_non)))), ?_⟩
    replace q : ∀ v H', Same H H' → v = oI (indexOf z) → Q v H' := fun v H' s e => e ▸ q H' s
    walk_at "k9"
    refine ⟨z, 99, rfl, hz, by decide +kernel, by decide +kernel, fun H1 s1 => ?_⟩
    show if oI (toldInt z 99) = V.non then Q V.non H1 else z.length ≤ sizeLine ∧ ∃ c, atI z.cps.toList 0 = some c ∧ if c ∈ (Str.ofString "0123456789").cps.toList then Q (oI (toldInt z 99)) H1 else Q V.non H1
    cases e : toldInt z 99 with
    | none => exact q _ _ s1 (by unfold indexOf; rw [e]; rfl)
    | some n =>
      rw [if_neg (fun h => nomatch h)]
      cases el : z.cps.toList with
      | nil => exact absurd el (toldInt_ne e)
      | cons c r =>
        refine ⟨by rw [sizeLine_eq]; omega, c, at0, ?_⟩
        have ei : indexOf z = if hasS dgts c = true then some n else none := by unfold indexOf; rw [e, el]
        split
        · rename_i hc
          exact q _ _ s1 (by rw [ei, if_pos (show hasS dgts c = true from decide_eq_true hc)])
        · rename_i hc
          exact q _ _ s1 (by rw [ei, if_neg (show ¬ hasS dgts c = true from fun h => hc (of_decide_eq_true h))]; rfl)
def sp_part_of : Sp := fun vs H Q _ => ∃ k z : Str, vs = [.str k, .str z] ∧ z.length ≤ 1000000 ∧ ∀ H', Same H H' → Q (oI (partOf k z)) H'
theorem len_part_of {vs : List V} {H : Hp} {Q : VK} {E : XK} (h : sp_part_of vs H Q E) : vs.length = 2 := by
  obtain ⟨_, _, rfl, _⟩ := h; rfl
theorem sc_part_of : FnScope ["kind", "word"] ["kind", "word"] (defScope s_part_of) := ⟨rfl, rfl, rfl, by decide +kernel, rfl, by decide +kernel, by decide +kernel⟩
theorem ok_part_of (g : GT w K mg) : DefOk P w K mg base 3 (ga K "part_of") ["kind", "word"] sp_part_of := by
  obtain ⟨fd_index_of, F_index_of, B_index_of, K_index_of⟩ := ok_index_of (P := P) (w := w) (base := base) g
  obtain ⟨fd_told_integer, F_told_integer, B_told_integer, K_told_integer⟩ := ok_told_integer (P := P) (w := w) (base := base) g
  obtain ⟨t_MOST_NUMBER, c_MOST_NUMBER⟩ := g.c_MOST_NUMBER
  obtain ⟨fd, F⟩ := g.d_part_of
  refine ⟨fd, ?_, F.bindsN fun _ _ _ _ _ _ us hl => match us, hl with | [_, _], _ => rfl, F.kp⟩
  refine F.ok sc_part_of (fun vs H Q E h => ?_) (fun cdv A outer s H vs Q E hr h => ?_)
  · exact len_part_of h
  · obtain ⟨k, z, rfl, hz, q⟩ := h
    refine ⟨_, (pss_one (ps_ret (pe_ifExp (pt_cmpR op_eq (pv 0) pe_str (nomark _)) (pe_call F_index_of (hr.mono (by decide)) rfl g.g_index_of K_index_of B_index_of .nil pq (pa_cons (pv 1) pa_nil)) (pe_call F_told_integer (hr.mono (by decide)) rfl g.g_told_integer K_told_integer B_told_integer .nil pq (pa_cons (pv 1) (pa_cons (pe_glob (v := .int 999999999999999999999999999999) rfl c_MOST_NUMBER ⟨_, rfl⟩) pa_nil)))))), ?_⟩
    replace q : ∀ v H', Same H H' → v = oI (partOf k z) → Q v H' := fun v H' s e => e ▸ q H' s
    walk_at "k9"
    split
    · refine ⟨z, rfl, hz, fun H1 s1 => q _ _ s1 (by unfold partOf; walk_at "lf")⟩
    · refine ⟨z, _, rfl, hz, by decide +kernel, by decide +kernel, fun H1 s1 => q _ _ s1 (by unfold partOf; walk_at "lf")⟩
def PtsAt (K : PySem.W.Frag) (H : Hp) (v : V) : Pts → Prop
  | .flat l => ∃ p, v = .ref p ∧ H p = some (.lst l)
  | .rows l => ∃ p q, v = .ref p ∧ H p = some (.lst [.ref q]) ∧ H q = some (.lst (l.map V.str))
def sp_texts_of (K : PySem.W.Frag) : Sp := fun vs H Q _ => ∃ (w : Str) (b : Addr) (ws : List Str), vs = [.str w, .ref b] ∧ H b = some (.lst (ws.map V.str)) ∧ (ws.map (·.length)).sum + ws.length ≤ 1000000 ∧
  ∀ v H', Same H H' → (textsOf w ws = none → v = .non) → (∀ p, textsOf w ws = some p → PtsAt K H' v p) → Q v H'
theorem len_texts_of {vs : List V} {H : Hp} {Q : VK} {E : XK} (h : (sp_texts_of K) vs H Q E) : vs.length = 2 := by
  obtain ⟨_, _, _, rfl, _⟩ := h; rfl
theorem sc_texts_of : FnScope ["word", "words", "index"] ["word", "words"] (defScope s_texts_of) := ⟨rfl, rfl, rfl, by decide +kernel, rfl, by decide +kernel, by decide +kernel⟩
theorem ok_texts_of (g : GT w K mg) : DefOk P w K mg base 3 (ga K "texts_of") ["word", "words"] (sp_texts_of K) := by
  obtain ⟨fd_index_of, F_index_of, B_index_of, K_index_of⟩ := ok_index_of (P := P) (w := w) (base := base) g
  obtain ⟨t_BEGIN, c_BEGIN⟩ := g.c_BEGIN
  obtain ⟨fd, F⟩ := g.d_texts_of
  refine ⟨fd, ?_, F.bindsN fun _ _ _ _ _ _ us hl => match us, hl with | [_, _], _ => rfl, F.kp⟩
  refine F.ok sc_texts_of (fun vs H Q E h => ?_) (fun cdv A outer s H vs Q E hr h => ?_)
  · exact len_texts_of h
  · obtain ⟨w, b, ws, rfl, hb, hl, q⟩ := h
    refine ⟨_, (pss_cons (ps_if (pt_cmpR op_eq (pv 0) (pe_glob (v := .str "program") rfl c_BEGIN ⟨_, rfl⟩) (nomark _)) (pss_one (ps_ret (pe_ifExp (pt_cmpR (op_neE hr.units0) (pv 1) (pe_lst pa_nil) (nomark _)) (pe_lst (pa_cons (pe_split (pe_join pe_str (pv 1)) pe_str) pa_nil)) pe_non))) pss_nil)
      (pss_cons (ps_set (i := 2) sc_texts_of.nd rfl (Or.inl rfl) (pe_ifExp (pt_cmpR op_gt (pe_callB call_len (by rfl) g.f_len (by decide +kernel) (pa_cons (pv 1) pa_nil)) pe_int (nomark _)) (pe_call F_index_of (hr.mono (by decide)) rfl g.g_index_of K_index_of B_index_of .nil pq (pa_cons (pe_ix ix_list (pv 1) pe_int (fun _ _ => rfl)) pa_nil)) pe_non))
      (pss_one (ps_ret (pe_ifExp (pt_cmpR op_isN (pv 2) pe_non (nomark _)) pe_non (pe_lst (pa_cons (pv 2) (pa_cons (pe_join pe_str (pe_slice sl_list (pv 1) (po_some pe_int) po_none)) pa_nil)))))))), ?_⟩
    walk_at "k9"
    have l1 : (Str.ofString " ").length = 1 := by decide +kernel
    have hjl : ∀ l : List Str, (l.map (·.length)).sum + l.length ≤ 1000000 → (l.map (·.length)).sum + l.length * (Str.ofString " ").length ≤ 16777216 := fun l h => by rw [l1]; omega
    split
    · rename_i c
      refine ⟨Nat.zero_le _, fun p hp => ⟨_, (sm1 hp).seq (.of hb), newL, ?_⟩⟩
      have s1 := sm1 (o := .lst []) hp
      by_cases cn : ws = []
      · rw [if_pos (by rw [cn]; rfl)]
        exact q _ _ s1 (fun _ => rfl) fun p e => by simp only [textsOf, if_pos c, if_pos cn] at e; cases e
      · rw [if_neg (by simpa using cn)]
        refine ⟨ws, .inl (s1.seq (.of hb)), hjl ws hl, by decide +kernel, ?_, fun p1 hp1 => ⟨by decide, fun p2 hp2 => ?_⟩⟩
        · have := join_le ws l1
          rw [sizeLine_eq]
          omega
        · refine q _ _ (Same.upd (Same.upd s1 hp1) hp2) (fun e => by simp only [textsOf, if_pos c, if_neg cn] at e; cases e) fun p e => ?_
          simp only [textsOf, if_pos c, if_neg cn] at e
          cases e
          refine ⟨p2, p1, rfl, upd_same, ?_⟩
          rw [upd_ne (fun z => by rw [← z, upd_same] at hp2; cases hp2), upd_same]
    · rename_i c
      refine ⟨_, .inl ⟨_, .of hb, rfl⟩, ?_⟩
      rcases ws with _ | ⟨a, _ | ⟨b2, r⟩⟩
      · exact q _ _ (Same.refl H) (fun _ => rfl) fun p e => by simp only [textsOf, if_neg c] at e; cases e
      · exact q _ _ (Same.refl H) (fun _ => rfl) fun p e => by simp only [textsOf, if_neg c] at e; cases e
      · have c1 : (1 : Int) < (((a :: b2 :: r).map V.str).length : Nat) := by simp; omega
        rw [if_pos c1]
        have la : a.length ≤ 1000000 := by simp at hl; omega
        refine ⟨_, .of hb, _, at0, a, rfl, la, fun H1 s1 => ?_⟩
        show if oI (indexOf a) = V.non then Q V.non H1 else _
        have te : textsOf w (a :: b2 :: r) = (indexOf a).map fun i => Pts.flat [.int i, .str (Txt.join " " (b2 :: r))] := by simp only [textsOf, if_neg c]
        cases e : indexOf a with
        | none => exact q _ _ s1 (fun _ => rfl) fun p e2 => by rw [te, e] at e2; cases e2
        | some i =>
          rw [if_neg (fun h => nomatch h)]
          refine ⟨_, s1.seq (.of hb), fun p hp => ⟨b2 :: r, .inl (by rw [show cutV ((a :: b2 :: r).map V.str) (some 1) none = (b2 :: r).map V.str from cutV_tl]; exact newL), hjl _ (by simp at hl ⊢; omega), by decide, fun p1 hp1 => ?_⟩⟩
          refine q _ _ (Same.upd (Same.upd s1 hp) hp1) (fun e2 => by rw [te, e] at e2; cases e2) fun p e2 => ?_
          rw [te, e] at e2
          cases e2
          exact ⟨p1, rfl, upd_same⟩
end
end L2.K9
set_option maxHeartbeats 4000000
namespace L2.K9
open PySem PySem.Spec PyProof.Rows He
local macro_rules | `(tactic| walk_at "lf") => `(tactic| ((repeat' split) <;> first | contradiction | rfl | (simp_all; done)))
local macro_rules | `(tactic| walk_at "k9") => `(tactic| simp only [tRet, tRetN, tSeq, tNext, tAsg, gName, tDrop, tIfS, tIf, tVar, tC, tCB, tCons, tNil, tOp, tUn, tTest, tB, tAnd, tOr, tNot, tAndV, tOrV, tNotV, tChain, tCall, tMeth, tMake, tM1, tM0, tBM, tBM0, tSl, tPart, tNoPart, rI0, rI, rU, rEq, rNe, start, List.map_cons, List.map_nil, List.length_cons, List.length_nil, Nat.reduceAdd, Nat.reduceSub, List.replicate_succ, List.replicate_zero, List.cons_append, List.nil_append, List.append_nil, List.getElem?_cons_zero, List.getElem?_cons_succ, List.set_cons_zero, List.set_cons_succ, Option.some.injEq, V.int.injEq, V.bl.injEq, V.str.injEq, V.ref.injEq, exists_eq_left', exists_eq_left, and_true, true_and, exists_and_left, List.cons.injEq, len_s, cxK, cxP, cxW, exists_eq_right, exists_eq', scal_ss, scal_ii, scal_bb, scal_ns, eq_self, ite_nd, rSlS, rIxS, rIxL, rIxT, rSlL, tLc_str, tLc_list, tPar, gTup, tTup, tLst, tDGet1, wipe, List.foldl_cons, List.foldl_nil, sg_inj, and_assoc, exists_eq, decide_eq_true_eq, if_true, if_false, Bool.false_eq_true, Bool.not_true, Bool.not_false, rNeE, rEqE, iEnumk, iZips, gStar, tWGet, rNewStrs, tDIn, sDPut, tDisp, tPairs, sFld, tFld, rAppend, rPop, tFor_list, tFor_enumk, tFor_tup, tFor_or, tProp, gSub, rSetL, rCat])
theorem tLc_zips {K : PySem.W.Frag} {ta : TA} {g : TG} {tt : TT} {te : TE} {vs : List Nat} {σ : St} {H : Hp} {Q : VK} : tLc (iZips K ta) g tt te vs σ H Q = ta σ H fun us H1 => ∃ z b ys, us = [.str z, .ref b] ∧ SqL K H1 b ys ∧ LJ (Itzs K z b) g tt te vs σ H1 Q := rfl
theorem oI_flat {o : Option Int} : flatV (oI o) = true := by cases o <;> rfl
theorem getK_mem (kv : List (Key × V)) (z : Str) : getK kv z = .non ∨ ∃ p ∈ kv, getK kv z = p.2 := by
  unfold getK valV
  cases h : kv.find? fun kv => decide (kv.1 = Sum.inr z) with
  | none => exact .inl rfl
  | some p => exact .inr ⟨p, List.mem_of_find?_eq_some h, rfl⟩
theorem forms_val (z : Str) : getK (mapK formsL) z = .non ∨ ∃ f, getK (mapK formsL) z = .str f ∧ f.length ≤ 1000 := by
  rcases getK_mem (mapK formsL) z with h | ⟨p, hp, h⟩
  · exact .inl h
  · have : (mapK formsL).all (fun p => match p.2 with | .str f => decide (f.length ≤ 1000) | _ => false) = true := by decide +kernel
    have := List.all_eq_true.mp this p hp
    rw [h]
    split at this
    · rename_i f e
      exact .inr ⟨f, e, of_decide_eq_true this⟩
    · cases this
section
variable {P : Program} {w : World} {K : PySem.W.Frag} {mg : Str → Option Value} {base : Heap}
def sp_parts_of (K : PySem.W.Frag) : Sp := fun vs H Q _ => ∃ (z : Str) (b : Addr) (ws : List Str), vs = [.str z, .ref b] ∧ H b = some (.lst (ws.map V.str)) ∧ (ws.map (·.length)).sum + ws.length ≤ 1000000 ∧
  ∀ v H', Same H H' → (partsOf z ws = none → v = .non) → (∀ p, partsOf z ws = some p → PtsAt K H' v p) → Q v H'
theorem len_parts_of {vs : List V} {H : Hp} {Q : VK} {E : XK} (h : (sp_parts_of K) vs H Q E) : vs.length = 2 := by
  obtain ⟨_, _, _, rfl, _⟩ := h; rfl
theorem sc_parts_of : FnScope ["word", "words", "form", "parts", "kind", "text"] ["word", "words"] (defScope s_parts_of) := ⟨rfl, rfl, rfl, by decide +kernel, rfl, by decide +kernel, by decide +kernel⟩
theorem ok_parts_of (g : GT w K mg) : DefOk P w K mg base 4 (ga K "parts_of") ["word", "words"] (sp_parts_of K) := by
  obtain ⟨fd_texts_of, F_texts_of, B_texts_of, K_texts_of⟩ := ok_texts_of (P := P) (w := w) (base := base) g
  obtain ⟨fd_part_of, F_part_of, B_part_of, K_part_of⟩ := ok_part_of (P := P) (w := w) (base := base) g
  obtain ⟨t_REPLACE, c_REPLACE⟩ := g.c_REPLACE
  obtain ⟨t_PUT, c_PUT⟩ := g.c_PUT
  obtain ⟨t_BEGIN, c_BEGIN⟩ := g.c_BEGIN
  obtain ⟨t_MOST_JUMPS_commands, c_MOST_JUMPS_commands⟩ := g.c_MOST_JUMPS_commands
  obtain ⟨fd, F⟩ := g.d_parts_of
  refine ⟨fd, ?_, F.bindsN fun _ _ _ _ _ _ us hl => match us, hl with | [_, _], _ => rfl, F.kp⟩
  refine F.ok sc_parts_of (fun vs H Q E h => ?_) (fun cdv A outer s H vs Q E hr h => ?_)
  · exact len_parts_of h
  · obtain ⟨z, b, ws, rfl, hb, hl, q⟩ := h
    refine ⟨_, (pss_cons (ps_if (pt_cmpR op_in_seq (pv 0) (pe_lst (pa_cons (pe_glob (v := .str "program") rfl c_BEGIN ⟨_, rfl⟩) (pa_cons (pe_glob (v := .str "put") rfl c_PUT ⟨_, rfl⟩) (pa_cons (pe_glob (v := .str "replace") rfl c_REPLACE ⟨_, rfl⟩) pa_nil)))) (by rfl)) (pss_one (ps_ret (pe_call F_texts_of (hr.mono (by decide)) rfl g.g_texts_of K_texts_of B_texts_of .nil pq (pa_cons (pv 0) (pa_cons (pv 1) pa_nil))))) pss_nil)
      (pss_cons (ps_set (i := 2) sc_parts_of.nd rfl (Or.inl rfl) (pe_ifExp (PW.pt (pw_and (pt_cmpR op_eq (pv 0) pe_str (nomark _)) (pw_and1 (pt_chain op_le op_le pe_int (pe_callB call_len (by rfl) g.f_len (by decide +kernel) (pa_cons (pv 1) pa_nil)) (pe_glob (v := .int 4) rfl c_MOST_JUMPS_commands ⟨_, rfl⟩))))) (pe_op op_rep pe_str (pe_callB call_len (by rfl) g.f_len (by decide +kernel) (pa_cons (pv 1) pa_nil))) (pe_wget g.w_FORMS (pe_glob (v := .ref (ga K "FORMS")) rfl g.g_FORMS rfl) (pv 0) ⟨rfl, rfl, rfl, rfl⟩)))
      (pss_cons (ps_if (PW.pt (pw_or (pt_cmpR op_isN (pv 2) pe_non (nomark _)) (pw_or1 (pt_cmpR op_ne (pe_callB call_len (by rfl) g.f_len (by decide +kernel) (pa_cons (pv 2) pa_nil)) (pe_callB call_len (by rfl) g.f_len (by decide +kernel) (pa_cons (pv 1) pa_nil)) (nomark _))))) (pss_one (ps_ret pe_non)) pss_nil)
      (pss_cons (ps_setLc (i := 3) (own := [("kind", 4), ("text", 5)]) (by rfl) sc_parts_of.nd rfl rfl (by rfl) (pi_zips rfl g.f_zip (pa_cons (pv 2) (pa_cons (pv 1) pa_nil))) (blkOk_by (N := ["word", "words", "form", "parts", "kind", "text"]) (own := [("kind", 4), ("text", 5)]) (show blkC _ (defScope s_parts_of) _ _ = true by decide +kernel)) (fun _ _ _ _ _ => (pg_tup_K (K := K) (n := 2) rfl rfl (pgs_cons (pg_name (i := 4) sc_parts_of.nd rfl (Or.inl rfl)) (pgs_cons (pg_name (i := 5) sc_parts_of.nd rfl (Or.inl rfl)) pgs_nil)))) (fun _ _ _ _ _ => pts_nil) (fun _ _ _ _ _ => (pe_call F_part_of (hr.mono (by decide)) rfl g.g_part_of K_part_of B_part_of .nil passL (pa_cons (pv 4) (pa_cons (pv 5) pa_nil)))))
      (pss_one (ps_ret (pe_ifExp (pt_cmpR op_in_seq pe_non (pv 3) (by rfl)) pe_non (pv 3)))))))), ?_⟩
    replace q : ∀ v H', Same H H' → (partsOf z ws = none → v = .non) → (∀ p, partsOf z ws = some p → PtsAt K H' v p) → Q v H' := q
    have core : ∀ (f : Str) (H1 : Hp), Same H H1 → f.length = ws.length → (partsOf z ws = let ps := List.zipWith (fun k x => oI (partOf k x)) (signs f) ws; if inV .non ps = true then none else some (.flat ps)) →
        tLc (iZips K (tCons (tVar 2) (tCons (tVar 1) tNil))) (gTup K 2 (gCons (gName 4) (gCons (gName 5) gNil))) tYes (tCall sp_part_of [] E0 (tCons (tVar 4) (tCons (tVar 5) tNil))) [4, 5]
          [some (V.str z), some (V.ref b), some (V.str f), none, none, none] H1 fun x H1 => rIn K false V.non x H1 fun x_2 H' => ∃ k, x_2 = V.bl k ∧ if k = true then Q V.non H' else Q x H' := fun f H1 s1 hf hp => by
      rw [tLc_zips]
      refine ⟨_, rfl, _, rfl, f, b, ws.map V.str, rfl, s1.seq (.of hb), ?_⟩
      have hfs : f.cps.size = ws.length := hf
      have hn : min f.cps.size (ws.map V.str).length = ws.length := by rw [List.length_map, hfs]; exact Nat.min_self _
      have hw := walk_zips (K := K) (z := f) (b := b) (ys := ws.map V.str)
      rw [hn] at hw
      refine lc_map hw (fun i => oI (partOf ((signs f).getD i "") (ws.getD i ""))) (by omega) (fun _ sm => sm.seq (s1.seq (.of hb))) (fun i x H2 H3 Qy Qn hi s2 ⟨T, x1, y1, ex, hT, eH, h1, h2⟩ k => ?_) (fun D H2 s2 e2 => ?_)
      · subst ex eH
        have hc : f.cps[i]? = some (f.cps[i]'(by omega)) := Array.getElem?_eq_getElem (by omega)
        have hy : (ws.map V.str)[i]? = some (V.str ws[i]) := by rw [List.getElem?_map, List.getElem?_eq_getElem hi]; rfl
        have h1 : f.cps[i]?.map (fun c => V.str ⟨#[c]⟩) = some x1 := h1
        have h2 : (ws.map V.str)[i]? = some y1 := h2
        rw [hc] at h1
        rw [hy] at h2
        have h1 : V.str ⟨#[f.cps[i]'(by omega)]⟩ = x1 := Option.some.inj h1
        have h2 : V.str ws[i] = y1 := Option.some.inj h2
        subst h1 h2
        have e1 : (signs f).getD i "" = ⟨#[f.cps[i]'(by omega)]⟩ := by
          unfold signs
          rw [List.getD_eq_getElem?_getD, List.getElem?_map, Array.getElem?_toList, hc]
          rfl
        have e2 : ws.getD i "" = ws[i] := by rw [List.getD_eq_getElem?_getD, List.getElem?_eq_getElem hi]; rfl
        have hwl : ws[i].length ≤ 1000000 := by
          have := mem_sum (List.mem_map_of_mem (f := fun s : Str => s.length) (List.getElem_mem hi))
          omega
        refine ⟨T, _, rfl, newT, rfl, _, _, rfl, _, _, rfl, rfl, rfl, ?_⟩
        refine ⟨_, rfl, _, rfl, _, _, rfl, hwl, fun H4 s4 => ?_⟩
        have := k H4 ((sm1 hT).trans s4)
        simp only [e1, e2] at this
        exact this
      · have el : (List.range ws.length).map (fun i => oI (partOf ((signs f).getD i "") (ws.getD i ""))) = List.zipWith (fun k x => oI (partOf k x)) (signs f) ws := by
          have ls : (signs f).length = ws.length := by unfold signs; rw [List.length_map, Array.length_toList]; exact hfs
          apply List.ext_getElem
          · simp [ls]
          · intro i h1 h2
            simp only [List.length_map, List.length_range] at h1
            rw [List.getElem_map, List.getElem_range, List.getElem_zipWith]
            rw [List.getD_eq_getElem?_getD, List.getD_eq_getElem?_getD, List.getElem?_eq_getElem h1, List.getElem?_eq_getElem (by omega)]
            rfl
        rw [el] at e2
        refine in_l (.of e2) rfl ?_ ⟨_, rfl, ?_⟩
        · rw [List.all_eq_true]
          intro x hx
          obtain ⟨i, hi, rfl⟩ := List.mem_iff_getElem.mp hx
          rw [List.getElem_zipWith]
          exact oI_flat
        · split
          · rename_i c
            exact q _ _ (s1.trans s2) (fun _ => rfl) fun p e => by rw [hp] at e; simp only [c, if_true] at e; cases e
          · rename_i c
            refine q _ _ (s1.trans s2) (fun e => by rw [hp] at e; simp only [c, if_false] at e; cases e) fun p e => ?_
            rw [hp] at e
            simp only [c, if_false] at e
            cases e
            exact ⟨D, rfl, e2⟩
    walk_at "k9"
    refine ⟨by decide, fun p hp => in_l newL rfl rfl ⟨_, rfl, ?_⟩⟩
    have s1 := sm1 (o := .lst [V.str "program", V.str "put", V.str "replace"]) hp
    split
    · rename_i c
      have hpo : partsOf z ws = textsOf z ws := by unfold partsOf; rw [if_pos c]
      refine ⟨z, b, ws, rfl, s1 _ _ hb, hl, fun v H' s2 h1 h2 => q v H' (s1.trans s2) (by rw [hpo]; exact h1) (by rw [hpo]; exact h2)⟩
    · rename_i c
      have hpo : ∀ f, formOf z ws.length = .str f → partsOf z ws = if f.length ≠ ws.length then none else (let ps := List.zipWith (fun k x => oI (partOf k x)) (signs f) ws; if inV .non ps = true then none else some (.flat ps)) := fun f e => by
        unfold partsOf; rw [if_neg c, e]
      have hpn : formOf z ws.length = .non → partsOf z ws = none := fun e => by unfold partsOf; rw [if_neg c, e]
      have hbn : LenV K (V.ref b) (upd H p (HO.lst [V.str "program", V.str "put", V.str "replace"])) ws.length := .inl ⟨_, s1.seq (.of hb), by rw [List.length_map]⟩
      have get : (¬ (z = "jumps" ∧ 1 ≤ ws.length ∧ ws.length ≤ 4)) → if getK (mapK formsL) z = V.non then Q V.non (upd H p (HO.lst [V.str "program", V.str "put", V.str "replace"])) else
          ∃ x, LenV K (getK (mapK formsL) z) (upd H p (HO.lst [V.str "program", V.str "put", V.str "replace"])) x ∧ ∃ x_1, LenV K (V.ref b) (upd H p (HO.lst [V.str "program", V.str "put", V.str "replace"])) x_1 ∧
            if (x : Int) = x_1 then tLc (iZips K (tCons (tVar 2) (tCons (tVar 1) tNil))) (gTup K 2 (gCons (gName 4) (gCons (gName 5) gNil))) tYes (tCall sp_part_of [] E0 (tCons (tVar 4) (tCons (tVar 5) tNil))) [4, 5]
              [some (V.str z), some (V.ref b), some (getK (mapK formsL) z), none, none, none] (upd H p (HO.lst [V.str "program", V.str "put", V.str "replace"])) (fun x H1 => rIn K false V.non x H1 fun x_2 H' => ∃ k, x_2 = V.bl k ∧ if k = true then Q V.non H' else Q x H')
            else Q V.non (upd H p (HO.lst [V.str "program", V.str "put", V.str "replace"])) := fun nj => by
        have hfo : formOf z ws.length = getK (mapK formsL) z := by unfold formOf; rw [if_neg nj]; rfl
        rcases forms_val z with e | ⟨f, e, hf⟩
        · rw [if_pos e]
          exact q _ _ s1 (fun _ => rfl) fun p e2 => by rw [hpn (hfo.trans e)] at e2; cases e2
        · rw [e, if_neg (fun h => nomatch h)]
          refine ⟨f.length, ⟨by rw [sizeLine_eq]; omega, rfl⟩, _, hbn, ?_⟩
          have h0 := hpo f (hfo.trans e)
          split
          · rename_i c2
            have c2 : f.length = ws.length := by exact_mod_cast c2
            refine core f _ s1 c2 ?_
            rw [h0, if_neg (fun h => h c2)]
          · rename_i c2
            have c2 : ¬ f.length = ws.length := fun h => c2 (by rw [h])
            exact q _ _ s1 (fun _ => rfl) fun p e2 => by rw [h0, if_pos c2] at e2; cases e2
      split
      · rename_i cj
        refine ⟨_, hbn, ?_⟩
        split
        · rename_i c1
          split
          · rename_i c4
            have c1 : 1 ≤ ws.length := by exact_mod_cast c1
            have c4 : ws.length ≤ 4 := by exact_mod_cast c4
            refine ⟨_, hbn, 110, by decide +kernel, ws.length, rfl, by omega, ?_⟩
            rw [if_neg (fun h => nomatch h)]
            have hll : (⟨(List.replicate ws.length 110).toArray⟩ : Str).length = ws.length := by
              show (List.replicate ws.length 110).toArray.size = _
              rw [List.size_toArray, List.length_replicate]
            refine ⟨by rw [hll, sizeLine_eq]; omega, _, hbn, ?_⟩
            rw [if_pos (by rw [hll])]
            have h0 := hpo ⟨(List.replicate ws.length 110).toArray⟩ (by unfold formOf; rw [if_pos ⟨cj, c1, c4⟩])
            refine core _ _ s1 hll ?_
            rw [h0, if_neg (fun h => h hll)]
          · rename_i c4
            exact get fun h => c4 (by exact_mod_cast h.2.2)
        · rename_i c1
          exact get fun h => c1 (by exact_mod_cast h.2.1)
      · rename_i cj
        exact get fun h => cj h.1
end
end L2.K9
set_option maxHeartbeats 4000000
namespace L2.K9
open PySem PySem.Spec PyProof.Rows He
local macro_rules | `(tactic| walk_at "lf") => `(tactic| ((repeat' split) <;> first | contradiction | rfl | (simp_all; done)))
local macro_rules | `(tactic| walk_at "k9") => `(tactic| simp only [tRet, tRetN, tSeq, tNext, tAsg, gName, tDrop, tIfS, tIf, tVar, tC, tCB, tCons, tNil, tOp, tUn, tTest, tB, tAnd, tOr, tNot, tAndV, tOrV, tNotV, tChain, tCall, tMeth, tMake, tM1, tM0, tBM, tBM0, tSl, tPart, tNoPart, rI0, rI, rU, rEq, rNe, start, List.map_cons, List.map_nil, List.length_cons, List.length_nil, Nat.reduceAdd, Nat.reduceSub, List.replicate_succ, List.replicate_zero, List.cons_append, List.nil_append, List.append_nil, List.getElem?_cons_zero, List.getElem?_cons_succ, List.set_cons_zero, List.set_cons_succ, Option.some.injEq, V.int.injEq, V.bl.injEq, V.str.injEq, V.ref.injEq, exists_eq_left', exists_eq_left, and_true, true_and, exists_and_left, List.cons.injEq, len_s, cxK, cxP, cxW, exists_eq_right, exists_eq', scal_ss, scal_ii, scal_bb, scal_ns, eq_self, ite_nd, rSlS, rIxS, rIxL, rIxT, rSlL, tLc_str, tLc_list, tPar, gTup, tTup, tLst, tDGet1, wipe, List.foldl_cons, List.foldl_nil, sg_inj, and_assoc, exists_eq, decide_eq_true_eq, if_true, if_false, Bool.false_eq_true, Bool.not_true, Bool.not_false, rNeE, rEqE, iEnumk, iZips, gStar, tWGet, rNewStrs, tDIn, sDPut, tDisp, tPairs, sFld, tFld, rAppend, rPop, tFor_list, tFor_enumk, tFor_tup, tFor_or, tProp, gSub, rSetL, rCat])
/-- C(v) raised: nothing that stood is touched -/
theorem mk1 {K : PySem.W.Frag} {b : Kd} {C : Addr} {f : Str} {v : V} {H1 : Hp} {Q : XK} (x : XC K b C) (na : PySem.W.findIn K (.ref C) f = some none) (q : ∀ d H', Same H1 H' → Q (.ref C) d H') :
    [v].length ≤ 1000 ∧ ∀ a, H1 a = none → spIni1 b K f (.ref a :: [v]) (upd H1 a (exo a C none))
      (fun v H2 => v = .non ∧ ((∃ (d : Addr) (fs : List (Str × V)), H2 a = some (exo a C (some d)) ∧ H2 d = some (exd d fs) ∧ H1 d = none ∧ Q (.ref C) (some d) (upd (del H2 a) d (.xd fs))) ∨ (H2 = upd H1 a (exo a C none) ∧ Q (.ref C) none H1))) (fun _ _ _ => False) := by
  refine ⟨by simp, fun a ha => ⟨a, C, v, rfl, x, na, upd_same, fun d hd hne => ⟨rfl, .inl ⟨d, [(f, v)], upd_same, ?_, ?_, ?_⟩⟩⟩⟩
  · rw [upd_ne hne, upd_same]
  · rw [upd_ne hne] at hd; exact hd
  · refine q _ _ fun c u e => ?_
    have h1 : c ≠ a := ne_of_none e ha
    have h2 : c ≠ d := by
      rw [upd_ne hne] at hd
      exact ne_of_none e hd
    rw [upd_ne h2, del_ne h1, upd_ne h1, upd_ne h2, upd_ne h1]
    exact e
theorem mk0 {K : PySem.W.Frag} {b : Kd} {C : Addr} {H1 : Hp} {Q : XK} (x : XC K b C) (q : Q (.ref C) none H1) :
    ([] : List V).length ≤ 1000 ∧ ∀ a, H1 a = none → spIni0 b K (.ref a :: []) (upd H1 a (exo a C none))
      (fun v H2 => v = .non ∧ ((∃ (d : Addr) (fs : List (Str × V)), H2 a = some (exo a C (some d)) ∧ H2 d = some (exd d fs) ∧ H1 d = none ∧ Q (.ref C) (some d) (upd (del H2 a) d (.xd fs))) ∨ (H2 = upd H1 a (exo a C none) ∧ Q (.ref C) none H1))) (fun _ _ _ => False) :=
  ⟨by simp, fun a ha => ⟨a, C, rfl, x, upd_same, ⟨rfl, .inr ⟨rfl, q⟩⟩⟩⟩
theorem PtsAt.ref {K : PySem.W.Frag} {H : Hp} {v : V} {p : Pts} (h : PtsAt K H v p) : v ≠ .non := fun e => by
  subst e
  cases p with
  | flat l => obtain ⟨p, e, _⟩ := h; cases e
  | rows l => obtain ⟨p, q, e, _⟩ := h; cases e
theorem PtsAt.mono {K : PySem.W.Frag} {H H' : Hp} {v : V} {p : Pts} (h : PtsAt K H v p) (s : Same H H') : PtsAt K H' v p := by
  cases p with
  | flat l => obtain ⟨p, e, h⟩ := h; exact ⟨p, e, s _ _ h⟩
  | rows l => obtain ⟨p, q, e, h, h2⟩ := h; exact ⟨p, q, e, s _ _ h, s _ _ h2⟩
section
variable {P : Program} {w : World} {K : PySem.W.Frag} {mg : Str → Option Value} {base : Heap}
/-- an error that the law's try catches -/
def Err (K : PySem.W.Frag) (cls : Value) : Prop := PySem.W.exmAny K cls [.ref (ga K "TimeError"), .ref (ga K "MissingError"), .ref (ga K "StateError")] = some true
def EOk (K : PySem.W.Frag) (H : Hp) (E : XK) : Prop := ∀ cls d H', Err K cls → Same H H' → E cls d H'
def sp_command_of (K : PySem.W.Frag) : Sp := fun vs H Q E => ∃ z : Str, vs = [.str z] ∧ z.length ≤ 400000 ∧ (cmdM z = none → EOk K H E) ∧
  ∀ x p, cmdM z = some (x, p) → ∀ t v H', Same H H' → H' t = some (.tup [.str x, v]) → PtsAt K H' v p → Q (.ref t) H'
theorem len_command_of {vs : List V} {H : Hp} {Q : VK} {E : XK} (h : (sp_command_of K) vs H Q E) : vs.length = 1 := by
  obtain ⟨_, rfl, _⟩ := h; rfl
theorem sc_command_of : FnScope ["line", "parts", "word", "words"] ["line"] (defScope s_command_of) := ⟨rfl, rfl, rfl, by decide +kernel, rfl, by decide +kernel, by decide +kernel⟩
theorem ok_command_of (g : GT w K mg) : DefOk P w K mg base 5 (ga K "command_of") ["line"] (sp_command_of K) := by
  obtain ⟨fd_parts_of, F_parts_of, B_parts_of, K_parts_of⟩ := ok_parts_of (P := P) (w := w) (base := base) g
  obtain ⟨fd_InvalidCommand___init__, F_InvalidCommand___init__, B_InvalidCommand___init__, K_InvalidCommand___init__⟩ := ok_InvalidCommand___init__ (P := P) (w := w) (base := base) g
  obtain ⟨fd, F⟩ := g.d_command_of
  refine ⟨fd, ?_, F.bindsN fun _ _ _ _ _ _ us hl => match us, hl with | [_], _ => rfl, F.kp⟩
  refine F.ok sc_command_of (fun vs H Q E h => ?_) (fun cdv A outer s H vs Q E hr h => ?_)
  · exact len_command_of h
  · obtain ⟨z, rfl, hz, qe, q⟩ := h
    refine ⟨_, (pss_cons (ps_if (pt_not (pt_val (pe_callB call_isi (by rfl) g.f_isinstance (by decide +kernel) (pa_cons (pv 0) (pa_cons (pe_bltn (v := .ty "str") (u := .type "str") (by rfl) g.f_str (by decide +kernel) rfl) pa_nil))))) pss_never pss_nil)
      (pss_cons (ps_asg (pe_split (pv 0) pe_str) (pg_star rfl (pg_name (i := 2) sc_command_of.nd rfl (Or.inl rfl)) (pg_name (i := 3) sc_command_of.nd rfl (Or.inl rfl))))
      (pss_cons (ps_set (i := 1) sc_command_of.nd rfl (Or.inl rfl) (pe_ifExp (PW.pt (pw_and (pt_cmpR op_notIn_seq pe_str (pv 3) (by rfl)) (pw_and1 (pt_cmpR op_notIn_sign pe_str (pv 0) (by rfl))))) (pe_call F_parts_of (hr.mono (by decide)) rfl g.g_parts_of K_parts_of B_parts_of .nil pq (pa_cons (pv 2) (pa_cons (pv 3) pa_nil))) pe_non))
      (pss_cons (ps_if (pt_cmpR op_isN (pv 1) pe_non (nomark _)) (pss_one (ps_raise rfl (takes_of rfl rfl rfl rfl) (pmk_9 g.x_InvalidCommand g.i_InvalidCommand g.t_InvalidCommand F_InvalidCommand___init__ (hr.mono (by decide)) B_InvalidCommand___init__ pqF rfl g.g_InvalidCommand (pa_cons (pv 0) pa_nil) rfl rfl rfl))) pss_nil)
      (pss_one (ps_ret (pe_tup (pa_cons (pv 2) (pa_cons (pv 1) pa_nil))))))))), ?_⟩
    walk_at "k9"
    refine isi_ty (.base (.str z)) (b := true) (by decide +kernel) ⟨_, rfl, ?_⟩
    rw [if_neg (by decide)]
    refine ⟨by decide +kernel, by rw [sizeLine_eq]; omega, fun p hp => ?_⟩
    cases hs : Txt.split z (Str.ofString " ") with
    | nil => exact absurd hs (split_ne sep_sp z)
    | cons x ws =>
      have ce : cmdM z = if inV (.str "") (ws.map V.str) = false ∧ hasS z 10 = false then (partsOf x ws).map fun p => (x, p) else none := by unfold cmdM; rw [hs]
      refine ⟨_, _, newL, fun p1 hp1 => ?_⟩
      have s1 := Same.upd (o := .lst (ws.map V.str)) (sm1 (o := .lst ((x :: ws).map V.str)) hp) hp1
      have hsum := split_sum sep_sp z
      have hcnt := split_cnt sep_sp z
      rw [hs] at hsum hcnt
      have bad : cmdM z = none → ∀ H2, Same H H2 → [V.str z].length ≤ 1000 ∧ ∀ a, H2 a = none → spIni1 .val K "value" (.ref a :: [V.str z]) (upd H2 a (exo a (ga K "InvalidCommand") none))
          (fun v H3 => v = .non ∧ ((∃ (d : Addr) (fs : List (Str × V)), H3 a = some (exo a (ga K "InvalidCommand") (some d)) ∧ H3 d = some (exd d fs) ∧ H2 d = none ∧ E (.ref (ga K "InvalidCommand")) (some d) (upd (del H3 a) d (.xd fs))) ∨
            (H3 = upd H2 a (exo a (ga K "InvalidCommand") none) ∧ E (.ref (ga K "InvalidCommand")) none H2))) (fun _ _ _ => False) := fun hn H2 s2 =>
        mk1 g.x_InvalidCommand g.na_InvalidCommand fun d H' s3 => qe hn _ _ _ g.ex_InvalidCommand (s2.trans s3)
      refine nin_l newL rfl (by rw [List.all_eq_true]; intro y hy; obtain ⟨u, _, rfl⟩ := List.mem_map.mp hy; rfl) ⟨_, rfl, ?_⟩
      by_cases c1 : inV (V.str "") (ws.map V.str) = true
      · rw [if_neg (by rw [c1]; decide)]
        exact ⟨_, rfl, bad (by rw [ce, if_neg (fun h => by rw [c1] at h; cases h.1)]) _ s1⟩
      · have c1 : inV (V.str "") (ws.map V.str) = false := by simpa using c1
        rw [if_pos (by rw [c1]; rfl)]
        refine ⟨10, by decide +kernel, ?_⟩
        split
        · rename_i c2
          have c2 : hasS z 10 = true := decide_eq_true c2
          exact ⟨_, rfl, bad (by rw [ce, if_neg (fun h => by rw [c2] at h; cases h.2)]) _ s1⟩
        · rename_i c2
          have c2 : hasS z 10 = false := decide_eq_false c2
          rw [if_pos ⟨c1, c2⟩] at ce
          refine ⟨x, p1, ws, rfl, upd_same, by simp at hsum hcnt; omega, fun v H2 s2 h1 h2 => ?_⟩
          cases hp : partsOf x ws with
          | none =>
            rw [hp] at ce
            rw [if_pos (h1 hp)]
            exact ⟨_, rfl, bad ce _ (s1.trans s2)⟩
          | some pp =>
            rw [hp] at ce
            have h3 := h2 pp hp
            rw [if_neg h3.ref]
            exact ⟨by decide, fun t ht => q x pp ce t v _ (Same.upd (s1.trans s2) ht) upd_same (h3.mono (sm1 ht))⟩
end
end L2.K9
set_option maxHeartbeats 4000000
namespace L2.K9
open PySem PySem.Spec PyProof.Rows He
local macro_rules | `(tactic| walk_at "lf") => `(tactic| ((repeat' split) <;> first | contradiction | rfl | (simp_all; done)))
local macro_rules | `(tactic| walk_at "k9") => `(tactic| simp only [tRet, tRetN, tSeq, tNext, tAsg, gName, tDrop, tIfS, tIf, tVar, tC, tCB, tCons, tNil, tOp, tUn, tTest, tB, tAnd, tOr, tNot, tAndV, tOrV, tNotV, tChain, tCall, tMeth, tMake, tM1, tM0, tBM, tBM0, tSl, tPart, tNoPart, rI0, rI, rU, rEq, rNe, start, List.map_cons, List.map_nil, List.length_cons, List.length_nil, Nat.reduceAdd, Nat.reduceSub, List.replicate_succ, List.replicate_zero, List.cons_append, List.nil_append, List.append_nil, List.getElem?_cons_zero, List.getElem?_cons_succ, List.set_cons_zero, List.set_cons_succ, Option.some.injEq, V.int.injEq, V.bl.injEq, V.str.injEq, V.ref.injEq, exists_eq_left', exists_eq_left, and_true, true_and, exists_and_left, List.cons.injEq, len_s, cxK, cxP, cxW, exists_eq_right, exists_eq', scal_ss, scal_ii, scal_bb, scal_ns, eq_self, ite_nd, rSlS, rIxS, rIxL, rIxT, rSlL, tLc_str, tLc_list, tPar, gTup, tTup, tLst, tDGet1, wipe, List.foldl_cons, List.foldl_nil, sg_inj, and_assoc, exists_eq, decide_eq_true_eq, if_true, if_false, Bool.false_eq_true, Bool.not_true, Bool.not_false, rNeE, rEqE, iEnumk, iZips, gStar, tWGet, rNewStrs, tDIn, sDPut, tDisp, tPairs, sFld, tFld, rAppend, rPop, tFor_list, tFor_enumk, tFor_tup, tFor_or, tProp, gSub, rSetL, rCat])
/-- all but L stands -/
def ChgL (L : List Addr) (H H' : Hp) : Prop := ∀ b o, b ∉ L → H b = some o → H' b = some o
theorem Same.chg {H H' : Hp} {L : List Addr} (s : Same H H') : ChgL L H H' := fun b o _ e => s b o e
theorem ChgL.trans {H H1 H2 : Hp} {L : List Addr} (a : ChgL L H H1) (b : ChgL L H1 H2) : ChgL L H H2 := fun c o hc e => b c o hc (a c o hc e)
theorem ChgL.upd {H : Hp} {L : List Addr} {a : Addr} {o : HO} (h : a ∈ L) : ChgL L H (upd H a o) := fun b u hb e => by
  rw [upd_ne (fun z => hb (by rw [z]; exact h))]; exact e
def pf (a b c d e : V) : List (Str × V) := [("own_start", a), ("own_text", b), ("own_kinds", c), ("own_lines", d), ("own_answers", e)]
theorem ne1 : ((Str.ofString "own_text") == Str.ofString "own_start") = false := by decide +kernel
section
variable {a b c d e v : V}
theorem lk_start : (pf a b c d e).lookup ("own_start" : Str) = some a := by unfold pf; simp [List.lookup]
theorem lk_text : (pf a b c d e).lookup ("own_text" : Str) = some b := by
  unfold pf
  simp only [List.lookup, show ((Str.ofString "own_text") == Str.ofString "own_start") = false by decide +kernel, BEq.rfl]
theorem lk_kinds : (pf a b c d e).lookup ("own_kinds" : Str) = some c := by
  unfold pf
  simp only [List.lookup, show ((Str.ofString "own_kinds") == Str.ofString "own_start") = false by decide +kernel, show ((Str.ofString "own_kinds") == Str.ofString "own_text") = false by decide +kernel, BEq.rfl]
theorem lk_lines : (pf a b c d e).lookup ("own_lines" : Str) = some d := by
  unfold pf
  simp only [List.lookup, show ((Str.ofString "own_lines") == Str.ofString "own_start") = false by decide +kernel, show ((Str.ofString "own_lines") == Str.ofString "own_text") = false by decide +kernel, show ((Str.ofString "own_lines") == Str.ofString "own_kinds") = false by decide +kernel, BEq.rfl]
theorem lk_ans : (pf a b c d e).lookup ("own_answers" : Str) = some e := by
  unfold pf
  simp only [List.lookup, show ((Str.ofString "own_answers") == Str.ofString "own_start") = false by decide +kernel, show ((Str.ofString "own_answers") == Str.ofString "own_text") = false by decide +kernel, show ((Str.ofString "own_answers") == Str.ofString "own_kinds") = false by decide +kernel, show ((Str.ofString "own_answers") == Str.ofString "own_lines") = false by decide +kernel, BEq.rfl]
theorem lk_take : (pf a b c d e).lookup ("take" : Str) = none := by
  unfold pf
  simp only [List.lookup, show ((Str.ofString "take") == Str.ofString "own_start") = false by decide +kernel, show ((Str.ofString "take") == Str.ofString "own_text") = false by decide +kernel, show ((Str.ofString "take") == Str.ofString "own_kinds") = false by decide +kernel, show ((Str.ofString "take") == Str.ofString "own_lines") = false by decide +kernel, show ((Str.ofString "take") == Str.ofString "own_answers") = false by decide +kernel]
theorem pt_ans : putF ("own_answers" : Str) v (pf a b c d e) = pf a b c d v := by
  unfold pf
  simp only [putF, if_neg (show ¬ (Str.ofString "own_start") = Str.ofString "own_answers" by decide +kernel), if_neg (show ¬ (Str.ofString "own_text") = Str.ofString "own_answers" by decide +kernel), if_neg (show ¬ (Str.ofString "own_kinds") = Str.ofString "own_answers" by decide +kernel), if_neg (show ¬ (Str.ofString "own_lines") = Str.ofString "own_answers" by decide +kernel), if_true]
end
/-- a program while it is read: its dict, its rows -/
structure PgAt (K : PySem.W.Frag) (H : Hp) (x kd ld : Addr) (p : PSt) (z : Str) : Prop where
  mk ::
  ex : ∃ dx ad v0 as ls, H x = some (.ins (ga K "Program") dx (pf v0 (.str z) (.ref kd) (.ref ld) (.ref ad))) ∧ H ad = some (.lst as) ∧ (as = [] ↔ p.ans = false) ∧ ad ≠ ld ∧
    H ld = some (.lst ls) ∧ ls.length = p.n
  dk : H kd = some (.dK p.kv)
  sk : SK p.kv
  kn : p.kv.length ≤ p.n + 1
  n8 : p.n ≤ 8
theorem at1 {α : Type} {a b : α} {r : List α} : atI (a :: b :: r) 1 = some b := by
  unfold atI ixN
  rw [if_pos (by decide), if_pos (by simp only [List.length_cons]; omega)]
  rfl
theorem cutV_tl2 {x y : V} {r : List V} : cutV (x :: y :: r) (some 2) none = r := by
  unfold cutV
  have e1 : HT.sIx (x :: y :: r).length 0 (some 2) = 2 := by simp [HT.sIx]
  have e2 : HT.sIx (x :: y :: r).length (x :: y :: r).length none = r.length + 2 := by simp [HT.sIx]
  rw [e1, e2]
  simp
theorem putK_len (kv : List (Key × V)) (k : Key) (v : V) : (putK kv k v).length ≤ kv.length + 1 := by
  induction kv with
  | nil => simp [putK]
  | cons a r ih =>
    obtain ⟨k', v'⟩ := a
    unfold putK
    split <;> simp <;> omega
theorem SK.put {kv : List (Key × V)} (h : SK kv) (k : Key) {v : V} (hv : SN v) : SK (putK kv k v) := fun j => by
  rw [valV_put]
  split
  · exact hv
  · exact h j
theorem kindOne_sn (w : Str) (k : V) : SN (kindOne w k) := by
  unfold kindOne
  repeat' split
  all_goals first | exact SN.str | exact SN.non
theorem kindTwo_sn (w : Str) {k : V} (hk : SN k) (t : Str) (kv : List (Key × V)) : SN (kindTwo w k t kv) := by
  unfold kindTwo
  repeat' split
  all_goals first | exact SN.str | exact SN.non | exact hk
theorem kindLine_sn (ws : List Str) {kv : List (Key × V)} (hk : SK kv) : SN (kindLine ws kv) := by
  unfold kindLine
  split
  · exact kindOne_sn _ _
  · exact kindTwo_sn _ (hk _) _ _
  · exact SN.non
section
variable {P : Program} {w : World} {K : PySem.W.Frag} {mg : Str → Option Value} {base : Heap}
def sp_Program___str__ (K : PySem.W.Frag) : Sp := fun vs H Q _ => ∃ (a dx : Addr) (fs : List (Str × V)) (z : Str), vs = [.ref a] ∧ H a = some (.ins (ga K "Program") dx fs) ∧ fs.lookup ("own_text" : Str) = some (V.str z) ∧ ∀ H', Same H H' → Q (.str z) H'
theorem len_Program___str__ {vs : List V} {H : Hp} {Q : VK} {E : XK} (h : (sp_Program___str__ K) vs H Q E) : vs.length = 1 := by
  obtain ⟨_, _, _, _, rfl, _⟩ := h; rfl
theorem sc_Program_str : FnScope ["self"] ["self"] (defScope s_Program___str__) := ⟨rfl, rfl, rfl, by decide +kernel, rfl, by decide +kernel, by decide +kernel⟩
theorem ok_Program___str__ (g : GT w K mg) : DefOk P w K mg base 1 (ma K (ga K "Program") "__str__") ["self"] (sp_Program___str__ K) := by
  obtain ⟨fd, F⟩ := g.d_Program___str__
  refine ⟨fd, ?_, F.bindsN fun _ _ _ _ _ _ us hl => match us, hl with | [_], _ => rfl, F.kp⟩
  refine F.ok sc_Program_str (fun vs H Q E h => ?_) (fun cdv A outer s H vs Q E hr h => ?_)
  · exact len_Program___str__ h
  · obtain ⟨a, dx, fs, z, rfl, ha, hl, q⟩ := h
    refine ⟨_, (pss_one (ps_ret (pe_callTy SkE.call_str_str (by rfl) g.f_str (by decide +kernel) (pa_cons (pe_fld (pv 0) rfl) pa_nil)))), ?_⟩
    exact ⟨_, rfl, a, _, dx, fs, _, rfl, ha, g.k_Program, g.n_Program_own_text, hl, _, rfl, q H (Same.refl H)⟩
def sp_Program_take (K : PySem.W.Frag) : Sp := fun vs H Q E => ∃ (x : Addr) (i : Int) (b : Addr) (ws : List Str) (kd ld : Addr) (p : PSt) (z : Str), vs = [.ref x, .int i, .ref b] ∧ PgAt K H x kd ld p z ∧ H b = some (.lst (ws.map V.str)) ∧ ws ≠ [] ∧ b ≠ ld ∧
  (∀ y ∈ ws, y.length ≤ 1000000) ∧ ws.length ≤ 1000000 ∧ (takeM p ws = none → EOk K H E) ∧ ∀ p', takeM p ws = some p' → ∀ H', ChgL [x, kd, ld] H H' → PgAt K H' x kd ld p' z → Q .non H'
theorem len_Program_take {vs : List V} {H : Hp} {Q : VK} {E : XK} (h : (sp_Program_take K) vs H Q E) : vs.length = 3 := by
  obtain ⟨_, _, _, _, _, _, _, _, rfl, _⟩ := h; rfl
theorem sc_Program_take : FnScope ["self", "index", "words", "kind"] ["self", "index", "words"] (defScope s_Program_take) := ⟨rfl, rfl, rfl, by decide +kernel, rfl, by decide +kernel, by decide +kernel⟩
theorem ok_Program_take (g : GT w K mg) : DefOk P w K mg base 5 (ma K (ga K "Program") "take") ["self", "index", "words"] (sp_Program_take K) := by
  obtain ⟨fd_InvalidLine___init__, F_InvalidLine___init__, B_InvalidLine___init__, K_InvalidLine___init__⟩ := ok_InvalidLine___init__ (P := P) (w := w) (base := base) g
  obtain ⟨fd_are_answers, F_are_answers, B_are_answers, K_are_answers⟩ := ok_are_answers (P := P) (w := w) (base := base) g
  obtain ⟨fd_is_name, F_is_name, B_is_name, K_is_name⟩ := ok_is_name (P := P) (w := w) (base := base) g
  obtain ⟨fd_kind_of_line, F_kind_of_line, B_kind_of_line, K_kind_of_line⟩ := ok_kind_of_line (P := P) (w := w) (base := base) g
  obtain ⟨t_MOST_LINES, c_MOST_LINES⟩ := g.c_MOST_LINES
  obtain ⟨fd, F⟩ := g.d_Program_take
  refine ⟨fd, ?_, F.bindsN fun _ _ _ _ _ _ us hl => match us, hl with | [_, _, _], _ => rfl, F.kp⟩
  refine F.ok sc_Program_take (fun vs H Q E h => ?_) (fun cdv A outer s H vs Q E hr h => ?_)
  · exact len_Program_take h
  · obtain ⟨x, i, b, ws, kd, ld, p, z, rfl, hp, hb, hne, hbl, hwl, hwn, qe, q⟩ := h
    refine ⟨_, (pss_cons (ps_if (pt_cmpR (op_neE hr.units0) (pe_fld (pv 0) rfl) (pe_lst pa_nil) (nomark _)) (pss_one (ps_raise rfl (takes_of rfl rfl rfl rfl) (pmk_9 g.x_InvalidLine g.i_InvalidLine g.t_InvalidLine F_InvalidLine___init__ (hr.mono (by decide)) B_InvalidLine___init__ pqF rfl g.g_InvalidLine (pa_cons (pv 1) pa_nil) rfl rfl rfl))) pss_nil)
      (pss_cons (ps_if (pt_val (pe_call F_are_answers (hr.mono (by decide)) rfl g.g_are_answers K_are_answers B_are_answers .nil pq (pa_cons (pv 2) (pa_cons (pe_fld (pv 0) rfl) pa_nil)))) (pss_cons (ps_fld (pv 0) (pe_slice sl_list (pv 2) (po_some pe_int) po_none) rfl)
      (pss_one ps_retN)) pss_nil)
      (pss_cons (ps_if (PW.pt (pw_or (pt_cmpR op_ge (pe_callB call_len (by rfl) g.f_len (by decide +kernel) (pa_cons (pe_fld (pv 0) rfl) pa_nil)) (pe_glob (v := .int 8) rfl c_MOST_LINES ⟨_, rfl⟩) (nomark _)) (pw_or (pt_cmpR op_lt (pe_callB call_len (by rfl) g.f_len (by decide +kernel) (pa_cons (pv 2) pa_nil)) pe_int (nomark _)) (pw_or1 (pt_cmpR op_ne (pe_ix ix_list (pv 2) pe_int (fun _ _ => rfl)) pe_str (nomark _)))))) (pss_one (ps_raise rfl (takes_of rfl rfl rfl rfl) (pmk_9 g.x_InvalidLine g.i_InvalidLine g.t_InvalidLine F_InvalidLine___init__ (hr.mono (by decide)) B_InvalidLine___init__ pqF rfl g.g_InvalidLine (pa_cons (pv 1) pa_nil) rfl rfl rfl))) pss_nil)
      (pss_cons (ps_if (PW.pt (pw_or (pt_not (pt_val (pe_call F_is_name (hr.mono (by decide)) rfl g.g_is_name K_is_name B_is_name .nil pq (pa_cons (pe_ix ix_list (pv 2) pe_int (fun _ _ => rfl)) pa_nil)))) (pw_or (pt_cmpR op_eq (pe_ix ix_list (pv 2) pe_int (fun _ _ => rfl)) pe_str (nomark _)) (pw_or1 (pt_cmp (pc_din (hu_of hr) (pe_ix ix_list (pv 2) pe_int (fun _ _ => rfl)) (pe_fld (pv 0) rfl))))))) (pss_one (ps_raise rfl (takes_of rfl rfl rfl rfl) (pmk_9 g.x_InvalidLine g.i_InvalidLine g.t_InvalidLine F_InvalidLine___init__ (hr.mono (by decide)) B_InvalidLine___init__ pqF rfl g.g_InvalidLine (pa_cons (pv 1) pa_nil) rfl rfl rfl))) pss_nil)
      (pss_cons (ps_set (i := 3) sc_Program_take.nd rfl (Or.inl rfl) (pe_call F_kind_of_line (hr.mono (by decide)) rfl g.g_kind_of_line K_kind_of_line B_kind_of_line .nil pq (pa_cons (pe_slice sl_list (pv 2) (po_some pe_int) po_none) (pa_cons (pe_fld (pv 0) rfl) pa_nil))))
      (pss_cons (ps_if (pt_cmpR op_isN (pv 3) pe_non (nomark _)) (pss_one (ps_raise rfl (takes_of rfl rfl rfl rfl) (pmk_9 g.x_InvalidLine g.i_InvalidLine g.t_InvalidLine F_InvalidLine___init__ (hr.mono (by decide)) B_InvalidLine___init__ pqF rfl g.g_InvalidLine (pa_cons (pv 1) pa_nil) rfl rfl rfl))) pss_nil)
      (pss_cons (ps_dput (hu_of hr) (pe_fld (pv 0) rfl) (pe_ix ix_list (pv 2) pe_int (fun _ _ => rfl)) (pv 3) rfl)
      (pss_one (ps_expr (pe_bm PySem.F.plainAttrs_list PySem.F.slot_list_append PySem.F.type_list_append mt_append (pe_fld (pv 0) rfl) (pa_cons (pv 2) pa_nil))))))))))), ?_⟩
    obtain ⟨⟨dx, ad, v0, as, ls, hx, had, hans, hadl, hld, hln⟩, hdk, hsk, hkn, hn8⟩ := hp
    obtain ⟨w0, wr, rfl⟩ : ∃ w0 wr, ws = w0 :: wr := by
      cases ws with
      | nil => exact absurd rfl hne
      | cons a r => exact ⟨a, r, rfl⟩
    have bad : takeM p (w0 :: wr) = none → ∀ H2, Same H H2 → [V.int i].length ≤ 1000 ∧ ∀ a, H2 a = none → spIni1 .val K "index" (.ref a :: [V.int i]) (upd H2 a (exo a (ga K "InvalidLine") none))
          (fun v H3 => v = .non ∧ ((∃ (d : Addr) (fs : List (Str × V)), H3 a = some (exo a (ga K "InvalidLine") (some d)) ∧ H3 d = some (exd d fs) ∧ H2 d = none ∧ E (.ref (ga K "InvalidLine")) (some d) (upd (del H3 a) d (.xd fs))) ∨
            (H3 = upd H2 a (exo a (ga K "InvalidLine") none) ∧ E (.ref (ga K "InvalidLine")) none H2))) (fun _ _ _ => False) := fun hn H2 s2 =>
        mk1 g.x_InvalidLine g.na_InvalidLine fun d H' s3 => qe hn _ _ _ g.ex_InvalidLine (s2.trans s3)
    walk_at "k9"
    refine ⟨_, _, _, hx, g.k_Program, g.n_Program_own_answers, _, lk_ans, Nat.zero_le _, fun a1 ha1 => ⟨_, rfl, _, (sm1 ha1).seq (.of had), newL, ?_⟩⟩
    have s1 := sm1 (o := .lst []) ha1
    by_cases c1 : p.ans = true
    · rw [if_neg (fun h => by rw [hans.mp h] at c1; cases c1)]
      exact ⟨_, rfl, bad (by unfold takeM; rw [if_pos c1]) _ s1⟩
    · have c1f : p.ans = false := by simpa using c1
      rw [if_pos (hans.mpr c1f)]
      refine ⟨_, _, _, s1 _ _ hx, g.k_Program, g.n_Program_own_kinds, _, lk_kinds, b, _, kd, p.kv, rfl, s1.seq (.of hb), by simp, s1 _ _ hdk, hsk, fun H2 s2 => ⟨_, rfl, ?_⟩⟩
      have sm := s1.trans s2
      by_cases c2 : areAns (w0 :: wr) p.kv = true
      · rw [if_pos c2]
        refine ⟨_, sm.seq (.of hb), fun a2 ha2 => ⟨_, _, _, sm1 ha2 _ _ (sm _ _ hx), g.k_Program, g.n_Program_own_answers, by simp [pf], ?_⟩⟩
        rw [pt_ans]
        have sm2 := Same.upd (o := .lst (cutV ((w0 :: wr).map V.str) (some 1) none)) sm ha2
        have hxa : x ≠ a2 := ne_of_none (sm _ _ hx) ha2
        refine q { p with ans := true } (by unfold takeM; rw [if_neg c1, if_pos c2]) _ (ChgL.trans (Same.chg sm2) (.upd (by simp))) ⟨⟨dx, a2, v0, _, ls, upd_same, by rw [upd_ne (Ne.symm hxa), upd_same], ⟨fun e => ?_, fun e => nomatch e⟩, fun z => ?_, ?_, hln⟩, ?_, hsk, hkn, hn8⟩
        · exfalso
          rw [show cutV ((w0 :: wr).map V.str) (some 1) none = wr.map V.str from cutV_tl] at e
          have : wr = [] := by simpa using e
          subst this
          simp [areAns] at c2
        · rw [z, sm _ _ hld] at ha2; cases ha2
        · rw [upd_ne (ne_of hld hx (fun h => nomatch h))]; exact sm2 _ _ hld
        · rw [upd_ne (ne_of hdk hx (fun h => nomatch h))]; exact sm2 _ _ hdk
      · rw [if_neg c2]
        refine ⟨_, _, _, sm _ _ hx, g.k_Program, g.n_Program_own_lines, _, lk_lines, _, .inl ⟨_, sm.seq (.of hld), rfl⟩, ?_⟩
        rw [hln]
        have t0 : takeM p (w0 :: wr) = match w0 :: wr with
            | w :: e :: c :: r =>
              if 8 ≤ p.n ∨ e ≠ "=" then none
              else if isName w = false ∨ w = "return" ∨ (valV p.kv (.inr w)).isSome = true then none
              else if kindLine (c :: r) p.kv = .non then none
              else some ⟨putK p.kv (.inr w) (kindLine (c :: r) p.kv), p.n + 1, false⟩
            | _ => none := by
          unfold takeM
          rw [if_neg c1, if_neg c2]
          all_goals rfl
        by_cases c3 : 8 ≤ p.n
        · have tn : takeM p (w0 :: wr) = none := by
            rw [t0]
            split
            · rw [if_pos (.inl c3)]
            · rfl
          rw [if_pos (by exact_mod_cast c3)]
          exact ⟨_, rfl, bad tn _ sm⟩
        · rw [if_neg (by exact_mod_cast c3)]
          refine ⟨_, .inl ⟨_, sm.seq (.of hb), rfl⟩, ?_⟩
          rcases wr with _ | ⟨e, _ | ⟨c, r⟩⟩
          · exact ⟨_, rfl, bad t0 _ sm⟩
          · exact ⟨_, rfl, bad t0 _ sm⟩
          · have cl : ¬ (((((w0 :: e :: c :: r).map V.str).length : Nat) : Int) < 3) := by simp only [List.map_cons, List.length_cons]; omega
            rw [if_neg cl]
            have t0 : takeM p (w0 :: e :: c :: r) = if 8 ≤ p.n ∨ e ≠ "=" then none
              else if isName w0 = false ∨ w0 = "return" ∨ (valV p.kv (.inr w0)).isSome = true then none
              else if kindLine (c :: r) p.kv = .non then none
              else some ⟨putK p.kv (.inr w0) (kindLine (c :: r) p.kv), p.n + 1, false⟩ := t0
            refine ⟨_, sm.seq (.of hb), V.str e, ?_, rfl, ?_⟩
            · exact at1
            simp only [V.str.injEq]
            by_cases c4 : e = Str.ofString "="
            · rw [if_pos c4]
              rw [if_neg (fun h => h.elim c3 (fun h => h c4))] at t0
              refine ⟨_, sm.seq (.of hb), _, at0, w0, rfl, hwl w0 (by simp), fun H3 s3 => ⟨_, rfl, ?_⟩⟩
              have sm := sm.trans s3
              by_cases c5 : isName w0 = true
              · rw [if_neg (by rw [c5]; decide)]
                refine ⟨_, sm.seq (.of hb), _, at0, rfl, ?_⟩
                simp only [V.str.injEq]
                by_cases c6 : w0 = Str.ofString "return"
                · rw [if_pos c6]
                  exact ⟨_, rfl, bad (by rw [t0, if_pos (.inr (.inl c6))]) _ sm⟩
                · rw [if_neg c6]
                  refine ⟨_, sm.seq (.of hb), _, at0, _, _, _, sm _ _ hx, g.k_Program, g.n_Program_own_kinds, _, lk_kinds, kd, rfl, _, DGet.k (k := .inr w0) (sm _ _ hdk), ?_⟩
                  by_cases c7 : (valV p.kv (.inr w0)).isSome = true
                  · rw [if_pos c7]
                    exact ⟨_, rfl, bad (by rw [t0, if_pos (.inr (.inr c7))]) _ sm⟩
                  · rw [if_neg c7]
                    rw [if_neg (fun h => h.elim (fun h => by rw [c5] at h; cases h) fun h => h.elim c6 c7)] at t0
                    refine ⟨_, sm.seq (.of hb), fun a2 ha2 => ?_⟩
                    have ct : cutV ((w0 :: e :: c :: r).map V.str) (some 2) none = (c :: r).map V.str := cutV_tl2
                    rw [ct]
                    have sm2 := Same.upd (o := .lst ((c :: r).map V.str)) sm ha2
                    refine ⟨_, _, _, sm2 _ _ hx, g.k_Program, g.n_Program_own_kinds, _, lk_kinds, a2, c :: r, kd, p.kv, rfl, newL, fun y hy => hwl y (by simp only [List.mem_cons] at hy ⊢; exact .inr (.inr hy)), sm2 _ _ hdk, hsk, fun H4 s4 => ?_⟩
                    have sm := sm2.trans s4
                    show if kindLine (c :: r) p.kv = V.non then _ else _
                    by_cases c8 : kindLine (c :: r) p.kv = .non
                    · rw [if_pos c8]
                      exact ⟨_, rfl, bad (by rw [t0, if_pos c8]) _ sm⟩
                    · rw [if_neg c8]
                      rw [if_neg c8] at t0
                      have nxk : x ≠ kd := ne_of hx hdk (fun h => nomatch h)
                      have nlk : ld ≠ kd := ne_of hld hdk (fun h => nomatch h)
                      have nak : ad ≠ kd := ne_of had hdk (fun h => nomatch h)
                      have nxl : x ≠ ld := ne_of hx hld (fun h => nomatch h)
                      refine ⟨_, _, _, sm _ _ hx, g.k_Program, g.n_Program_own_kinds, _, lk_kinds, _, sm.seq (.of hb), _, at0, kd, rfl, _, DPut.k (k := .inr w0) (sm _ _ hdk) (by rw [sizeLine_eq]; omega), _, _, _, (upd_ne nxk).trans (sm _ _ hx), g.k_Program, g.n_Program_own_lines, _, lk_lines,
                        .inl ⟨rfl, _, .of ((upd_ne nlk).trans (sm _ _ hld))⟩, ld, rfl, _, (upd_ne nlk).trans (sm _ _ hld), by rw [sizeLine_eq]; omega, ?_⟩
                      refine q _ t0 _ (ChgL.trans (Same.chg sm) (ChgL.trans (.upd (a := kd) (by simp)) (.upd (a := ld) (by simp)))) ⟨⟨dx, ad, v0, as, ls ++ [.ref b], ?_, ?_, hans.trans ⟨fun _ => rfl, fun _ => c1f⟩, hadl, upd_same, by simp [hln]⟩, ?_, hsk.put _ (kindLine_sn _ hsk), ?_, by show p.n + 1 ≤ 8; omega⟩
                      · rw [upd_ne nxl, upd_ne nxk]; exact sm _ _ hx
                      · rw [upd_ne hadl, upd_ne nak]; exact sm _ _ had
                      · rw [upd_ne (Ne.symm nlk), upd_same]
                      · have := putK_len p.kv (.inr w0) (kindLine (c :: r) p.kv)
                        show (putK p.kv (.inr w0) (kindLine (c :: r) p.kv)).length ≤ p.n + 1 + 1
                        omega
              · rw [if_pos (by simpa using c5)]
                exact ⟨_, rfl, bad (by rw [t0, if_pos (.inl (by simpa using c5))]) _ sm⟩
            · rw [if_neg c4]
              exact ⟨_, rfl, bad (by rw [t0, if_pos (.inr c4)]) _ sm⟩
end
end L2.K9
set_option maxHeartbeats 4000000
namespace L2.K9
open PySem PySem.Spec PyProof.Rows He
local macro_rules | `(tactic| walk_at "lf") => `(tactic| ((repeat' split) <;> first | contradiction | rfl | (simp_all; done)))
local macro_rules | `(tactic| walk_at "k9") => `(tactic| simp only [tRet, tRetN, tSeq, tNext, tAsg, gName, tDrop, tIfS, tIf, tVar, tC, tCB, tCons, tNil, tOp, tUn, tTest, tB, tAnd, tOr, tNot, tAndV, tOrV, tNotV, tChain, tCall, tMeth, tMake, tM1, tM0, tBM, tBM0, tSl, tPart, tNoPart, rI0, rI, rU, rEq, rNe, start, List.map_cons, List.map_nil, List.length_cons, List.length_nil, Nat.reduceAdd, Nat.reduceSub, List.replicate_succ, List.replicate_zero, List.cons_append, List.nil_append, List.append_nil, List.getElem?_cons_zero, List.getElem?_cons_succ, List.set_cons_zero, List.set_cons_succ, Option.some.injEq, V.int.injEq, V.bl.injEq, V.str.injEq, V.ref.injEq, exists_eq_left', exists_eq_left, and_true, true_and, exists_and_left, List.cons.injEq, len_s, cxK, cxP, cxW, exists_eq_right, exists_eq', scal_ss, scal_ii, scal_bb, scal_ns, eq_self, ite_nd, rSlS, rIxS, rIxL, rIxT, rSlL, tLc_str, tLc_list, tPar, gTup, tTup, tLst, tDGet1, wipe, List.foldl_cons, List.foldl_nil, sg_inj, and_assoc, exists_eq, decide_eq_true_eq, if_true, if_false, Bool.false_eq_true, Bool.not_true, Bool.not_false, rNeE, rEqE, iEnumk, iZips, gStar, tWGet, rNewStrs, tDIn, sDPut, tDisp, tPairs, sFld, tFld, rAppend, rPop, tFor_list, tFor_enumk, tFor_tup, tFor_or, tProp, gSub, rSetL, rCat])
theorem putF_len (f : Str) (v : V) : ∀ fs : List (Str × V), (putF f v fs).length ≤ fs.length + 1
  | [] => by simp [putF]
  | (a, b) :: r => by
    unfold putF
    split
    · simp
    · have := putF_len f v r
      simp only [List.length_cons]
      omega
theorem pl4 {a b c d : Str} {v1 v2 v3 v4 : V} : (putF d v4 (putF c v3 (putF b v2 (putF a v1 [])))).length < 1000 := by
  have h1 := putF_len a v1 []
  have h2 := putF_len b v2 (putF a v1 [])
  have h3 := putF_len c v3 (putF b v2 (putF a v1 []))
  have h4 := putF_len d v4 (putF c v3 (putF b v2 (putF a v1 [])))
  simp only [List.length_nil] at h1
  omega
theorem pl3 {a b c : Str} {v1 v2 v3 : V} : (putF c v3 (putF b v2 (putF a v1 []))).length < 1000 := by
  have h1 := putF_len a v1 []
  have h2 := putF_len b v2 (putF a v1 [])
  have h3 := putF_len c v3 (putF b v2 (putF a v1 []))
  simp only [List.length_nil] at h1
  omega
theorem pl2 {a b : Str} {v1 v2 : V} : (putF b v2 (putF a v1 [])).length < 1000 := by
  have h1 := putF_len a v1 []
  have h2 := putF_len b v2 (putF a v1 [])
  simp only [List.length_nil] at h1
  omega
theorem PgAt.same {K : PySem.W.Frag} {H H' : Hp} {x kd ld : Addr} {p : PSt} {z : Str} (h : PgAt K H x kd ld p z) (s : Same H H') : PgAt K H' x kd ld p z := by
  obtain ⟨⟨dx, ad, v0, as, ls, h1, h2, h3, h4, h5, h6⟩, h7, h8, h9, h10⟩ := h
  exact ⟨⟨dx, ad, v0, as, ls, s _ _ h1, s _ _ h2, h3, h4, s _ _ h5, h6⟩, s _ _ h7, h8, h9, h10⟩
theorem takesM_app : ∀ (l1 l2 : List (List Str)) (p : PSt), takesM p (l1 ++ l2) = (takesM p l1).bind fun q => takesM q l2
  | [], _, _ => rfl
  | a :: r, l2, p => by
    show (takeM p a).bind (fun q => takesM q (r ++ l2)) = ((takeM p a).bind fun q => takesM q r).bind fun q => takesM q l2
    cases takeM p a with
    | none => rfl
    | some q => exact takesM_app r l2 q
section
variable {P : Program} {w : World} {K : PySem.W.Frag} {mg : Str → Option Value} {base : Heap}
/-- a program that stands -/
def PrAt (K : PySem.W.Frag) (H : Hp) (a : Addr) (z : Str) : Prop := ∃ dx fs, H a = some (.ins (ga K "Program") dx fs) ∧ fs.lookup ("own_text" : Str) = some (V.str z)
theorem made_same {H H' : Hp} {x dx C : Addr} (nx : H x = none) (nd : H dx = none) (s : ChgL [x] (upd (upd H dx (.own x)) x (.ins C dx [])) H') : Same H H' := fun b o e => by
  refine s b o (by simp; exact ne_of_none e nx) ?_
  rw [upd_ne (ne_of_none e nx), upd_ne (ne_of_none e nd)]
  exact e
def sp_Program___init__ (K : PySem.W.Frag) : Sp := fun vs H Q E => ∃ (x : Addr) (z : Str) (dx : Addr), vs = [.ref x, .str z] ∧ H x = some (.ins (ga K "Program") dx []) ∧ z.length ≤ 400000 ∧
  (progM z = false → ∀ cls d H', Err K cls → ChgL [x] H H' → E cls d H') ∧ (progM z = true → ∀ H', ChgL [x] H H' → PrAt K H' x z → Q .non H')
theorem len_Program___init__ {vs : List V} {H : Hp} {Q : VK} {E : XK} (h : (sp_Program___init__ K) vs H Q E) : vs.length = 2 := by
  obtain ⟨_, _, _, rfl, _⟩ := h; rfl
theorem sc_Program_init : FnScope ["self", "text", "rows", "index", "words", "line"] ["self", "text"] (defScope s_Program___init__) := ⟨rfl, rfl, rfl, by decide +kernel, rfl, by decide +kernel, by decide +kernel⟩
theorem ok_Program___init__ (g : GT w K mg) : DefOk P w K mg base 6 (ma K (ga K "Program") "__init__") ["self", "text"] (sp_Program___init__ K) := by
  obtain ⟨fd_start_of, F_start_of, B_start_of, K_start_of⟩ := ok_start_of (P := P) (w := w) (base := base) g
  obtain ⟨fd_InvalidLine___init__, F_InvalidLine___init__, B_InvalidLine___init__, K_InvalidLine___init__⟩ := ok_InvalidLine___init__ (P := P) (w := w) (base := base) g
  obtain ⟨fd_Program_take, F_Program_take, B_Program_take, K_Program_take⟩ := ok_Program_take (P := P) (w := w) (base := base) g
  obtain ⟨t_NOW, c_NOW⟩ := g.c_NOW
  obtain ⟨t_MOMENT, c_MOMENT⟩ := g.c_MOMENT
  obtain ⟨fd, F⟩ := g.d_Program___init__
  refine ⟨fd, ?_, F.bindsN fun _ _ _ _ _ _ us hl => match us, hl with | [_, _], _ => rfl, F.kp⟩
  refine F.ok sc_Program_init (fun vs H Q E h => ?_) (fun cdv A outer s H vs Q E hr h => ?_)
  · exact len_Program___init__ h
  · obtain ⟨x, z, dx, rfl, hx, hz, qe, q⟩ := h
    refine ⟨_, (pss_cons (ps_if (pt_not (pt_val (pe_callB call_isi (by rfl) g.f_isinstance (by decide +kernel) (pa_cons (pv 1) (pa_cons (pe_bltn (v := .ty "str") (u := .type "str") (by rfl) g.f_str (by decide +kernel) rfl) pa_nil))))) pss_never pss_nil)
      (pss_cons (ps_setLc (i := 2) (own := [("line", 5)]) (by rfl) sc_Program_init.nd rfl rfl (by rfl) (pi_list (pe_split (pv 1) pe_str)) (blkOk_by (N := ["self", "text", "rows", "index", "words", "line"]) (own := [("line", 5)]) (show blkC _ (defScope s_Program___init__) _ _ = true by decide +kernel)) (fun _ _ _ _ _ => (pg_name (i := 5) sc_Program_init.nd rfl (Or.inl rfl))) (fun _ _ _ _ _ => pts_nil) (fun _ _ _ _ _ => (pe_split (pv 5) pe_str)))
      (pss_cons (ps_fld (pv 0) (pe_call F_start_of (hr.mono (by decide)) rfl g.g_start_of K_start_of B_start_of .nil pq (pa_cons (pe_ix ix_list (pv 2) pe_int (fun _ _ => rfl)) pa_nil)) rfl)
      (pss_cons (ps_if (pt_cmpR op_isN (pe_fld (pv 0) rfl) pe_non (nomark _)) (pss_one (ps_raise rfl (takes_of rfl rfl rfl rfl) (pmk_9 g.x_InvalidLine g.i_InvalidLine g.t_InvalidLine F_InvalidLine___init__ (hr.mono (by decide)) B_InvalidLine___init__ pqF rfl g.g_InvalidLine (pa_cons pe_int pa_nil) rfl rfl rfl))) pss_nil)
      (pss_cons (ps_fld (pv 0) (pv 1) rfl)
      (pss_cons (ps_fld (pv 0) (pe_disp (pps_cons (pe_glob (v := .str "now") rfl c_NOW ⟨_, rfl⟩) (pe_glob (v := .str "moment") rfl c_MOMENT ⟨_, rfl⟩) pps_nil) rfl rfl (by simp) (by decide)) rfl)
      (pss_cons (ps_fld (pv 0) (pe_lst pa_nil) rfl)
      (pss_cons (ps_fld (pv 0) (pe_lst pa_nil) rfl)
      (pss_cons (ps_for po_def rfl (pi_enumk rfl g.f_enumerate (pa_cons (pe_slice sl_list (pv 2) (po_some pe_int) po_none) (pa_cons pe_int pa_nil))) (pg_tup (n := 2) rfl (pgs_cons (pg_name (i := 3) sc_Program_init.nd rfl (Or.inl rfl)) (pgs_cons (pg_name (i := 4) sc_Program_init.nd rfl (Or.inl rfl)) pgs_nil))) (pss_one (ps_expr (pe_meth (pv 0) g.k_Program g.e_Program_take F_Program_take (hr.mono (by decide)) B_Program_take .nil pq (pa_cons (pv 3) (pa_cons (pv 4) pa_nil))))))
      (pss_one (ps_if (pt_cmpR (op_eqE hr.units0) (pe_fld (pv 0) rfl) (pe_lst pa_nil) (nomark _)) (pss_one (ps_raise rfl (takes_of rfl rfl rfl rfl) (pmk_9 g.x_InvalidLine g.i_InvalidLine g.t_InvalidLine F_InvalidLine___init__ (hr.mono (by decide)) B_InvalidLine___init__ pqF rfl g.g_InvalidLine (pa_cons (pe_callB call_len (by rfl) g.f_len (by decide +kernel) (pa_cons (pv 2) pa_nil)) pa_nil) rfl rfl rfl))) pss_nil))))))))))), ?_⟩
    walk_at "k9"
    refine isi_ty (.base (.str z)) (b := true) (by decide +kernel) ⟨_, rfl, ?_⟩
    rw [if_neg (by decide)]
    refine ⟨by decide +kernel, by rw [sizeLine_eq]; omega, fun p hp => ⟨⟨_, newL⟩, ?_⟩⟩
    have s1 := sm1 (o := .lst ((Txt.split z (Str.ofString "\n")).map V.str)) hp
    generalize hlines : Txt.split z (Str.ofString "\n") = lines at *
    have hcnt : lines.length ≤ z.length + 1 := hlines ▸ split_cnt sep_nl z
    have hmem : ∀ y ∈ lines, y.length ≤ z.length := fun y hy => split_mem sep_nl (hlines ▸ hy)
    have hne : lines ≠ [] := hlines ▸ split_ne sep_nl z
    have hrows : rowsOf z = lines.map fun l => Txt.split l " " := by unfold rowsOf; rw [← hlines]
    refine lc_objs (walk_list (xs := lines.map V.str)) (fun i => .lst ((Txt.split (lines.getD i "") " ").map V.str)) (by rw [List.length_map]; omega) (fun _ sm => sm.seq newL) (fun i x H2 H3 Qy Qn hi s2 ⟨eH, ex⟩ k => ?_) (fun D ps H2 s2 eD hl hps => ?_)
    · subst eH
      rw [List.length_map] at hi
      have ex : x = V.str lines[i] := by
        rw [List.getElem?_map, List.getElem?_eq_getElem hi] at ex
        exact (Option.some.inj ex).symm
      subst ex
      refine ⟨rfl, ?_⟩
      walk_at "k9"
      refine ⟨by decide +kernel, ?_, fun p2 hp2 => ?_⟩
      · have := hmem _ (List.getElem_mem hi)
        rw [sizeLine_eq]; omega
      · have e : lines.getD i "" = lines[i] := by rw [List.getD_eq_getElem?_getD, List.getElem?_eq_getElem hi]; rfl
        refine k p2 _ (sm1 hp2) hp2 ?_
        rw [upd_same, e]
    · obtain ⟨l0, lr, rfl⟩ : ∃ l0 lr, lines = l0 :: lr := by
        cases lines with
        | nil => exact absurd rfl hne
        | cons a r => exact ⟨a, r, rfl⟩
      obtain ⟨p0, pr, rfl⟩ : ∃ p0 pr, ps = p0 :: pr := by
        cases ps with
        | nil => simp at hl
        | cons a r => exact ⟨a, r, rfl⟩
      have e0 : H2 p0 = some (.lst ((Txt.split l0 " ").map V.str)) := hps 0 p0 rfl
      have sm := s1.trans s2
      refine ⟨D, rfl, _, .of eD, _, at0, p0, _, rfl, .of e0, fun y hy => Nat.le_trans (split_mem sep_sp hy) (by have := hmem l0 (by simp); omega), fun y H3 s3 hn hsm => ?_⟩
      have sm := sm.trans s3
      have hx3 := sm _ _ hx
      refine ⟨_, _, _, hx3, g.k_Program, g.n_Program_own_start, by simp, _, _, _, upd_same, g.k_Program, g.n_Program_own_start, y, by simp [putF, List.lookup], ?_⟩
      have c3 : ChgL [x] H (upd H3 x (.ins (ga K "Program") dx (putF "own_start" y []))) := ChgL.trans (Same.chg sm) (.upd (by simp))
      by_cases hy : y = V.non
      · rw [if_pos hy]
        have hsn : startOf (Txt.split l0 " ") = none := by
          cases e : startOf (Txt.split l0 " ") with
          | none => rfl
          | some xy =>
            obtain ⟨a, ea⟩ := hsm xy e
            rw [hy] at ea; cases ea
        refine mk1 g.x_InvalidLine g.na_InvalidLine fun d H' s4 => qe ?_ _ _ _ g.ex_InvalidLine (c3.trans (Same.chg s4))
        unfold progM
        rw [hrows, List.map_cons]
        simp only [hsn]
        rfl
      · rw [if_neg hy]
        have kp : ∀ b xs, H3 b = some (.lst xs) → b ≠ x := fun b xs e z => by rw [z, hx3] at e; cases e
        have eD3 := s3 _ _ eD
        refine ⟨_, _, _, upd_same, g.k_Program, g.n_Program_own_text, by simp [putF], fun kd hkd => ⟨upd_same, [(.inr "now", .str "moment")], rfl, by decide, ?_⟩⟩
        rw [upd_upd] at hkd ⊢
        have nkx : kd ≠ x := fun z => by rw [z, upd_same] at hkd; cases hkd
        have hk3 : H3 kd = none := by rw [upd_ne nkx] at hkd; exact hkd
        rw [upd_upd]
        refine ⟨_, _, _, (upd_ne (Ne.symm nkx)).trans upd_same, g.k_Program, g.n_Program_own_kinds, pl2, Nat.zero_le _, fun ld hld => ?_⟩
        have nlx : ld ≠ x := fun z => by rw [z, upd_same] at hld; cases hld
        have nlk : ld ≠ kd := fun z => by rw [upd_ne nlx, z, upd_same] at hld; cases hld
        have hl3 : H3 ld = none := by rw [upd_ne nlx, upd_ne nlk, upd_ne nlx] at hld; exact hld
        refine ⟨_, _, _, (upd_ne (Ne.symm nlx)).trans upd_same, g.k_Program, g.n_Program_own_lines, pl3, Nat.zero_le _, fun ad had => ?_⟩
        have nax : ad ≠ x := fun z => by rw [z, upd_same] at had; cases had
        have nal : ad ≠ ld := fun z => by rw [upd_ne nax, z, upd_same] at had; cases had
        have nak : ad ≠ kd := fun z => by rw [upd_ne nax, upd_ne nal, upd_ne nax, z, upd_same] at had; cases had
        have ha3 : H3 ad = none := by rw [upd_ne nax, upd_ne nal, upd_ne nax, upd_ne nak, upd_ne nax] at had; exact had
        refine ⟨_, _, _, (upd_ne (Ne.symm nax)).trans upd_same, g.k_Program, g.n_Program_own_answers, pl4, ?_⟩
        generalize hH7 : upd (upd _ ad (HO.lst [])) x _ = H7
        have kl : ∀ b xs, H3 b = some (.lst xs) → H7 b = some (.lst xs) := fun b xs e => by
          rw [← hH7, upd_ne (kp b xs e), upd_ne (ne_of_none e ha3), upd_ne (kp b xs e), upd_ne (ne_of_none e hl3), upd_ne (kp b xs e), upd_ne (ne_of_none e hk3), upd_ne (kp b xs e)]
          exact e
        have c7 : ChgL [x] H H7 := fun b o hb e => by
          have hbx : b ≠ x := fun z => hb (by simp [z])
          have e3 := sm _ _ e
          rw [← hH7, upd_ne hbx, upd_ne (ne_of_none e3 ha3), upd_ne hbx, upd_ne (ne_of_none e3 hl3), upd_ne hbx, upd_ne (ne_of_none e3 hk3), upd_ne hbx]
          exact e3
        have hx7 : H7 x = some (.ins (ga K "Program") dx (pf y (.str z) (.ref kd) (.ref ld) (.ref ad))) := by rw [← hH7, upd_same]; rfl
        have p7 : PgAt K H7 x kd ld pst0 z := by
          refine ⟨⟨dx, ad, y, [], [], hx7, ?_, ⟨fun _ => rfl, fun _ => rfl⟩, nal, ?_, rfl⟩, ?_, ?_, by decide, by decide⟩
          · rw [← hH7, upd_ne nax, upd_same]
          · rw [← hH7, upd_ne nlx, upd_ne (Ne.symm nal), upd_ne nlx, upd_same]
          · rw [← hH7, upd_ne nkx, upd_ne (Ne.symm nak), upd_ne nkx, upd_ne (Ne.symm nlk), upd_ne nkx, upd_same]; rfl
          · exact fun k => by
              show SN ((valV [(Sum.inr (Str.ofString "now"), V.str (Str.ofString "moment"))] k).getD .non)
              unfold valV
              rw [List.find?_cons]
              split
              · exact SN.str
              · exact SN.non
        have nxl : H7 kd ≠ none := by rw [p7.dk]; exact fun h => nomatch h
        refine ⟨_, rfl, _, .of (kl _ _ eD3), fun r1 hr1 => ⟨by decide, by decide, _, newL, ?_⟩⟩
        rw [show cutV ((p0 :: pr).map V.ref) (some 1) none = pr.map V.ref from cutV_tl]
        have s8 := sm1 (o := .lst (pr.map V.ref)) hr1
        have c8 : ChgL [x] H (upd H7 r1 (.lst (pr.map V.ref))) := ChgL.trans c7 (Same.chg s8)
        have p8 := p7.same s8
        have er8 : (upd H7 r1 (.lst (pr.map V.ref))) r1 = some (.lst (pr.map V.ref)) := upd_same
        have nr : r1 ∉ [x, kd, ld] := by
          simp only [List.mem_cons, List.not_mem_nil, or_false, not_or]
          refine ⟨fun e => ?_, fun e => ?_, fun e => ?_⟩
          · rw [e, hx7] at hr1; cases hr1
          · rw [e, p7.dk] at hr1; cases hr1
          · obtain ⟨_, _, _, _, ls, _, _, _, _, h5, _⟩ := p7.ex
            rw [e, h5] at hr1; cases hr1
        have eD8 := s8 _ _ (kl _ _ eD3)
        have nD : D ∉ [x, kd, ld] := by
          simp only [List.mem_cons, List.not_mem_nil, or_false, not_or]
          exact ⟨kp _ _ eD3, ne_of_none eD3 hk3, ne_of_none eD3 hl3⟩
        have hlen : pr.length = lr.length := by simpa using hl
        have row : ∀ (i : Nat) (hi : i < pr.length), (upd H7 r1 (.lst (pr.map V.ref))) pr[i] = some (.lst ((Txt.split (lr[i]'(by omega)) " ").map V.str)) ∧ pr[i] ∉ [x, kd, ld] ∧ pr[i] ≠ ld := fun i hi => by
          have e := hps (i + 1) pr[i] (by rw [List.getElem?_cons_succ]; exact List.getElem?_eq_getElem hi)
          have eg : (l0 :: lr).getD (i + 1) "" = lr[i]'(by omega) := by
            rw [List.getD_eq_getElem?_getD, List.getElem?_cons_succ, List.getElem?_eq_getElem (by omega)]; rfl
          rw [eg] at e
          have e3 := s3 _ _ e
          refine ⟨s8 _ _ (kl _ _ e3), ?_, ne_of_none e3 hl3⟩
          simp only [List.mem_cons, List.not_mem_nil, or_false, not_or]
          exact ⟨kp _ _ e3, ne_of_none e3 hk3, ne_of_none e3 hl3⟩
        have far : ∀ Hc, ChgL [x, kd, ld] (upd H7 r1 (.lst (pr.map V.ref))) Hc → ChgL [x] H Hc := fun Hc c b o hb e => by
          refine c b o ?_ (c8 b o hb e)
          simp only [List.mem_cons, List.not_mem_nil, or_false, not_or] at hb ⊢
          exact ⟨hb, ne_of_none (sm _ _ e) hk3, ne_of_none (sm _ _ e) hl3⟩
        have hst : ∃ xy, startOf (Txt.split l0 " ") = some xy := by
          cases e : startOf (Txt.split l0 " ") with
          | none => exact absurd (hn e) hy
          | some xy => exact ⟨xy, rfl⟩
        obtain ⟨xy, hst⟩ := hst
        have hpm : progM z = match takesM pst0 (lr.map fun l => Txt.split l " ") with
            | none => false
            | some p => p.ans := by
          unfold progM
          rw [hrows, List.map_cons]
          simp only [hst]
          rfl
        generalize upd H7 r1 (.lst (pr.map V.ref)) = H8 at *
        refine fj (walk_enumk (xs := pr.map V.ref)) (fun i σ Hc => ∃ a3 a4 pst, σ = [some (.ref x), some (.str z), some (.ref D), a3, a4, none] ∧ takesM pst0 ((lr.map fun l => Txt.split l " ").take i) = some pst ∧ ChgL [x, kd, ld] H8 Hc ∧ PgAt K Hc x kd ld pst z)
          ⟨none, none, pst0, rfl, rfl, fun _ _ _ e => e, p8⟩ (fun i σ Hc hi ⟨a3, a4, pst, _, _, c, _⟩ => .of (c _ _ nr er8)) (fun i v σ Hc H' hi ⟨a3, a4, pst, eσ, et, c, pg⟩ ⟨T, v1, v2, ev, hT, eH, h1, h2⟩ => ?_) (fun σ Hc ⟨a3, a4, pst, eσ, et, c, pg⟩ => ?_)
        · subst ev eH eσ
          rw [List.length_map] at hi
          have h1 : v1 = V.int (1 + i) := (Option.some.inj h1).symm
          have h2 : v2 = V.ref pr[i] := by
            have h2 : (pr.map V.ref)[i]? = some v2 := h2
            rw [List.getElem?_map, List.getElem?_eq_getElem hi] at h2
            exact (Option.some.inj h2).symm
          subst h1 h2
          have sT := sm1 (o := .tup [.int (1 + i), .ref pr[i]]) hT
          have pgT := pg.same sT
          obtain ⟨dx', ad', v0, as, ls, hxT, _⟩ := pgT.ex
          obtain ⟨r1', r2', r3'⟩ := row i hi
          have rT := sT _ _ (c _ _ r2' r1')
          have cT : ChgL [x, kd, ld] H8 (upd Hc T (.tup [.int (1 + i), .ref pr[i]])) := c.trans (Same.chg sT)
          have htk : (lr.map fun l => Txt.split l " ").take (i + 1) = (lr.map fun l => Txt.split l " ").take i ++ [Txt.split (lr[i]'(by omega)) " "] := by
            rw [List.take_succ_eq_append_getElem (by rw [List.length_map]; omega), List.getElem_map]
          have hl1 : (lr[i]'(by omega)).length ≤ z.length := hmem _ (List.mem_cons_of_mem _ (List.getElem_mem _))
          refine ⟨T, _, rfl, newT, rfl, _, _, rfl, _, _, rfl, rfl, ?_⟩
          refine ⟨_, rfl, x, dx', _, rfl, hxT, lk_take, _, rfl, _, rfl, ?_⟩
          refine ⟨x, 1 + i, pr[i], Txt.split (lr[i]'(by omega)) " ", kd, ld, pst, z, rfl, pgT, rT, split_ne sep_sp _, r3', fun y hy => Nat.le_trans (split_mem sep_sp hy) (by omega), Nat.le_trans (split_cnt sep_sp _) (by omega), fun hf => ?_, fun p' hp' H' cH pH => ?_⟩
          · refine fun cls d H'' he s' => qe ?_ cls d H'' he (far _ (cT.trans (Same.chg s')))
            rw [hpm]
            have : takesM pst0 (lr.map fun l => Txt.split l " ") = none := by
              rw [← List.take_append_drop (i + 1) (lr.map fun l => Txt.split l " "), takesM_app, htk, takesM_app, et]
              show ((takeM pst _).bind fun q => takesM q []).bind _ = none
              rw [hf]
              rfl
            rw [this]
          · refine ⟨_, _, p', rfl, ?_, cT.trans cH, pH⟩
            rw [htk, takesM_app, et]
            show (takeM pst _).bind (fun q => takesM q []) = some p'
            rw [hp']
            rfl
        · subst eσ
          have et : takesM pst0 (lr.map fun l => Txt.split l " ") = some pst := by
            rw [← et, List.take_of_length_le (by simp; omega)]
          rw [et] at hpm
          obtain ⟨dx', ad', v0, as, ls, hxc, hac, hans, _⟩ := pg.ex
          walk_at "k9"
          refine ⟨_, _, _, hxc, g.k_Program, g.n_Program_own_answers, _, lk_ans, Nat.zero_le _, fun a9 ha9 => ⟨ad', rfl, _, (sm1 ha9).seq (.of hac), newL, ?_⟩⟩
          have s9 := sm1 (o := .lst []) ha9
          by_cases ca : as = []
          · rw [if_pos ca]
            refine ⟨_, rfl, _, rfl, _, .inl ⟨_, s9.seq (.of (c _ _ nD eD8)), rfl⟩, mk1 g.x_InvalidLine g.na_InvalidLine fun d H' s4 => qe ?_ _ _ _ g.ex_InvalidLine (far _ (c.trans (Same.chg (s9.trans s4))))⟩
            rw [hpm]
            exact hans.mp ca
          · rw [if_neg ca]
            refine q ?_ _ (far _ (c.trans (Same.chg s9))) ⟨dx', _, s9 _ _ hxc, lk_text⟩
            rw [hpm]
            cases e : pst.ans with
            | true => exact e
            | false => exact absurd (hans.mpr e) ca
end
end L2.K9
set_option maxHeartbeats 4000000
namespace L2.K9
open PySem PySem.Spec PyProof.Rows He
local macro_rules | `(tactic| walk_at "lf") => `(tactic| ((repeat' split) <;> first | contradiction | rfl | (simp_all; done)))
local macro_rules | `(tactic| walk_at "k9") => `(tactic| simp only [tRet, tRetN, tSeq, tNext, tAsg, gName, tDrop, tIfS, tIf, tVar, tC, tCB, tCons, tNil, tOp, tUn, tTest, tB, tAnd, tOr, tNot, tAndV, tOrV, tNotV, tChain, tCall, tMeth, tMake, tM1, tM0, tBM, tBM0, tSl, tPart, tNoPart, rI0, rI, rU, rEq, rNe, start, List.map_cons, List.map_nil, List.length_cons, List.length_nil, Nat.reduceAdd, Nat.reduceSub, List.replicate_succ, List.replicate_zero, List.cons_append, List.nil_append, List.append_nil, List.getElem?_cons_zero, List.getElem?_cons_succ, List.set_cons_zero, List.set_cons_succ, Option.some.injEq, V.int.injEq, V.bl.injEq, V.str.injEq, V.ref.injEq, exists_eq_left', exists_eq_left, and_true, true_and, exists_and_left, List.cons.injEq, len_s, cxK, cxP, cxW, exists_eq_right, exists_eq', scal_ss, scal_ii, scal_bb, scal_ns, eq_self, ite_nd, rSlS, rIxS, rIxL, rIxT, rSlL, tLc_str, tLc_list, tPar, gTup, tTup, tLst, tDGet1, wipe, List.foldl_cons, List.foldl_nil, sg_inj, and_assoc, exists_eq, decide_eq_true_eq, if_true, if_false, Bool.false_eq_true, Bool.not_true, Bool.not_false, rNeE, rEqE, iEnumk, iZips, gStar, tWGet, rNewStrs, tDIn, sDPut, tDisp, tPairs, sFld, tFld, rAppend, rPop, tFor_list, tFor_enumk, tFor_tup, tFor_or, tProp, gSub, rSetL, rCat])
/-- a def with one default, all arguments given -/
theorem bindsFull {K : PySem.W.Frag} {x qual : Str} {params : Arguments} {body : List Stmt} {scope : Scope} {d : V} {f : Addr} {fd : FuncData} {ps : List Str} (F : FunD K x qual params body scope [d] [] f fd) (n : Nat) (hn : n = ps.length)
    (h : ∀ (T : Addr) (kV doc pm : Value) (an : Option Addr) (cdv ct : Value) (us its : List Value), us.length = n → its.length = 1 →
      ∃ k, bindArgs (PySem.W.fnOf x qual params body scope (.ref T) kV doc pm an cdv ct) ⟨us, []⟩ = seqItems? (.ref T) >>= k ∧ k (some its.toArray) = pure (ps.zip us)) : Binds K fd ps [] := by
  obtain ⟨ds, hv, hb⟩ := F.binds1 (ps := ps) n 1 (by simp) (by simpa using hn) (fun T kV doc pm an cdv ct us its hl hi => by
    obtain ⟨k, h1, h2⟩ := h T kV doc pm an cdv ct us its hl (by simpa using hi)
    refine ⟨k, h1, ?_⟩
    rw [h2, show its.drop 1 = [] from List.drop_eq_nil_of_le (by rw [hi]; simp), List.append_nil])
  cases hv
  exact hb
theorem fj_or {K : PySem.W.Frag} {g : TG} {tb : TS} {D : Ends} {σ : St} {H : Hp} {b : Addr} {xs : List V} {L : List Addr} (hb : H b = some (.lst xs) ∨ H b = some (.tup xs)) (nb : b ∉ L)
    (h : ∀ (J : It) (G : Hp → Prop), Walk J xs.length G (YAt xs) → (∀ Hc, ChgL L H Hc → G Hc) → FJ J g tb D σ H) : ((∃ xs, SqL K H b xs) ∧ FJ (Itl K b) g tb D σ H) ∨ ((∃ xs, SqT K H b xs) ∧ FJ (Itt K b) g tb D σ H) := by
  rcases hb with e | e
  · exact .inl ⟨⟨_, .of e⟩, h _ _ walk_list fun Hc c => .of (c _ _ nb e)⟩
  · exact .inr ⟨⟨_, .of e⟩, h _ _ walk_tup fun Hc c => .of (c _ _ nb e)⟩
theorem inV_int {j : Int} {l : List Int} : inV (.int j) (l.map V.int) = l.contains j := by
  unfold inV
  rw [List.any_map, List.contains_eq_any_beq]
  congr 1
  funext y
  show (y == j) = (j == y)
  exact Bool.beq_comm
theorem srt_perm : ∀ l : List Int, (srt l).Perm l
  | [] => .refl _
  | x :: r => (ins_perm x (srt r)).trans ((srt_perm r).cons x)
where ins_perm (x : Int) : ∀ l : List Int, (insI x l).Perm (x :: l)
  | [] => .refl _
  | y :: r => by
    unfold insI
    split
    · exact .refl _
    · exact ((ins_perm x r).cons y).trans (.swap x y r)
theorem ins_srt (x : Int) : ∀ l : List Int, l.Pairwise (· ≤ ·) → (insI x l).Pairwise (· ≤ ·)
  | [], _ => by simp [insI]
  | y :: r, h => by
    unfold insI
    rw [List.pairwise_cons] at h
    split
    · rename_i hxy
      rw [List.pairwise_cons]
      refine ⟨fun z hz => ?_, List.pairwise_cons.mpr h⟩
      rcases List.mem_cons.mp hz with hz | hz
      · omega
      · have := h.1 z hz; omega
    · rename_i hxy
      rw [List.pairwise_cons]
      refine ⟨fun z hz => ?_, ins_srt x r h.2⟩
      have hz := (srt_perm.ins_perm x r).mem_iff.mp hz
      rcases List.mem_cons.mp hz with hz | hz
      · omega
      · exact h.1 z hz
theorem srt_sorted : ∀ l : List Int, (srt l).Pairwise (· ≤ ·)
  | [] => by simp [srt]
  | x :: r => ins_srt x _ (srt_sorted r)
theorem srt_uniq {l m : List Int} (h : m.Perm l) (hm : m.Pairwise (· ≤ ·)) : m = srt l :=
  (h.trans (srt_perm l).symm).eq_of_pairwise (le := (· ≤ ·)) (fun a b _ _ h1 h2 => by omega) hm (srt_sorted l)
section
variable {P : Program} {w : World} {K : PySem.W.Frag} {mg : Str → Option Value} {base : Heap}
/-- a kind that stands -/
def kf (jt : Addr) (k : Knd) : List (Str × V) := [("own_jumps", .ref jt), ("own_apart", .int k.ap), ("own_most", .int k.mo)]
def KdAt (K : PySem.W.Frag) (H : Hp) (a : Addr) (k : Knd) : Prop := ∃ dx jt, H a = some (.ins (ga K "Kind") dx (kf jt k)) ∧ H jt = some (.tup (k.js.map V.int))
def sp_Kind___init__ (K : PySem.W.Frag) : Sp := fun vs H Q E => ∃ (x dx b : Addr) (js : List Int) (ap mo : Int), vs = [.ref x, .ref b, .int ap, .int mo] ∧ H x = some (.ins (ga K "Kind") dx []) ∧ (H b = some (.lst (js.map V.int)) ∨ H b = some (.tup (js.map V.int))) ∧ 1 ≤ js.length ∧ js.length ≤ 4 ∧
  (kindM js ap mo = none → ∀ cls d H', Err K cls → ChgL [x] H H' → E cls d H') ∧ (∀ k, kindM js ap mo = some k → ∀ H', ChgL [x] H H' → KdAt K H' x k → Q .non H')
theorem len_Kind___init__ {vs : List V} {H : Hp} {Q : VK} {E : XK} (h : (sp_Kind___init__ K) vs H Q E) : vs.length = 4 := by
  obtain ⟨_, _, _, _, _, _, rfl, _⟩ := h; rfl
theorem sc_Kind_init : FnScope ["self", "jumps", "apart", "most", "known", "item", "jump"] ["self", "jumps", "apart", "most"] (defScope s_Kind___init__) := ⟨rfl, rfl, rfl, by decide +kernel, rfl, by decide +kernel, by decide +kernel⟩
theorem ok_Kind___init__ (g : GT w K mg) : DefOk P w K mg base 4 (ma K (ga K "Kind") "__init__") ["self", "jumps", "apart", "most"] (sp_Kind___init__ K) := by
  obtain ⟨fd_is_list, F_is_list, B_is_list, K_is_list⟩ := ok_is_list (P := P) (w := w) (base := base) g
  obtain ⟨fd_is_integer, F_is_integer, B_is_integer, K_is_integer⟩ := ok_is_integer (P := P) (w := w) (base := base) g
  obtain ⟨fd_InvalidJump___init__, F_InvalidJump___init__, B_InvalidJump___init__, K_InvalidJump___init__⟩ := ok_InvalidJump___init__ (P := P) (w := w) (base := base) g
  obtain ⟨fd_Duplicate___init__, F_Duplicate___init__, B_Duplicate___init__, K_Duplicate___init__⟩ := ok_Duplicate___init__ (P := P) (w := w) (base := base) g
  obtain ⟨fd_is_whole, F_is_whole, B_is_whole, K_is_whole⟩ := ok_is_whole (P := P) (w := w) (base := base) g
  obtain ⟨fd_InvalidInteger___init__, F_InvalidInteger___init__, B_InvalidInteger___init__, K_InvalidInteger___init__⟩ := ok_InvalidInteger___init__ (P := P) (w := w) (base := base) g
  obtain ⟨t_MOST_JUMPS_kinds, c_MOST_JUMPS_kinds⟩ := g.c_MOST_JUMPS_kinds
  obtain ⟨t_GREATEST_JUMP, c_GREATEST_JUMP⟩ := g.c_GREATEST_JUMP
  obtain ⟨t_MOST_CHANGES, c_MOST_CHANGES⟩ := g.c_MOST_CHANGES
  obtain ⟨fd, F⟩ := g.d_Kind___init__
  refine ⟨fd, ?_, ?_, F.kp⟩
  rotate_left
  · exact bindsFull F 4 rfl (fun _ _ _ _ _ _ _ us its hl hi => match us, hl, its, hi with | [_, _, _, _], _, [_], _ => ⟨_, rfl, rfl⟩)
  refine F.ok sc_Kind_init (fun vs H Q E h => ?_) (fun cdv A outer s H vs Q E hr h => ?_)
  · exact len_Kind___init__ h
  · obtain ⟨x, dx, b, js, ap, mo, rfl, hx, hb, hb1, hb4, qe, q⟩ := h
    refine ⟨_, (pss_cons (ps_if (PW.pt (pw_or (pt_not (pt_val (pe_call F_is_list (hr.mono (by decide)) rfl g.g_is_list K_is_list B_is_list .nil pq (pa_cons (pv 1) pa_nil)))) (pw_or1 (pt_not (pt_chain op_le op_le pe_int (pe_callB call_len (by rfl) g.f_len (by decide +kernel) (pa_cons (pv 1) pa_nil)) (pe_glob (v := .int 4) rfl c_MOST_JUMPS_kinds ⟨_, rfl⟩)))))) pss_never pss_nil)
      (pss_cons (ps_set (i := 4) sc_Kind_init.nd rfl (Or.inl rfl) (pe_lst pa_nil))
      (pss_cons (ps_for po_def rfl (pi_or (pi_list (pv 1)) (pi_tup (pv 1))) (pg_name (i := 5) sc_Kind_init.nd rfl (Or.inl rfl)) (pss_cons (ps_if (PW.pt (pw_or (pt_not (pt_val (pe_call F_is_integer (hr.mono (by decide)) rfl g.g_is_integer K_is_integer B_is_integer .nil pq (pa_cons (pv 5) (pa_cons (pe_un un_neg (pe_glob (v := .int 720) rfl c_GREATEST_JUMP ⟨_, rfl⟩)) (pa_cons (pe_glob (v := .int 720) rfl c_GREATEST_JUMP ⟨_, rfl⟩) pa_nil)))))) (pw_or1 (pt_cmpR op_eq (pv 5) pe_int (nomark _))))) (pss_one (ps_raise rfl (takes_of rfl rfl rfl rfl) (pmk_9 g.x_InvalidJump g.i_InvalidJump g.t_InvalidJump F_InvalidJump___init__ (hr.mono (by decide)) B_InvalidJump___init__ pqF rfl g.g_InvalidJump (pa_cons (pv 5) pa_nil) rfl rfl rfl))) pss_nil)
      (pss_cons (ps_if (pt_cmpR op_in_seq (pv 5) (pv 4) (by rfl)) (pss_one (ps_raise rfl (takes_of rfl rfl rfl rfl) (pmk_9 g.x_Duplicate g.i_Duplicate g.t_Duplicate F_Duplicate___init__ (hr.mono (by decide)) B_Duplicate___init__ pqF rfl g.g_Duplicate (pa_cons (pv 5) pa_nil) rfl rfl rfl))) pss_nil)
      (pss_one (ps_expr (pe_bm PySem.F.plainAttrs_list PySem.F.slot_list_append PySem.F.type_list_append mt_append (pv 4) (pa_cons (pv 5) pa_nil)))))))
      (pss_cons (ps_if (PW.pt (pw_or (pt_not (pt_val (pe_call F_is_whole (hr.mono (by decide)) rfl g.g_is_whole K_is_whole B_is_whole .nil pq (pa_cons (pv 2) pa_nil)))) (pw_or1 (pt_cmpR op_le (pv 2) (pe_op op_mul pe_int (pe_callB (cr_max rfl) (by rfl) g.f_max (by decide +kernel) (pa_cons (pe_lc (own := [("jump", 6)]) (by rfl) sc_Kind_init.nd (pi_list (pv 4)) (blkOk_by (N := ["self", "jumps", "apart", "most", "known", "item", "jump"]) (own := [("jump", 6)]) (show blkC _ (defScope s_Kind___init__) _ _ = true by decide +kernel)) (fun _ _ _ _ _ => (pg_name (i := 6) sc_Kind_init.nd rfl (Or.inl rfl))) (fun _ _ _ _ _ => pts_nil) (fun _ _ _ _ _ => (pe_callB call_abs (by rfl) g.f_abs (by decide +kernel) (pa_cons (pv 6) pa_nil)))) pa_nil))) (nomark _))))) (pss_one (ps_raise rfl (takes_of rfl rfl rfl rfl) (pmk_9 g.x_InvalidInteger g.i_InvalidInteger g.t_InvalidInteger F_InvalidInteger___init__ (hr.mono (by decide)) B_InvalidInteger___init__ pqF rfl g.g_InvalidInteger (pa_cons (pv 2) pa_nil) rfl rfl rfl))) pss_nil)
      (pss_cons (ps_if (pt_not (pt_val (pe_call F_is_integer (hr.mono (by decide)) rfl g.g_is_integer K_is_integer B_is_integer .nil pq (pa_cons (pv 3) (pa_cons pe_int (pa_cons (pe_glob (v := .int 3) rfl c_MOST_CHANGES ⟨_, rfl⟩) pa_nil)))))) (pss_one (ps_raise rfl (takes_of rfl rfl rfl rfl) (pmk_9 g.x_InvalidInteger g.i_InvalidInteger g.t_InvalidInteger F_InvalidInteger___init__ (hr.mono (by decide)) B_InvalidInteger___init__ pqF rfl g.g_InvalidInteger (pa_cons (pv 3) pa_nil) rfl rfl rfl))) pss_nil)
      (pss_cons (ps_fld (pv 0) (pe_callTy call_tuple_of (by rfl) g.f_tuple (by decide +kernel) (pa_cons (pe_callB cr_sorted (by rfl) g.f_sorted (by decide +kernel) (pa_cons (pv 4) pa_nil)) pa_nil)) rfl)
      (pss_cons (ps_fld (pv 0) (pv 2) rfl)
      (pss_one (ps_fld (pv 0) (pv 3) rfl))))))))), ?_⟩
    walk_at "k9"
    have isl : H b = some (.lst (js.map V.int)) ∨ H b = some (.tup (js.map V.int)) := hb
    refine ⟨b, _, rfl, isl, fun H1 s1 => ⟨_, rfl, ?_⟩⟩
    rw [if_neg (by decide)]
    have hlen : LenV K (V.ref b) H1 js.length := by
      rcases hb with h | h
      · exact .inl ⟨_, .of (s1 _ _ h), by rw [List.length_map]⟩
      · exact .inr ⟨_, .of (s1 _ _ h), by rw [List.length_map]⟩
    refine ⟨_, hlen, ?_⟩
    rw [if_pos (by exact_mod_cast hb1), if_pos (by exact_mod_cast hb4)]
    refine ⟨Nat.zero_le _, fun p hp => ?_⟩
    have s2 := Same.upd (o := .lst []) s1 hp
    have hpH : H p = none := s1.free hp
    have far : ∀ Hc, ChgL [p] (upd H1 p (.lst [])) Hc → ChgL [x] H Hc := fun Hc c b o _ e => c b o (by simp; exact ne_of_none e hpH) (s2 _ _ e)
    have bad : ∀ (C : Addr) (f : Str) (v : V) (Hc : Hp), XC K .val C → PySem.W.findIn K (.ref C) f = some none → Err K (.ref C) → kindM js ap mo = none → ChgL [x] H Hc → [v].length ≤ 1000 ∧ ∀ a, Hc a = none → spIni1 .val K f (.ref a :: [v]) (upd Hc a (exo a C none))
          (fun v H3 => v = .non ∧ ((∃ (d : Addr) (fs : List (Str × V)), H3 a = some (exo a C (some d)) ∧ H3 d = some (exd d fs) ∧ Hc d = none ∧ E (.ref C) (some d) (upd (del H3 a) d (.xd fs))) ∨
            (H3 = upd Hc a (exo a C none) ∧ E (.ref C) none Hc))) (fun _ _ _ => False) := fun C f v Hc hC hf he hn c =>
        mk1 hC hf fun d H' s3 => qe hn _ _ _ he (c.trans (Same.chg s3))
    have hb2 : (upd H1 p (.lst [])) b = some (.lst (js.map V.int)) ∨ (upd H1 p (.lst [])) b = some (.tup (js.map V.int)) := hb.imp (fun h => s2 _ _ h) fun h => s2 _ _ h
    have nbp : b ∉ [p] := by
      simp only [List.mem_singleton]
      exact hb.elim (fun h => ne_of_none h hpH) fun h => ne_of_none h hpH
    refine fj_or hb2 nbp fun J G wk hG => ?_
    rw [List.length_map] at wk
    refine fj wk (fun i σ Hc => ∃ a5, σ = [some (V.ref x), some (V.ref b), some (V.int ap), some (V.int mo), some (V.ref p), a5, none] ∧ Hc p = some (.lst ((js.take i).map V.int)) ∧ ChgL [p] (upd H1 p (.lst [])) Hc ∧ jumpsM [] js = jumpsM (js.take i) (js.drop i))
        ⟨none, rfl, upd_same, fun _ _ _ e => e, rfl⟩ (fun i σ Hc hi ⟨_, _, _, c, _⟩ => hG Hc c) (fun i v σ Hc H' hi ⟨a5, eσ, ep, c, ej⟩ ⟨eH, ev⟩ => ?_) (fun σ Hc ⟨a5, eσ, ep, c, ej⟩ => ?_)
    · subst eH eσ
      have ev : v = V.int js[i] := by
        rw [List.getElem?_map, List.getElem?_eq_getElem hi] at ev
        exact (Option.some.inj ev).symm
      subst ev
      have edr : js.drop i = js[i] :: js.drop (i + 1) := List.drop_eq_getElem_cons hi
      rw [edr] at ej
      walk_at "k9"
      have jn : ∀ (kn : List Int) (j : Int) (r : List Int), jumpsM kn (j :: r) = (decide (-720 ≤ j) && decide (j ≤ 720) && decide (j ≠ 0) && !(kn.contains j) && jumpsM (kn ++ [j]) r) := fun _ _ _ => rfl
      rw [jn] at ej
      have no : jumpsM [] js = false → kindM js ap mo = none := fun h => by
        unfold kindM
        rw [if_neg (fun z => by rw [h] at z; cases z.2.2.1)]
      refine ⟨_, _, _, rfl, _, rfl, ?_⟩
      by_cases c1 : -720 ≤ js[i]
      · by_cases c2 : js[i] ≤ 720
        · rw [decide_eq_true c1, decide_eq_true c2, if_neg (by decide)]
          by_cases c3 : js[i] = 0
          · rw [if_pos c3]
            exact ⟨_, rfl, bad _ _ _ _ g.x_InvalidJump g.na_InvalidJump g.ex_InvalidJump (no (by rw [ej]; simp [c3])) (far _ c)⟩
          · rw [if_neg c3]
            refine in_l (.of ep) rfl (by rw [List.all_eq_true]; intro y hy; obtain ⟨u, _, rfl⟩ := List.mem_map.mp hy; rfl) ⟨_, rfl, ?_⟩
            rw [inV_int]
            by_cases c4 : (js.take i).contains js[i] = true
            · rw [if_pos c4]
              exact ⟨_, rfl, bad _ _ _ _ g.x_Duplicate g.na_Duplicate g.ex_Duplicate (no (by rw [ej, c4]; simp)) (far _ c)⟩
            · have c4 : (js.take i).contains js[i] = false := by simpa using c4
              rw [if_neg (by rw [c4]; decide)]
              have et : js.take (i + 1) = js.take i ++ [js[i]] := List.take_succ_eq_append_getElem hi
              refine ⟨.inl ⟨rfl, _, .of ep⟩, _, ep, by rw [sizeLine_eq, List.length_map, List.length_take]; omega, ?_, c.trans (.upd (by simp)), ?_⟩
              · rw [upd_same, et, List.map_append]; rfl
              · rw [ej, et, decide_eq_true c1, decide_eq_true c2, decide_eq_true c3, c4]; simp
        · rw [decide_eq_false c2, Bool.and_false, if_pos (show (!false) = true from rfl)]
          exact ⟨_, rfl, bad _ _ _ _ g.x_InvalidJump g.na_InvalidJump g.ex_InvalidJump (no (by rw [ej, decide_eq_false c2]; simp)) (far _ c)⟩
      · rw [decide_eq_false c1, Bool.false_and, if_pos (show (!false) = true from rfl)]
        exact ⟨_, rfl, bad _ _ _ _ g.x_InvalidJump g.na_InvalidJump g.ex_InvalidJump (no (by rw [ej, decide_eq_false c1]; simp)) (far _ c)⟩
    · subst eσ
      rw [List.take_of_length_le (Nat.le_refl _), List.drop_of_length_le (Nat.le_refl _)] at ej
      rw [List.take_of_length_le (Nat.le_refl _)] at ep
      have ej : jumpsM [] js = true := ej
      walk_at "k9"
      refine ⟨_, rfl, _, rfl, ?_⟩
      rw [if_neg (by decide)]
      refine ⟨⟨_, .of ep⟩, lc_lsts (f := fun v => match v with | .int j => .int (absI j) | _ => .non) (.of ep) (by rw [List.length_map]; omega) (fun v H2 Qy Qn hv s3 k => ?_) (fun D H2 s3 e3 => ?_)⟩
      · obtain ⟨j, hj, rfl⟩ := List.mem_map.mp hv
        exact ⟨rfl, _, rfl, j, rfl, k H2 (Same.refl _)⟩
      · have e3 : H2 D = some (.lst ((js.map absI).map V.int)) := by rw [e3, List.map_map, List.map_map]; rfl
        refine ⟨D, js.map absI, rfl, .of e3, by rw [List.length_map]; omega, fun m hm hall => ⟨m, rfl, .inl ⟨by decide, by decide⟩, ?_⟩⟩
        have c2 := c.trans (Same.chg s3)
        by_cases ca : ap ≤ 2 * m
        · rw [if_pos ca]
          obtain ⟨j, hj, rfl⟩ := List.mem_map.mp hm
          refine ⟨_, rfl, bad _ _ _ _ g.x_InvalidInteger g.na_InvalidInteger g.ex_InvalidInteger ?_ (far _ c2)⟩
          unfold kindM
          rw [if_neg (fun h => by have := h.2.2.2.1 j hj; omega)]
        · rw [if_neg ca]
          have hap : ∀ j ∈ js, 2 * absI j < ap := fun j hj => by
            have := hall _ (List.mem_map_of_mem hj)
            omega
          refine ⟨_, _, _, rfl, _, rfl, ?_⟩
          by_cases cm : 0 ≤ mo ∧ mo ≤ 3
          · rw [decide_eq_true cm.1, decide_eq_true cm.2, if_neg (by decide)]
            have hk : kindM js ap mo = some ⟨srt js, ap, mo⟩ := by
              unfold kindM
              rw [if_pos ⟨hb1, hb4, ej, hap, cm.1, cm.2⟩]
            refine ⟨p, js, rfl, .of (s3 _ _ ep), by omega, fun ns' q1 hperm hsort hq1 => ⟨q1, rfl, _, .inl ⟨newL, fun l hl => ?_⟩⟩⟩
            rw [srt_uniq hperm hsort]
            have c3 := c2.trans (Same.chg (Same.upd (o := .tup (ns'.map V.int)) (sm1 (o := .lst (ns'.map V.int)) hq1) hl))
            have hx2 : H2 x = some (.ins (ga K "Kind") dx []) := (c2 x _ (by simp; exact ne_of_none hx hpH) (s2 _ _ hx))
            have nq : x ≠ q1 := ne_of_none hx2 hq1
            have nl : x ≠ l := fun z => by
              rw [← z, upd_ne nq, hx2] at hl
              cases hl
            refine ⟨_, _, _, (upd_ne nl).trans ((upd_ne nq).trans hx2), g.k_Kind, g.n_Kind_own_jumps, by simp, _, _, _, upd_same, g.k_Kind, g.n_Kind_own_apart, ?_, _, _, _, upd_same, g.k_Kind, g.n_Kind_own_most, pl2, ?_⟩
            · have := putF_len ("own_jumps" : Str) (.ref l) []
              simp only [List.length_nil] at this
              omega
            · rw [srt_uniq hperm hsort] at c3
              refine q _ hk _ ((far _ c3).trans (ChgL.trans (.upd (by simp)) (ChgL.trans (.upd (by simp)) (.upd (by simp))))) ⟨dx, l, ?_, ?_⟩
              · rw [upd_same]
                rfl
              · rw [upd_ne (Ne.symm nl), upd_ne (Ne.symm nl), upd_ne (Ne.symm nl), upd_same]
          · have hk : kindM js ap mo = none := by
              unfold kindM
              rw [if_neg (fun h => cm ⟨h.2.2.2.2.1, h.2.2.2.2.2⟩)]
            have hb0 : (decide (0 ≤ mo) && decide (mo ≤ 3)) = false := by
              rw [← Bool.decide_and]
              exact decide_eq_false cm
            rw [hb0, if_pos (show (!false) = true from rfl)]
            exact ⟨_, rfl, bad _ _ _ _ g.x_InvalidInteger g.na_InvalidInteger g.ex_InvalidInteger hk (far _ c2)⟩
end
end L2.K9
set_option maxHeartbeats 4000000
namespace L2.K9
open PySem PySem.Spec PyProof.Rows He
local macro_rules | `(tactic| walk_at "lf") => `(tactic| ((repeat' split) <;> first | contradiction | rfl | (simp_all; done)))
local macro_rules | `(tactic| walk_at "k9") => `(tactic| simp only [tRet, tRetN, tSeq, tNext, tAsg, gName, tDrop, tIfS, tIf, tVar, tC, tCB, tCons, tNil, tOp, tUn, tTest, tB, tAnd, tOr, tNot, tAndV, tOrV, tNotV, tChain, tCall, tMeth, tMake, tM1, tM0, tBM, tBM0, tSl, tPart, tNoPart, rI0, rI, rU, rEq, rNe, start, List.map_cons, List.map_nil, List.length_cons, List.length_nil, Nat.reduceAdd, Nat.reduceSub, List.replicate_succ, List.replicate_zero, List.cons_append, List.nil_append, List.append_nil, List.getElem?_cons_zero, List.getElem?_cons_succ, List.set_cons_zero, List.set_cons_succ, Option.some.injEq, V.int.injEq, V.bl.injEq, V.str.injEq, V.ref.injEq, exists_eq_left', exists_eq_left, and_true, true_and, exists_and_left, List.cons.injEq, len_s, cxK, cxP, cxW, exists_eq_right, exists_eq', scal_ss, scal_ii, scal_bb, scal_ns, eq_self, ite_nd, rSlS, rIxS, rIxL, rIxT, rSlL, tLc_str, tLc_list, tPar, gTup, tTup, tLst, tDGet1, wipe, List.foldl_cons, List.foldl_nil, sg_inj, and_assoc, exists_eq, decide_eq_true_eq, if_true, if_false, Bool.false_eq_true, Bool.not_true, Bool.not_false, rNeE, rEqE, iEnumk, iZips, gStar, tWGet, rNewStrs, tDIn, sDPut, tDisp, tPairs, sFld, tFld, rAppend, rPop, tFor_list, tFor_enumk, tFor_tup, tFor_or, tProp, gSub, rSetL, rCat])
theorem KdAt.same {K : PySem.W.Frag} {H H' : Hp} {a : Addr} {k : Knd} (h : KdAt K H a k) (s : Same H H') : KdAt K H' a k := by
  obtain ⟨dx, jt, h1, h2⟩ := h
  exact ⟨dx, jt, s _ _ h1, s _ _ h2⟩
theorem PrAt.same {K : PySem.W.Frag} {H H' : Hp} {a : Addr} {z : Str} (h : PrAt K H a z) (s : Same H H') : PrAt K H' a z := by
  obtain ⟨dx, fs, h1, h2⟩ := h
  exact ⟨dx, fs, s _ _ h1, h2⟩
/-- a state that stands -/
def sf (v w : V) : List (Str × V) := [("zones", v), ("plan", w)]
def StAt (K : PySem.W.Frag) (H : Hp) (a : Addr) (s : Stt) : Prop := ∃ dx kr pr, H a = some (.ins (ga K "State") dx (sf (.ref kr) (.ref pr))) ∧ KdAt K H kr s.k ∧ PrAt K H pr s.t
theorem StAt.same {K : PySem.W.Frag} {H H' : Hp} {a : Addr} {t : Stt} (h : StAt K H a t) (s : Same H H') : StAt K H' a t := by
  obtain ⟨dx, kr, pr, h1, h2, h3⟩ := h
  exact ⟨dx, kr, pr, s _ _ h1, h2.same s, h3.same s⟩
section
variable {v u : V} {jt : Addr} {k : Knd}
theorem lkj : (kf jt k).lookup ("own_jumps" : Str) = some (.ref jt) := by unfold kf; simp [List.lookup]
theorem lka : (kf jt k).lookup ("own_apart" : Str) = some (.int k.ap) := by
  unfold kf
  simp only [List.lookup, show ((Str.ofString "own_apart") == Str.ofString "own_jumps") = false by decide +kernel, BEq.rfl]
theorem lkm : (kf jt k).lookup ("own_most" : Str) = some (.int k.mo) := by
  unfold kf
  simp only [List.lookup, show ((Str.ofString "own_most") == Str.ofString "own_jumps") = false by decide +kernel, show ((Str.ofString "own_most") == Str.ofString "own_apart") = false by decide +kernel, BEq.rfl]
theorem lkp : (kf jt k).lookup ("parts" : Str) = none := by
  unfold kf
  simp only [List.lookup, show ((Str.ofString "parts") == Str.ofString "own_jumps") = false by decide +kernel, show ((Str.ofString "parts") == Str.ofString "own_apart") = false by decide +kernel, show ((Str.ofString "parts") == Str.ofString "own_most") = false by decide +kernel]
theorem lsz : (sf v u).lookup ("zones" : Str) = some v := by unfold sf; simp [List.lookup]
theorem lsp : (sf v u).lookup ("plan" : Str) = some u := by
  unfold sf
  simp only [List.lookup, show ((Str.ofString "plan") == Str.ofString "zones") = false by decide +kernel, BEq.rfl]
theorem lst : (sf v u).lookup ("told" : Str) = none := by
  unfold sf
  simp only [List.lookup, show ((Str.ofString "told") == Str.ofString "zones") = false by decide +kernel, show ((Str.ofString "told") == Str.ofString "plan") = false by decide +kernel]
end
theorem lay_ints : ∀ ns : List Int, PyData.canLayAll0 (ns.map PyData.int) = true
  | [] => rfl
  | _ :: r => by simp [PyData.canLayAll0, PyData.canLay0, lay_ints r]
theorem dep_ints : ∀ ns : List Int, PyData.depthAll (ns.map PyData.int) = 0
  | [] => rfl
  | _ :: r => by simp [PyData.depthAll, PyData.depth, dep_ints r]
theorem dp_ints {K : PySem.W.Frag} {H : Hp} : ∀ ns : List Int, DpAll K H (ns.map V.int) (ns.map PyData.int)
  | [] => .nil
  | i :: r => .cons (.int i) (dp_ints r)
def kD (k : Knd) : PyData := .tuple [.tuple (k.js.map PyData.int), .int k.ap, .int k.mo]
theorem kD_shaped (k : Knd) : SeqAt.shaped (kD k) = true := by
  simp [kD, SeqAt.shaped, PyData.canLay0, PyData.canLayAll0, PyData.depth, PyData.depthAll, lay_ints, dep_ints]
mutual
theorem dp_same {K : PySem.W.Frag} {H H' : Hp} : ∀ {v : V} {d : PyData}, Dp K H v d → Same H H' → Dp K H' v d
  | _, _, .non, _ => .non
  | _, _, .bl b, _ => .bl b
  | _, _, .int i, _ => .int i
  | _, _, .str x, _ => .str x
  | _, _, .lst h a, s => .lst (s.seq h) (dpa_same a s)
  | _, _, .tup h a, s => .tup (Same.tup s h) (dpa_same a s)
theorem dpa_same {K : PySem.W.Frag} {H H' : Hp} : ∀ {vs : List V} {ds : List PyData}, DpAll K H vs ds → Same H H' → DpAll K H' vs ds
  | _, _, .nil, _ => .nil
  | _, _, .cons h t, s => .cons (dp_same h s) (dpa_same t s)
end
section
variable {P : Program} {w : World} {K : PySem.W.Frag} {mg : Str → Option Value} {base : Heap}
def sp_Kind_jumps (K : PySem.W.Frag) : Sp := fun vs H Q _ => ∃ (a : Addr) (k : Knd), vs = [.ref a] ∧ KdAt K H a k ∧ ∀ jt, H jt = some (.tup (k.js.map V.int)) → Q (.ref jt) H
theorem len_Kind_jumps {vs : List V} {H : Hp} {Q : VK} {E : XK} (h : (sp_Kind_jumps K) vs H Q E) : vs.length = 1 := by
  obtain ⟨_, _, rfl, _⟩ := h; rfl
theorem sc_Kind_jumps : FnScope ["self"] ["self"] (defScope s_Kind_jumps) := ⟨rfl, rfl, rfl, by decide +kernel, rfl, by decide +kernel, by decide +kernel⟩
theorem ok_Kind_jumps (g : GT w K mg) : DefOk P w K mg base 1 (pgA K "Kind" "jumps") ["self"] (sp_Kind_jumps K) := by
  obtain ⟨fd, F⟩ := g.d_Kind_jumps
  refine ⟨fd, ?_, F.bindsN fun _ _ _ _ _ _ us hl => match us, hl with | [_], _ => rfl, F.kp⟩
  refine F.ok sc_Kind_jumps (fun vs H Q E h => ?_) (fun cdv A outer s H vs Q E hr h => ?_)
  · exact len_Kind_jumps h
  · obtain ⟨a, k, rfl, ⟨dx, jt, ha, hj⟩, q⟩ := h
    refine ⟨_, (pss_one (ps_ret (pe_fld (pv 0) rfl))), ?_⟩
    exact ⟨_, rfl, a, _, dx, _, _, rfl, ha, g.k_Kind, g.n_Kind_own_jumps, lkj, q jt hj⟩
def sp_Kind_apart (K : PySem.W.Frag) : Sp := fun vs H Q _ => ∃ (a : Addr) (k : Knd), vs = [.ref a] ∧ KdAt K H a k ∧ Q (.int k.ap) H
theorem len_Kind_apart {vs : List V} {H : Hp} {Q : VK} {E : XK} (h : (sp_Kind_apart K) vs H Q E) : vs.length = 1 := by
  obtain ⟨_, _, rfl, _⟩ := h; rfl
theorem sc_Kind_apart : FnScope ["self"] ["self"] (defScope s_Kind_apart) := ⟨rfl, rfl, rfl, by decide +kernel, rfl, by decide +kernel, by decide +kernel⟩
theorem ok_Kind_apart (g : GT w K mg) : DefOk P w K mg base 1 (pgA K "Kind" "apart") ["self"] (sp_Kind_apart K) := by
  obtain ⟨fd, F⟩ := g.d_Kind_apart
  refine ⟨fd, ?_, F.bindsN fun _ _ _ _ _ _ us hl => match us, hl with | [_], _ => rfl, F.kp⟩
  refine F.ok sc_Kind_apart (fun vs H Q E h => ?_) (fun cdv A outer s H vs Q E hr h => ?_)
  · exact len_Kind_apart h
  · obtain ⟨a, k, rfl, ⟨dx, jt, ha, hj⟩, q⟩ := h
    refine ⟨_, (pss_one (ps_ret (pe_fld (pv 0) rfl))), ?_⟩
    exact ⟨_, rfl, a, _, dx, _, _, rfl, ha, g.k_Kind, g.n_Kind_own_apart, lka, q⟩
def sp_Kind_most (K : PySem.W.Frag) : Sp := fun vs H Q _ => ∃ (a : Addr) (k : Knd), vs = [.ref a] ∧ KdAt K H a k ∧ Q (.int k.mo) H
theorem len_Kind_most {vs : List V} {H : Hp} {Q : VK} {E : XK} (h : (sp_Kind_most K) vs H Q E) : vs.length = 1 := by
  obtain ⟨_, _, rfl, _⟩ := h; rfl
theorem sc_Kind_most : FnScope ["self"] ["self"] (defScope s_Kind_most) := ⟨rfl, rfl, rfl, by decide +kernel, rfl, by decide +kernel, by decide +kernel⟩
theorem ok_Kind_most (g : GT w K mg) : DefOk P w K mg base 1 (pgA K "Kind" "most") ["self"] (sp_Kind_most K) := by
  obtain ⟨fd, F⟩ := g.d_Kind_most
  refine ⟨fd, ?_, F.bindsN fun _ _ _ _ _ _ us hl => match us, hl with | [_], _ => rfl, F.kp⟩
  refine F.ok sc_Kind_most (fun vs H Q E h => ?_) (fun cdv A outer s H vs Q E hr h => ?_)
  · exact len_Kind_most h
  · obtain ⟨a, k, rfl, ⟨dx, jt, ha, hj⟩, q⟩ := h
    refine ⟨_, (pss_one (ps_ret (pe_fld (pv 0) rfl))), ?_⟩
    exact ⟨_, rfl, a, _, dx, _, _, rfl, ha, g.k_Kind, g.n_Kind_own_most, lkm, q⟩
def sp_Kind_parts (K : PySem.W.Frag) : Sp := fun vs H Q _ => ∃ (a : Addr) (k : Knd), vs = [.ref a] ∧ KdAt K H a k ∧ ∀ t H', Same H H' → Dp K H' (.ref t) (kD k) → Q (.ref t) H'
theorem len_Kind_parts {vs : List V} {H : Hp} {Q : VK} {E : XK} (h : (sp_Kind_parts K) vs H Q E) : vs.length = 1 := by
  obtain ⟨_, _, rfl, _⟩ := h; rfl
theorem sc_Kind_parts : FnScope ["self"] ["self"] (defScope s_Kind_parts) := ⟨rfl, rfl, rfl, by decide +kernel, rfl, by decide +kernel, by decide +kernel⟩
theorem ok_Kind_parts (g : GT w K mg) : DefOk P w K mg base 1 (ma K (ga K "Kind") "parts") ["self"] (sp_Kind_parts K) := by
  obtain ⟨fd, F⟩ := g.d_Kind_parts
  refine ⟨fd, ?_, F.bindsN fun _ _ _ _ _ _ us hl => match us, hl with | [_], _ => rfl, F.kp⟩
  refine F.ok sc_Kind_parts (fun vs H Q E h => ?_) (fun cdv A outer s H vs Q E hr h => ?_)
  · exact len_Kind_parts h
  · obtain ⟨a, k, rfl, ⟨dx, jt, ha, hj⟩, q⟩ := h
    refine ⟨_, (pss_one (ps_ret (pe_tup (pa_cons (pe_fld (pv 0) rfl) (pa_cons (pe_fld (pv 0) rfl) (pa_cons (pe_fld (pv 0) rfl) pa_nil)))))), ?_⟩
    refine ⟨_, rfl, a, _, dx, _, _, rfl, ha, g.k_Kind, g.n_Kind_own_jumps, lkj, _, rfl, a, _, dx, _, _, rfl, ha, g.k_Kind, g.n_Kind_own_apart, lka, _, rfl, a, _, dx, _, _, rfl, ha, g.k_Kind, g.n_Kind_own_most, lkm, show (3 : Nat) ≤ sizeLine by decide, fun t ht => ?_⟩
    exact q t _ (sm1 ht) (.tup newT (.cons (.tup (.of (sm1 ht _ _ hj)) (dp_ints _)) (.cons (.int _) (.cons (.int _) .nil))))
def KdEq (K : PySem.W.Frag) (a b : Addr) (H : Hp) : Prop := ∃ k, KdAt K H a k ∧ KdAt K H b k
theorem len_Kind___eq__ {vs : List V} {H : Hp} {Q : VK} {E : XK} (h : (spEq (KdEq K)) vs H Q E) : vs.length = 2 := by
  obtain ⟨_, _, rfl, _⟩ := h; rfl
theorem sc_Kind_eq : FnScope ["self", "other"] ["self", "other"] (defScope s_Kind___eq__) := ⟨rfl, rfl, rfl, by decide +kernel, rfl, by decide +kernel, by decide +kernel⟩
theorem ok_Kind___eq__ (g : GT w K mg) : DefOk P w K mg base 2 (ma K (ga K "Kind") "__eq__") ["self", "other"] (spEq (KdEq K)) := by
  obtain ⟨fd_Kind_parts, F_Kind_parts, B_Kind_parts, K_Kind_parts⟩ := ok_Kind_parts (P := P) (w := w) (base := base) g
  obtain ⟨fd, F⟩ := g.d_Kind___eq__
  refine ⟨fd, ?_, F.bindsN fun _ _ _ _ _ _ us hl => match us, hl with | [_, _], _ => rfl, F.kp⟩
  refine F.ok sc_Kind_eq (fun vs H Q E h => ?_) (fun cdv A outer s H vs Q E hr h => ?_)
  · exact len_Kind___eq__ h
  · obtain ⟨a, b, rfl, ⟨k, ka, kb⟩, q⟩ := h
    refine ⟨_, (pss_one (ps_ret (pe_and (pe_callB call_isi (by rfl) g.f_isinstance (by decide +kernel) (pa_cons (pv 1) (pa_cons (pe_glob (v := .ref (ga K "Kind")) rfl g.g_Kind rfl) pa_nil))) (pe_one (pe_cmpR (op_eqD hr.units) (pe_meth0 (pv 0) g.k_Kind g.e_Kind_parts F_Kind_parts (hr.mono (by decide)) B_Kind_parts .nil pq) (pe_meth0 (pv 1) g.k_Kind g.e_Kind_parts F_Kind_parts (hr.mono (by decide)) B_Kind_parts .nil pq) (nomark _)))))), ?_⟩
    obtain ⟨dx, jt, ha, hj⟩ := id ka
    obtain ⟨dx2, jt2, hb, hj2⟩ := id kb
    walk_at "k9"
    refine isi_own (x := .non) g.k_Kind g.ic_Kind hb ⟨_, rfl, ?_⟩
    rw [if_pos rfl]
    refine ⟨dx, _, ha, lkp, a, k, rfl, ka, fun t H1 s1 d1 => ⟨dx2, _, s1 _ _ hb, lkp, b, k, rfl, kb.same s1, fun t2 H2 s2 d2 => ⟨kD k, kD k, dp_same d1 s2, d2, kD_shaped k, kD_shaped k, ?_⟩⟩⟩
    rw [PySem.SeqAt.eqv_refl _ (SeqAt.canLay_of_shaped (kD_shaped k))]
    exact q _ (s1.trans s2)
def sp_need_kind (K : PySem.W.Frag) : Sp := fun vs H Q _ => ∃ (a : Addr) (k : Knd), vs = [.ref a] ∧ KdAt K H a k ∧ Q .non H
theorem len_need_kind {vs : List V} {H : Hp} {Q : VK} {E : XK} (h : (sp_need_kind K) vs H Q E) : vs.length = 1 := by
  obtain ⟨_, _, rfl, _⟩ := h; rfl
theorem sc_need_kind : FnScope ["value"] ["value"] (defScope s_need_kind) := ⟨rfl, rfl, rfl, by decide +kernel, rfl, by decide +kernel, by decide +kernel⟩
theorem ok_need_kind (g : GT w K mg) : DefOk P w K mg base 1 (ga K "need_kind") ["value"] (sp_need_kind K) := by
  obtain ⟨fd, F⟩ := g.d_need_kind
  refine ⟨fd, ?_, F.bindsN fun _ _ _ _ _ _ us hl => match us, hl with | [_], _ => rfl, F.kp⟩
  refine F.ok sc_need_kind (fun vs H Q E h => ?_) (fun cdv A outer s H vs Q E hr h => ?_)
  · exact len_need_kind h
  · obtain ⟨a, k, rfl, ⟨dx, jt, ha, hj⟩, q⟩ := h
    refine ⟨_, (pss_one (ps_if (pt_not (pt_val (pe_callB call_isi (by rfl) g.f_isinstance (by decide +kernel) (pa_cons (pv 0) (pa_cons (pe_glob (v := .ref (ga K "Kind")) rfl g.g_Kind rfl) pa_nil))))) pss_never pss_nil)), ?_⟩
    walk_at "k9"
    exact isi_own (x := .non) g.k_Kind g.ic_Kind ha ⟨_, rfl, q⟩
def sp_need_program (K : PySem.W.Frag) : Sp := fun vs H Q _ => ∃ (a : Addr) (z : Str), vs = [.ref a] ∧ PrAt K H a z ∧ Q .non H
theorem len_need_program {vs : List V} {H : Hp} {Q : VK} {E : XK} (h : (sp_need_program K) vs H Q E) : vs.length = 1 := by
  obtain ⟨_, _, rfl, _⟩ := h; rfl
theorem sc_need_program : FnScope ["value"] ["value"] (defScope s_need_program) := ⟨rfl, rfl, rfl, by decide +kernel, rfl, by decide +kernel, by decide +kernel⟩
theorem ok_need_program (g : GT w K mg) : DefOk P w K mg base 1 (ga K "need_program") ["value"] (sp_need_program K) := by
  obtain ⟨fd, F⟩ := g.d_need_program
  refine ⟨fd, ?_, F.bindsN fun _ _ _ _ _ _ us hl => match us, hl with | [_], _ => rfl, F.kp⟩
  refine F.ok sc_need_program (fun vs H Q E h => ?_) (fun cdv A outer s H vs Q E hr h => ?_)
  · exact len_need_program h
  · obtain ⟨a, z, rfl, ⟨dx, fs, ha, hj⟩, q⟩ := h
    refine ⟨_, (pss_one (ps_if (pt_not (pt_val (pe_callB call_isi (by rfl) g.f_isinstance (by decide +kernel) (pa_cons (pv 0) (pa_cons (pe_glob (v := .ref (ga K "Program")) rfl g.g_Program rfl) pa_nil))))) pss_never pss_nil)), ?_⟩
    walk_at "k9"
    exact isi_own (x := .non) g.k_Program g.ic_Program ha ⟨_, rfl, q⟩
def sp_State___init__ (K : PySem.W.Frag) : Sp := fun vs H Q _ => ∃ (x dx : Addr) (v u : V), vs = [.ref x, v, u] ∧ H x = some (.ins (ga K "State") dx []) ∧ ∀ H', ChgL [x] H H' → H' x = some (.ins (ga K "State") dx (sf v u)) → Q .non H'
theorem len_State___init__ {vs : List V} {H : Hp} {Q : VK} {E : XK} (h : (sp_State___init__ K) vs H Q E) : vs.length = 3 := by
  obtain ⟨_, _, _, _, rfl, _⟩ := h; rfl
theorem sc_State_init : FnScope ["self", "zones", "plan"] ["self", "zones", "plan"] (defScope s_State___init__) := ⟨rfl, rfl, rfl, by decide +kernel, rfl, by decide +kernel, by decide +kernel⟩
theorem ok_State___init__ (g : GT w K mg) : DefOk P w K mg base 1 (ma K (ga K "State") "__init__") ["self", "zones", "plan"] (sp_State___init__ K) := by
  obtain ⟨fd, F⟩ := g.d_State___init__
  refine ⟨fd, ?_, F.bindsN fun _ _ _ _ _ _ us hl => match us, hl with | [_, _, _], _ => rfl, F.kp⟩
  refine F.ok sc_State_init (fun vs H Q E h => ?_) (fun cdv A outer s H vs Q E hr h => ?_)
  · exact len_State___init__ h
  · obtain ⟨x, dx, v, u, rfl, hx, q⟩ := h
    refine ⟨_, (pss_cons (ps_fld (pv 0) (pv 1) rfl)
      (pss_one (ps_fld (pv 0) (pv 2) rfl))), ?_⟩
    refine ⟨_, rfl, _, rfl, x, _, dx, _, rfl, hx, g.k_State, g.n_State_zones, by simp, ?_⟩
    refine ⟨_, rfl, _, rfl, x, _, dx, _, rfl, upd_same, g.k_State, g.n_State_plan, ?_, ?_⟩
    · have := putF_len ("zones" : Str) v []
      simp only [List.length_nil] at this
      omega
    · exact q _ (ChgL.trans (.upd (by simp)) (.upd (by simp))) (by rw [upd_same]; rfl)
def sp_State_told (K : PySem.W.Frag) : Sp := fun vs H Q _ => ∃ (a : Addr) (s : Stt), vs = [.ref a] ∧ StAt K H a s ∧ s.t.length ≤ 400000 ∧ ∀ r H', Same H H' → H' r = some (.lst ((Txt.split s.t "\n").map V.str)) → Q (.ref r) H'
theorem len_State_told {vs : List V} {H : Hp} {Q : VK} {E : XK} (h : (sp_State_told K) vs H Q E) : vs.length = 1 := by
  obtain ⟨_, _, rfl, _⟩ := h; rfl
theorem sc_State_told : FnScope ["self"] ["self"] (defScope s_State_told) := ⟨rfl, rfl, rfl, by decide +kernel, rfl, by decide +kernel, by decide +kernel⟩
theorem ok_State_told (g : GT w K mg) : DefOk P w K mg base 4 (ma K (ga K "State") "told") ["self"] (sp_State_told K) := by
  obtain ⟨fd_Program___str__, F_Program___str__, B_Program___str__, K_Program___str__⟩ := ok_Program___str__ (P := P) (w := w) (base := base) g
  obtain ⟨fd, F⟩ := g.d_State_told
  refine ⟨fd, ?_, F.bindsN fun _ _ _ _ _ _ us hl => match us, hl with | [_], _ => rfl, F.kp⟩
  refine F.ok sc_State_told (fun vs H Q E h => ?_) (fun cdv A outer s H vs Q E hr h => ?_)
  · exact len_State_told h
  · obtain ⟨a, s, rfl, ⟨dx, kr, pr, ha, hk, dx2, fs, hp, hl⟩, hs, q⟩ := h
    refine ⟨_, (pss_one (ps_ret (pe_ifExp (pt_cmpR op_isN (pe_fld (pv 0) rfl) pe_non (nomark _)) (pe_lst pa_nil) (pe_split (pe_callTy (call_str_own F_Program___str__ g.fi_Program___str__ g.if_Program___str__ B_Program___str__ pq (hr.mono (by decide))) (by rfl) g.f_str (by decide +kernel) (pa_cons (pe_fld (pv 0) rfl) pa_nil)) pe_str)))), ?_⟩
    walk_at "k9"
    refine ⟨_, _, _, ha, g.k_State, g.n_State_plan, _, lsp, ?_⟩
    rw [if_neg (fun h => nomatch h)]
    refine ⟨_, _, _, ha, g.k_State, g.n_State_plan, _, lsp, pr, rfl, dx2, fs, hp, pr, dx2, fs, s.t, rfl, hp, hl, fun H1 s1 => ⟨_, rfl, by decide +kernel, by rw [sizeLine_eq]; omega, fun r hr => q r _ (Same.upd s1 hr) upd_same⟩⟩
end
end L2.K9
set_option maxHeartbeats 4000000
namespace L2.K9
open PySem PySem.Spec PyProof.Rows He
local macro_rules | `(tactic| walk_at "lf") => `(tactic| ((repeat' split) <;> first | contradiction | rfl | (simp_all; done)))
local macro_rules | `(tactic| walk_at "k9") => `(tactic| simp only [tRet, tRetN, tSeq, tNext, tAsg, gName, tDrop, tIfS, tIf, tVar, tC, tCB, tCons, tNil, tOp, tUn, tTest, tB, tAnd, tOr, tNot, tAndV, tOrV, tNotV, tChain, tCall, tMeth, tMake, tM1, tM0, tBM, tBM0, tSl, tPart, tNoPart, rI0, rI, rU, rEq, rNe, start, List.map_cons, List.map_nil, List.length_cons, List.length_nil, Nat.reduceAdd, Nat.reduceSub, List.replicate_succ, List.replicate_zero, List.cons_append, List.nil_append, List.append_nil, List.getElem?_cons_zero, List.getElem?_cons_succ, List.set_cons_zero, List.set_cons_succ, Option.some.injEq, V.int.injEq, V.bl.injEq, V.str.injEq, V.ref.injEq, exists_eq_left', exists_eq_left, and_true, true_and, exists_and_left, List.cons.injEq, len_s, cxK, cxP, cxW, exists_eq_right, exists_eq', scal_ss, scal_ii, scal_bb, scal_ns, eq_self, ite_nd, rSlS, rIxS, rIxL, rIxT, rSlL, tLc_str, tLc_list, tPar, gTup, tTup, tLst, tDGet1, wipe, List.foldl_cons, List.foldl_nil, sg_inj, and_assoc, exists_eq, decide_eq_true_eq, if_true, if_false, Bool.false_eq_true, Bool.not_true, Bool.not_false, rNeE, rEqE, iEnumk, iZips, gStar, tWGet, rNewStrs, tDIn, sDPut, tDisp, tPairs, sFld, tFld, rAppend, rPop, tFor_list, tFor_enumk, tFor_tup, tFor_or, tProp, gSub, rSetL, rCat])
theorem cut_take {l : List Str} {i : Int} (h : 0 ≤ i) : cutV (l.map V.str) none (some i) = (l.take i.toNat).map V.str := by
  unfold cutV
  have e1 : HT.sIx (l.map V.str).length 0 none = 0 := rfl
  have e2 : HT.sIx (l.map V.str).length (l.map V.str).length (some i) = min i.toNat (l.map V.str).length := by
    show (if i < 0 then _ else _) = _
    rw [if_neg (by omega)]
  rw [e1, e2, List.drop_zero, Nat.sub_zero, List.map_take]
  rw [List.take_eq_take_iff]
  omega
theorem cut_drop {l : List Str} {i : Int} (h : 0 ≤ i) : cutV (l.map V.str) (some i) none = (l.drop i.toNat).map V.str := by
  unfold cutV
  have e1 : HT.sIx (l.map V.str).length (l.map V.str).length none = (l.map V.str).length := rfl
  have e2 : HT.sIx (l.map V.str).length 0 (some i) = min i.toNat (l.map V.str).length := by
    show (if i < 0 then _ else _) = _
    rw [if_neg (by omega)]
  rw [e1, e2, List.map_drop, List.take_of_length_le (by rw [List.length_drop]; exact Nat.le_refl _)]
  by_cases c : i.toNat ≤ (l.map V.str).length
  · rw [Nat.min_eq_left c]
  · rw [Nat.min_eq_right (by omega), List.drop_of_length_le (Nat.le_refl _), List.drop_of_length_le (by omega)]
theorem sum_drop (l : List Nat) (k : Nat) : (l.drop k).sum ≤ l.sum := by
  have := congrArg List.sum (List.take_append_drop k l)
  rw [List.sum_append] at this
  omega
theorem sum_edit (l mid : List Str) (i k : Nat) : ((l.take i ++ (mid ++ l.drop (i + k))).map (·.length)).sum ≤ (l.map (·.length)).sum + (mid.map (·.length)).sum := by
  rw [List.map_append, List.map_append, List.sum_append, List.sum_append, List.map_take, List.map_drop]
  have h1 := congrArg List.sum (List.take_append_drop i (l.map (·.length)))
  rw [List.sum_append] at h1
  have h2 := sum_drop ((l.map (·.length)).drop i) k
  rw [List.drop_drop] at h2
  omega
section
variable {P : Program} {w : World} {K : PySem.W.Frag} {mg : Str → Option Value} {base : Heap}
def sp_with_lines (K : PySem.W.Frag) : Sp := fun vs H Q E => ∃ (a : Addr) (s : Stt) (b : Addr) (ls : List Str), vs = [.ref a, .ref b] ∧ StAt K H a s ∧ SqL K H b (ls.map V.str) ∧ (ls.map (·.length)).sum + ls.length ≤ 300000 ∧
  (withM s ls = none → EOk K H E) ∧ ∀ s', withM s ls = some s' → ∀ r H', Same H H' → StAt K H' r s' → Q (.ref r) H'
theorem len_with_lines {vs : List V} {H : Hp} {Q : VK} {E : XK} (h : (sp_with_lines K) vs H Q E) : vs.length = 2 := by
  obtain ⟨_, _, _, _, rfl, _⟩ := h; rfl
theorem sc_with_lines : FnScope ["state", "lines"] ["state", "lines"] (defScope s_with_lines) := ⟨rfl, rfl, rfl, by decide +kernel, rfl, by decide +kernel, by decide +kernel⟩
theorem ok_with_lines (g : GT w K mg) : DefOk P w K mg base 8 (ga K "with_lines") ["state", "lines"] (sp_with_lines K) := by
  obtain ⟨fd_State___init__, F_State___init__, B_State___init__, K_State___init__⟩ := ok_State___init__ (P := P) (w := w) (base := base) g
  obtain ⟨fd_Program___init__, F_Program___init__, B_Program___init__, K_Program___init__⟩ := ok_Program___init__ (P := P) (w := w) (base := base) g
  obtain ⟨fd, F⟩ := g.d_with_lines
  refine ⟨fd, ?_, F.bindsN fun _ _ _ _ _ _ us hl => match us, hl with | [_, _], _ => rfl, F.kp⟩
  refine F.ok sc_with_lines (fun vs H Q E h => ?_) (fun cdv A outer s H vs Q E hr h => ?_)
  · exact len_with_lines h
  · obtain ⟨a, s, b, ls, rfl, hs, hb, hl, qe, q⟩ := h
    refine ⟨_, (pss_one (ps_ret (pe_make g.m_State F_State___init__ (hr.mono (by decide)) rfl g.g_State B_State___init__ .nil pq (pa_cons (pe_fld (pv 0) rfl) (pa_cons (pe_make g.m_Program F_Program___init__ (hr.mono (by decide)) rfl g.g_Program B_Program___init__ .nil pq (pa_cons (pe_join pe_str (pv 1)) pa_nil)) pa_nil))))), ?_⟩
    obtain ⟨dx, kr, pr, ha, hk, hp⟩ := id hs
    walk_at "k9"
    have l1 : (Str.ofString "\n").length = 1 := by decide +kernel
    have jl := join_le ls l1
    refine ⟨_, _, _, ha, g.k_State, g.n_State_zones, _, lsz, ls, .inl hb, by rw [l1]; omega, fun x dx1 hx hdx hne => ?_⟩
    refine ⟨x, _, dx1, rfl, upd_same, by omega, fun hf cls d H' he c => qe (by unfold withM; rw [hf]; rfl) cls d H' he (made_same hx hdx c), fun ht H2 c h2 => ⟨rfl, fun x5 dx5 hx5 hdx5 hne5 => ?_⟩⟩
    have sm := made_same hx hdx c
    refine ⟨x5, dx5, _, _, rfl, upd_same, fun H3 c3 h3 => ⟨rfl, ?_⟩⟩
    have s3 := made_same hx5 hdx5 c3
    exact q ⟨s.k, Txt.join "\n" ls⟩ (by unfold withM; rw [ht]; rfl) x5 H3 (sm.trans s3) ⟨dx5, kr, x, h3, (hk.same sm).same s3, h2.same s3⟩
def sp_edited (K : PySem.W.Frag) : Sp := fun vs H Q E => ∃ (a : Addr) (s : Stt) (z : Str) (p : Addr) (i : Int) (mid : List Str), vs = [.ref a, .str z, .ref p] ∧ StAt K H a s ∧ H p = some (.lst (.int i :: mid.map V.str)) ∧ 0 ≤ i ∧ (z = "take" ∧ mid = [] ∨ z ≠ "take" ∧ ∃ m, mid = [m]) ∧
  s.t.length + (mid.map (·.length)).sum ≤ 100000 ∧ (editM s z i.toNat mid = none → EOk K H E) ∧ ∀ s', editM s z i.toNat mid = some s' → ∀ r H', Same H H' → StAt K H' r s' → Q (.ref r) H'
theorem len_edited {vs : List V} {H : Hp} {Q : VK} {E : XK} (h : (sp_edited K) vs H Q E) : vs.length = 3 := by
  obtain ⟨_, _, _, _, _, _, rfl, _⟩ := h; rfl
theorem sc_edited : FnScope ["state", "word", "parts", "middle", "lines", "index"] ["state", "word", "parts"] (defScope s_edited) := ⟨rfl, rfl, rfl, by decide +kernel, rfl, by decide +kernel, by decide +kernel⟩
theorem ok_edited (g : GT w K mg) : DefOk P w K mg base 9 (ga K "edited") ["state", "word", "parts"] (sp_edited K) := by
  obtain ⟨fd_State_told, F_State_told, B_State_told, K_State_told⟩ := ok_State_told (P := P) (w := w) (base := base) g
  obtain ⟨fd_NoLine___init__, F_NoLine___init__, B_NoLine___init__, K_NoLine___init__⟩ := ok_NoLine___init__ (P := P) (w := w) (base := base) g
  obtain ⟨fd_with_lines, F_with_lines, B_with_lines, K_with_lines⟩ := ok_with_lines (P := P) (w := w) (base := base) g
  obtain ⟨t_PUT, c_PUT⟩ := g.c_PUT
  obtain ⟨t_TAKE, c_TAKE⟩ := g.c_TAKE
  obtain ⟨fd, F⟩ := g.d_edited
  refine ⟨fd, ?_, F.bindsN fun _ _ _ _ _ _ us hl => match us, hl with | [_, _, _], _ => rfl, F.kp⟩
  refine F.ok sc_edited (fun vs H Q E h => ?_) (fun cdv A outer s H vs Q E hr h => ?_)
  · exact len_edited h
  · obtain ⟨a, s, z, p, i, mid, rfl, hs, hp, hi, hm, hl, qe, q⟩ := h
    refine ⟨_, (pss_cons (ps_if (pt_cmpR op_isN (pe_fld (pv 0) rfl) pe_non (nomark _)) pss_never pss_nil)
      (pss_cons (ps_par (i := 4) (j := 5) (by rfl) sc_edited.nd rfl rfl (by decide) rfl rfl (pa_cons (pe_meth0 (pv 0) g.k_State g.e_State_told F_State_told (hr.mono (by decide)) B_State_told .nil pq) (pa_cons (pe_ix ix_list (pv 2) pe_int (fun _ _ => rfl)) pa_nil)) (by rfl))
      (pss_cons (ps_if (PW.pt (pw_or (pt_cmpR op_gt (pv 5) (pe_callB call_len (by rfl) g.f_len (by decide +kernel) (pa_cons (pv 4) pa_nil)) (nomark _)) (pw_or1 (PW.pt (pw_and (pt_cmpR op_eq (pv 5) (pe_callB call_len (by rfl) g.f_len (by decide +kernel) (pa_cons (pv 4) pa_nil)) (nomark _)) (pw_and1 (pt_cmpR op_ne (pv 1) (pe_glob (v := .str "put") rfl c_PUT ⟨_, rfl⟩) (nomark _)))))))) (pss_one (ps_raise rfl (takes_of rfl rfl rfl rfl) (pmk_9 g.x_NoLine g.i_NoLine g.t_NoLine F_NoLine___init__ (hr.mono (by decide)) B_NoLine___init__ pqF rfl g.g_NoLine (pa_cons (pv 5) pa_nil) rfl rfl rfl))) pss_nil)
      (pss_cons (ps_set (i := 3) sc_edited.nd rfl (Or.inl rfl) (pe_ifExp (pt_cmpR op_eq (pv 1) (pe_glob (v := .str "take") rfl c_TAKE ⟨_, rfl⟩) (nomark _)) (pe_lst pa_nil) (pe_lst (pa_cons (pe_ix ix_list (pv 2) pe_int (fun _ _ => rfl)) pa_nil))))
      (pss_one (ps_ret (pe_call F_with_lines (hr.mono (by decide)) rfl g.g_with_lines K_with_lines B_with_lines .nil pq (pa_cons (pv 0) (pa_cons (pe_lst (StX.pa_star (pe_slice sl_list (pv 4) po_none (po_some (pv 5))) (StX.pa_star (pv 3) (StX.pa_star (pe_slice sl_list (pv 4) (po_some (pe_op op_add (pv 5) (pe_callTy call_int1 (by rfl) g.f_int (by decide +kernel) (pa_cons (pe_cmpR op_ne (pv 1) (pe_glob (v := .str "put") rfl c_PUT ⟨_, rfl⟩) (nomark _)) pa_nil)))) po_none) pa_nil)))) pa_nil))))))))), ?_⟩
    obtain ⟨dx, kr, pr, ha, hk, hpr⟩ := id hs
    walk_at "k9"
    refine ⟨_, _, _, ha, g.k_State, g.n_State_plan, _, lsp, ?_⟩
    rw [if_neg (fun h => nomatch h)]
    refine ⟨_, _, ha, lst, a, s, rfl, hs, by omega, fun t H1 s1 ht => ⟨_, .of (s1 _ _ hp), _, at0, ?_⟩⟩
    generalize hlines : Txt.split s.t (Str.ofString "\n") = lines at *
    have hln : LenV K (V.ref t) H1 lines.length := .inl ⟨_, .of ht, by rw [List.length_map]⟩
    have star : ∀ (pm : Addr) (H2 : Hp), Same H1 H2 → H2 pm = some (.lst (mid.map V.str)) → ¬ (lines.length < i.toNat ∨ (i.toNat = lines.length ∧ z ≠ "put")) → StX.tStar K (tSl (rSlL K) (tVar 4) tNoPart (tPart (tVar 5)))
        (StX.tStar K (tVar 3) (StX.tStar K (tSl (rSlL K) (tVar 4) (tPart (tOp (rI0 fun i j => V.int (i + j)) (tVar 5) (tCB (fun xs H Q => (∃ i, xs = [V.int i] ∧ Q (V.int i) H) ∨ ∃ k, xs = [V.bl k] ∧ Q (V.int (if k = true then 1 else 0)) H)
          (tCons (tOp rNe (tVar 1) (tC (V.str (Str.ofString "put")))) tNil)))) tNoPart) tNil))
        [some (V.ref a), some (V.str z), some (V.ref p), some (V.ref pm), some (V.ref t), some (V.int i)] H2 fun xs H1 => xs.length ≤ sizeLine ∧ ∀ (p : Addr), H1 p = none → sp_with_lines K [V.ref a, V.ref p] (upd H1 p (HO.lst xs)) Q E := fun pm H2 s2 hpm hc => by
      simp only [StX.tStar]
      walk_at "k9"
      have hu : editM s z i.toNat mid = withM s (lines.take i.toNat ++ (mid ++ lines.drop (i.toNat + if z = "put" then 0 else 1))) := by
        unfold editM
        simp only [hlines]
        rw [if_neg hc]
      have sum1 := split_sum sep_nl s.t
      have cnt1 := split_cnt sep_nl s.t
      rw [hlines] at sum1 cnt1
      have ml : mid.length ≤ 1 := by
        rcases hm with ⟨_, h⟩ | ⟨_, m, h⟩ <;> rw [h] <;> simp
      refine ⟨_, .of (s2 _ _ ht), fun p1 hp1 => ⟨_, .inr newL, mid.map V.str, .inr (.of ((sm1 hp1) _ _ hpm)), .inr ⟨_, .of ((sm1 hp1) _ _ (s2 _ _ ht)), fun p2 hp2 => ⟨_, .inr newL, ?_, fun p3 hp3 => ?_⟩⟩⟩⟩
      · rw [cut_take hi, cut_drop (by split <;> omega), sizeLine_eq]
        simp only [List.length_append, List.length_map, List.length_take, List.length_drop]
        omega
      · have sm := Same.upd (o := .lst (cutV (lines.map V.str) none (some i))) (s1.trans s2) hp1
        have sm := Same.upd (o := .lst (cutV (lines.map V.str) (some (i + if z = Str.ofString "put" then 0 else 1)) none)) sm hp2
        have ej : (i + if z = Str.ofString "put" then 0 else 1).toNat = i.toNat + if z = Str.ofString "put" then 0 else 1 := by split <;> omega
        have el : (cutV (lines.map V.str) none (some i) ++ (mid.map V.str ++ cutV (lines.map V.str) (some (i + if z = Str.ofString "put" then 0 else 1)) none)) = (lines.take i.toNat ++ (mid ++ lines.drop (i.toNat + if z = "put" then 0 else 1))).map V.str := by
          rw [cut_take hi, cut_drop (by split <;> omega), ej, List.map_append, List.map_append]
        rw [el]
        have sm := Same.upd (o := .lst ((lines.take i.toNat ++ (mid ++ lines.drop (i.toNat + if z = "put" then 0 else 1))).map V.str)) sm hp3
        refine ⟨a, s, p3, _, rfl, hs.same sm, newL, ?_, fun hf => ?_, fun s' hs' r H' s5 h5 => q s' (by rw [hu]; exact hs') r H' (sm.trans s5) h5⟩
        · have h1 := sum_edit lines mid i.toNat (if z = "put" then 0 else 1)
          have h2 : (lines.take i.toNat ++ (mid ++ lines.drop (i.toNat + if z = "put" then 0 else 1))).length ≤ lines.length + 1 := by
            simp only [List.length_append, List.length_take, List.length_drop]
            omega
          omega
        · exact fun cls d H' he s5 => qe (by rw [hu]; exact hf) cls d H' he (sm.trans s5)
    have bad : (lines.length < i.toNat ∨ (i.toNat = lines.length ∧ z ≠ "put")) → [V.int i].length ≤ 1000 ∧ ∀ a, H1 a = none → spIni1 .key K "index" (.ref a :: [V.int i]) (upd H1 a (exo a (ga K "NoLine") none))
          (fun v H3 => v = .non ∧ ((∃ (d : Addr) (fs : List (Str × V)), H3 a = some (exo a (ga K "NoLine") (some d)) ∧ H3 d = some (exd d fs) ∧ H1 d = none ∧ E (.ref (ga K "NoLine")) (some d) (upd (del H3 a) d (.xd fs))) ∨
            (H3 = upd H1 a (exo a (ga K "NoLine") none) ∧ E (.ref (ga K "NoLine")) none H1))) (fun _ _ _ => False) := fun hc =>
        mk1 g.x_NoLine g.na_NoLine fun d H' s3 => qe (by unfold editM; simp only [hlines]; rw [if_pos hc]) _ _ _ g.ex_NoLine (s1.trans s3)
    have mids : ¬ (lines.length < i.toNat ∨ (i.toNat = lines.length ∧ z ≠ "put")) → if z = Str.ofString "take" then 0 ≤ sizeLine ∧ ∀ (p_1 : Addr), H1 p_1 = none → StX.tStar K (tSl (rSlL K) (tVar 4) tNoPart (tPart (tVar 5)))
        (StX.tStar K (tVar 3) (StX.tStar K (tSl (rSlL K) (tVar 4) (tPart (tOp (rI0 fun i j => V.int (i + j)) (tVar 5) (tCB (fun xs H Q => (∃ i, xs = [V.int i] ∧ Q (V.int i) H) ∨ ∃ k, xs = [V.bl k] ∧ Q (V.int (if k = true then 1 else 0)) H)
          (tCons (tOp rNe (tVar 1) (tC (V.str (Str.ofString "put")))) tNil)))) tNoPart) tNil))
        [some (V.ref a), some (V.str z), some (V.ref p), some (V.ref p_1), some (V.ref t), some (V.int i)] (upd H1 p_1 (HO.lst [])) fun xs H1 => xs.length ≤ sizeLine ∧ ∀ (p : Addr), H1 p = none → sp_with_lines K [V.ref a, V.ref p] (upd H1 p (HO.lst xs)) Q E
      else ∃ x, SqL K H1 p x ∧ ∃ x_1, atI x 1 = some x_1 ∧ 1 ≤ sizeLine ∧ ∀ (p_1 : Addr), H1 p_1 = none → StX.tStar K (tSl (rSlL K) (tVar 4) tNoPart (tPart (tVar 5)))
        (StX.tStar K (tVar 3) (StX.tStar K (tSl (rSlL K) (tVar 4) (tPart (tOp (rI0 fun i j => V.int (i + j)) (tVar 5) (tCB (fun xs H Q => (∃ i, xs = [V.int i] ∧ Q (V.int i) H) ∨ ∃ k, xs = [V.bl k] ∧ Q (V.int (if k = true then 1 else 0)) H)
          (tCons (tOp rNe (tVar 1) (tC (V.str (Str.ofString "put")))) tNil)))) tNoPart) tNil))
        [some (V.ref a), some (V.str z), some (V.ref p), some (V.ref p_1), some (V.ref t), some (V.int i)] (upd H1 p_1 (HO.lst [x_1])) fun xs H1 => xs.length ≤ sizeLine ∧ ∀ (p : Addr), H1 p = none → sp_with_lines K [V.ref a, V.ref p] (upd H1 p (HO.lst xs)) Q E := fun hc => by
      split
      · rename_i ct
        have hmid : mid = [] := by
          rcases hm with ⟨_, h⟩ | ⟨h, _⟩
          · exact h
          · exact absurd ct h
        exact ⟨Nat.zero_le _, fun p1 hp1 => star p1 _ (sm1 hp1) (by rw [upd_same, hmid]; rfl) hc⟩
      · rename_i ct
        obtain ⟨m, hmid⟩ : ∃ m, mid = [m] := by
          rcases hm with ⟨h, _⟩ | ⟨_, h⟩
          · exact absurd h ct
          · exact h
        refine ⟨_, .of (s1 _ _ hp), V.str m, by rw [hmid]; exact at1, by decide, fun p1 hp1 => star p1 _ (sm1 hp1) (by rw [upd_same, hmid]; rfl) hc⟩
    refine ⟨_, hln, i, rfl, ?_⟩
    by_cases c1 : (lines.length : Int) < i
    · rw [if_pos c1]
      exact ⟨_, rfl, bad (.inl (by omega))⟩
    · rw [if_neg c1]
      refine ⟨_, hln, rfl, ?_⟩
      by_cases c2 : V.int i = V.int lines.length
      · rw [if_pos c2]
        have c2 : i = (lines.length : Int) := V.int.inj c2
        by_cases c3 : z = Str.ofString "put"
        · rw [if_pos c3]
          exact mids fun h => h.elim (fun h => by omega) fun h => h.2 c3
        · rw [if_neg c3]
          exact ⟨_, rfl, bad (.inr ⟨by omega, c3⟩)⟩
      · rw [if_neg c2]
        exact mids fun h => h.elim (fun h => by omega) fun h => c2 (by rw [← h.1, Int.toNat_of_nonneg hi])
/-- a command's parts have the shape that its word asks -/
def Shp (z : Str) : Pts → Prop
  | .rows l => z = "program" ∧ (l.map (·.length)).sum + l.length ≤ 300000
  | .flat l => (z = "take" ∧ ∃ i, 0 ≤ i ∧ l = [.int i]) ∨ ((z = "put" ∨ z = "replace") ∧ ∃ i x, 0 ≤ i ∧ x.length ≤ 50000 ∧ l = [.int i, .str x]) ∨
      (z = "jumps" ∧ ∃ js : List Int, 1 ≤ js.length ∧ js.length ≤ 4 ∧ l = js.map V.int) ∨ ((z = "apart" ∨ z = "most") ∧ ∃ i, l = [.int i])
def KOk (k : Knd) : Prop := 1 ≤ k.js.length ∧ k.js.length ≤ 4
def sp_state_behind (K : PySem.W.Frag) : Sp := fun vs H Q E => ∃ (a : Addr) (s : Stt) (z : Str) (v : V) (p : Pts), vs = [.ref a, .str z, v] ∧ StAt K H a s ∧ PtsAt K H v p ∧ Shp z p ∧ KOk s.k ∧ s.t.length ≤ 50000 ∧
  (behM s z p = none → EOk K H E) ∧ ∀ s', behM s z p = some s' → ∀ r H', Same H H' → StAt K H' r s' → Q (.ref r) H'
theorem len_state_behind {vs : List V} {H : Hp} {Q : VK} {E : XK} (h : (sp_state_behind K) vs H Q E) : vs.length = 3 := by
  obtain ⟨_, _, _, _, _, rfl, _⟩ := h; rfl
theorem sc_state_behind : FnScope ["state", "word", "parts", "zones"] ["state", "word", "parts"] (defScope s_state_behind) := ⟨rfl, rfl, rfl, by decide +kernel, rfl, by decide +kernel, by decide +kernel⟩
theorem ok_state_behind (g : GT w K mg) : DefOk P w K mg base 10 (ga K "state_behind") ["state", "word", "parts"] (sp_state_behind K) := by
  obtain ⟨fd_with_lines, F_with_lines, B_with_lines, K_with_lines⟩ := ok_with_lines (P := P) (w := w) (base := base) g
  obtain ⟨fd_edited, F_edited, B_edited, K_edited⟩ := ok_edited (P := P) (w := w) (base := base) g
  obtain ⟨fd_State___init__, F_State___init__, B_State___init__, K_State___init__⟩ := ok_State___init__ (P := P) (w := w) (base := base) g
  obtain ⟨fd_Kind___init__, F_Kind___init__, B_Kind___init__, K_Kind___init__⟩ := ok_Kind___init__ (P := P) (w := w) (base := base) g
  obtain ⟨fd_Kind_jumps, F_Kind_jumps, B_Kind_jumps, K_Kind_jumps⟩ := ok_Kind_jumps (P := P) (w := w) (base := base) g
  obtain ⟨fd_Kind_apart, F_Kind_apart, B_Kind_apart, K_Kind_apart⟩ := ok_Kind_apart (P := P) (w := w) (base := base) g
  obtain ⟨fd_Kind_most, F_Kind_most, B_Kind_most, K_Kind_most⟩ := ok_Kind_most (P := P) (w := w) (base := base) g
  obtain ⟨t_BEGIN, c_BEGIN⟩ := g.c_BEGIN
  obtain ⟨t_REPLACE, c_REPLACE⟩ := g.c_REPLACE
  obtain ⟨t_TAKE, c_TAKE⟩ := g.c_TAKE
  obtain ⟨t_PUT, c_PUT⟩ := g.c_PUT
  obtain ⟨fd, F⟩ := g.d_state_behind
  refine ⟨fd, ?_, F.bindsN fun _ _ _ _ _ _ us hl => match us, hl with | [_, _, _], _ => rfl, F.kp⟩
  refine F.ok sc_state_behind (fun vs H Q E h => ?_) (fun cdv A outer s H vs Q E hr h => ?_)
  · exact len_state_behind h
  · obtain ⟨a, s, z, v, p, rfl, hs, hp, hsh, hko, hl, qe, q⟩ := h
    refine ⟨_, (pss_cons (ps_set (i := 3) sc_state_behind.nd rfl (Or.inl rfl) (pe_fld (pv 0) rfl))
      (pss_cons (ps_if (pt_cmpR op_eq (pv 1) (pe_glob (v := .str "program") rfl c_BEGIN ⟨_, rfl⟩) (nomark _)) (pss_one (ps_ret (pe_call F_with_lines (hr.mono (by decide)) rfl g.g_with_lines K_with_lines B_with_lines .nil pq (pa_cons (pv 0) (pa_cons (pe_ix ix_list (pv 2) pe_int (fun _ _ => rfl)) pa_nil))))) pss_nil)
      (pss_cons (ps_if (pt_cmpR op_in_seq (pv 1) (pe_lst (pa_cons (pe_glob (v := .str "put") rfl c_PUT ⟨_, rfl⟩) (pa_cons (pe_glob (v := .str "take") rfl c_TAKE ⟨_, rfl⟩) (pa_cons (pe_glob (v := .str "replace") rfl c_REPLACE ⟨_, rfl⟩) pa_nil)))) (by rfl)) (pss_one (ps_ret (pe_call F_edited (hr.mono (by decide)) rfl g.g_edited K_edited B_edited .nil pq (pa_cons (pv 0) (pa_cons (pv 1) (pa_cons (pv 2) pa_nil)))))) pss_nil)
      (pss_cons (ps_if (pt_cmpR op_eq (pv 1) pe_str (nomark _)) (pss_one (ps_ret (pe_make g.m_State F_State___init__ (hr.mono (by decide)) rfl g.g_State B_State___init__ .nil pq (pa_cons (pe_make g.m_Kind F_Kind___init__ (hr.mono (by decide)) rfl g.g_Kind B_Kind___init__ .nil pq (pa_cons (pv 2) (pa_cons (pe_prop (pv 3) g.k_Kind g.p_Kind_apart F_Kind_apart (hr.mono (by decide)) B_Kind_apart .nil pqF rfl) (pa_cons (pe_prop (pv 3) g.k_Kind g.p_Kind_most F_Kind_most (hr.mono (by decide)) B_Kind_most .nil pqF rfl) pa_nil)))) (pa_cons (pe_fld (pv 0) rfl) pa_nil))))) pss_nil)
      (pss_cons (ps_if (pt_cmpR op_eq (pv 1) pe_str (nomark _)) (pss_one (ps_ret (pe_make g.m_State F_State___init__ (hr.mono (by decide)) rfl g.g_State B_State___init__ .nil pq (pa_cons (pe_make g.m_Kind F_Kind___init__ (hr.mono (by decide)) rfl g.g_Kind B_Kind___init__ .nil pq (pa_cons (pe_prop (pv 3) g.k_Kind g.p_Kind_jumps F_Kind_jumps (hr.mono (by decide)) B_Kind_jumps .nil pqF rfl) (pa_cons (pe_ix ix_list (pv 2) pe_int (fun _ _ => rfl)) (pa_cons (pe_prop (pv 3) g.k_Kind g.p_Kind_most F_Kind_most (hr.mono (by decide)) B_Kind_most .nil pqF rfl) pa_nil)))) (pa_cons (pe_fld (pv 0) rfl) pa_nil))))) pss_nil)
      (pss_one (ps_ret (pe_make g.m_State F_State___init__ (hr.mono (by decide)) rfl g.g_State B_State___init__ .nil pq (pa_cons (pe_make g.m_Kind F_Kind___init__ (hr.mono (by decide)) rfl g.g_Kind B_Kind___init__ .nil pq (pa_cons (pe_prop (pv 3) g.k_Kind g.p_Kind_jumps F_Kind_jumps (hr.mono (by decide)) B_Kind_jumps .nil pqF rfl) (pa_cons (pe_prop (pv 3) g.k_Kind g.p_Kind_apart F_Kind_apart (hr.mono (by decide)) B_Kind_apart .nil pqF rfl) (pa_cons (pe_ix ix_list (pv 2) pe_int (fun _ _ => rfl)) pa_nil)))) (pa_cons (pe_fld (pv 0) rfl) pa_nil)))))))))), ?_⟩
    obtain ⟨dx, kr, pr, ha, hk, hpr⟩ := id hs
    walk_at "k9"
    refine ⟨_, _, _, ha, g.k_State, g.n_State_zones, _, lsz, ?_⟩
    have fin : ∀ (k : Knd) (xk : Addr) (H4 : Hp), behM s z p = some ⟨k, s.t⟩ → Same H H4 → KdAt K H4 xk k → ∃ x x_1 x_2, H4 a = some (HO.ins x x_1 x_2) ∧ Cls K x ∧ NoAttr K x "plan" ∧ ∃ x, x_2.lookup ("plan" : Str) = some x ∧
        ∀ (x_3 dx : Addr), H4 x_3 = none → H4 dx = none → dx ≠ x_3 → sp_State___init__ K [V.ref x_3, V.ref xk, x] (upd (upd H4 dx (HO.own x_3)) x_3 (HO.ins (ga K "State") dx [])) (fun v H2 => v = V.non ∧ Q (V.ref x_3) H2) E := fun k xk H4 hb s4 h4 => by
      refine ⟨_, _, _, s4 _ _ ha, g.k_State, g.n_State_plan, _, lsp, fun x6 dx6 hx6 hdx6 hne6 => ⟨x6, dx6, _, _, rfl, upd_same, fun H5 c5 h5 => ⟨rfl, ?_⟩⟩⟩
      have s5 := made_same hx6 hdx6 c5
      exact q _ hb x6 H5 (s4.trans s5) ⟨dx6, xk, pr, h5, h4.same s5, (hpr.same s4).same s5⟩
    by_cases c1 : z = Str.ofString "program"
    · rw [if_pos c1]
      cases p with
      | flat l =>
        exfalso
        have ne1 : ∀ y : Str, (y == Str.ofString "program") = false → z = y → False := fun y h e => by rw [← e, c1] at h; simp at h
        rcases hsh with ⟨h, _⟩ | ⟨h | h, _⟩ | ⟨h, _⟩ | ⟨h | h, _⟩
        · exact ne1 _ (by decide +kernel) h
        · exact ne1 _ (by decide +kernel) h
        · exact ne1 _ (by decide +kernel) h
        · exact ne1 _ (by decide +kernel) h
        · exact ne1 _ (by decide +kernel) h
        · exact ne1 _ (by decide +kernel) h
      | rows l =>
        obtain ⟨p1, q1, rfl, hp1, hq1⟩ := hp
        have hb : behM s z (.rows l) = withM s l := by simp only [behM]; rw [if_pos c1]
        rw [hb] at qe q
        exact ⟨p1, rfl, _, .of hp1, _, at0, a, s, q1, l, rfl, hs, .of hq1, hsh.2, qe, q⟩
    · rw [if_neg c1]
      refine ⟨by decide, fun p0 hp0 => in_l newL rfl rfl ⟨_, rfl, ?_⟩⟩
      have s1 := sm1 (o := .lst [V.str "put", V.str "take", V.str "replace"]) hp0
      cases p with
      | rows l => exact absurd hsh.1 c1
      | flat l =>
        obtain ⟨p1, rfl, hp1⟩ := hp
        have in3 : inV (V.str z) [V.str "put", V.str "take", V.str "replace"] = (("put" : Str) == z || (("take" : Str) == z || (("replace" : Str) == z || false))) := rfl
        rw [in3]
        have nn : ∀ (x y : Str), (x == y) = false → x ≠ y := fun x y h e => by rw [e] at h; simp at h
        rcases hsh with ⟨hz, i, hi, rfl⟩ | ⟨hz, i, x, hi, hx, rfl⟩ | ⟨hz, js, h1, h4, rfl⟩ | ⟨hz, i, rfl⟩
        · have hb : behM s z (.flat [.int i]) = editM s z i.toNat [] := by simp only [behM]; rw [if_pos hz]
          rw [hb] at qe q
          rw [if_pos (by rw [hz]; decide +kernel)]
          exact ⟨a, s, z, p1, i, [], rfl, hs.same s1, s1 _ _ hp1, hi, .inl ⟨hz, rfl⟩, by simp; omega, fun h cls d H' he s' => qe h cls d H' he (s1.trans s'), fun s' h r H' s5 h5 => q s' h r H' (s1.trans s5) h5⟩
        · have nt : z ≠ "take" := by rcases hz with h | h <;> rw [h] <;> exact nn _ _ (by decide +kernel)
          have hb : behM s z (.flat [.int i, .str x]) = editM s z i.toNat [x] := by simp only [behM]; rw [if_neg nt, if_pos hz]
          rw [hb] at qe q
          rw [if_pos (by rcases hz with h | h <;> rw [h] <;> decide +kernel)]
          exact ⟨a, s, z, p1, i, [x], rfl, hs.same s1, s1 _ _ hp1, hi, .inr ⟨nt, x, rfl⟩, by simp; omega, fun h cls d H' he s' => qe h cls d H' he (s1.trans s'), fun s' h r H' s5 h5 => q s' h r H' (s1.trans s5) h5⟩
        · have hb : behM s z (.flat (js.map V.int)) = (kindM js s.k.ap s.k.mo).map fun k => ⟨k, s.t⟩ := by
            simp only [behM]
            rw [if_neg (by rw [hz]; exact nn _ _ (by decide +kernel)), if_neg (by rw [hz]; exact fun h => h.elim (nn _ _ (by decide +kernel)) (nn _ _ (by decide +kernel))), if_pos hz]
            congr 2
            rw [List.filterMap_map]
            exact List.filterMap_some
          rw [if_neg (by rw [hz]; decide +kernel), if_pos hz]
          obtain ⟨dk, jt, hk1, hk2⟩ := id (hk.same s1)
          refine ⟨kr, rfl, dk, _, hk1, kr, s.k, rfl, hk.same s1, kr, rfl, dk, _, hk1, kr, s.k, rfl, hk.same s1, fun x5 dx5 hx5 hdx5 hne5 => ?_⟩
          refine ⟨x5, _, p1, js, s.k.ap, s.k.mo, rfl, upd_same, .inl ?_, h1, h4, fun hn cls d H' he c => qe (by rw [hb, hn]; rfl) cls d H' he (s1.trans (made_same hx5 hdx5 c)), fun k hk2 H4 c h4 => ⟨rfl, fin k x5 H4 (by rw [hb, hk2]; rfl) (s1.trans (made_same hx5 hdx5 c)) h4⟩⟩
          have hp2 := s1 _ _ hp1
          rw [upd_ne (ne_of_none hp2 hx5), upd_ne (ne_of_none hp2 hdx5)]
          exact hp2
        · have n1 : z ≠ "take" := by rcases hz with h | h <;> rw [h] <;> exact nn _ _ (by decide +kernel)
          have n2 : ¬ (z = "put" ∨ z = "replace") := by rcases hz with h | h <;> rw [h] <;> exact fun h => h.elim (nn _ _ (by decide +kernel)) (nn _ _ (by decide +kernel))
          have n3 : z ≠ "jumps" := by rcases hz with h | h <;> rw [h] <;> exact nn _ _ (by decide +kernel)
          rw [if_neg (by rcases hz with h | h <;> rw [h] <;> decide +kernel), if_neg n3]
          obtain ⟨dk, jt, hk1, hk2⟩ := id (hk.same s1)
          by_cases c2 : z = Str.ofString "apart"
          · have hb : behM s z (.flat [.int i]) = (kindM s.k.js i s.k.mo).map fun k => ⟨k, s.t⟩ := by
              simp only [behM]
              rw [if_neg n1, if_neg n2, if_neg n3, if_pos c2]
            rw [if_pos c2]
            refine ⟨kr, rfl, dk, _, hk1, kr, s.k, rfl, hk.same s1, fun jt2 hj2 => ⟨p1, rfl, _, .of (s1 _ _ hp1), _, at0, kr, rfl, dk, _, hk1, kr, s.k, rfl, hk.same s1, fun x5 dx5 hx5 hdx5 hne5 => ?_⟩⟩
            refine ⟨x5, _, jt2, s.k.js, i, s.k.mo, rfl, upd_same, .inr ?_, hko.1, hko.2, fun hn cls d H' he c => qe (by rw [hb, hn]; rfl) cls d H' he (s1.trans (made_same hx5 hdx5 c)), fun k hk2 H4 c h4 => ⟨rfl, fin k x5 H4 (by rw [hb, hk2]; rfl) (s1.trans (made_same hx5 hdx5 c)) h4⟩⟩
            rw [upd_ne (ne_of_none hj2 hx5), upd_ne (ne_of_none hj2 hdx5)]
            exact hj2
          · have hb : behM s z (.flat [.int i]) = (kindM s.k.js s.k.ap i).map fun k => ⟨k, s.t⟩ := by
              simp only [behM]
              rw [if_neg n1, if_neg n2, if_neg n3, if_neg c2]
            rw [if_neg c2]
            refine ⟨kr, rfl, dk, _, hk1, kr, s.k, rfl, hk.same s1, fun jt2 hj2 => ⟨kr, rfl, dk, _, hk1, kr, s.k, rfl, hk.same s1, p1, rfl, _, .of (s1 _ _ hp1), _, at0, fun x5 dx5 hx5 hdx5 hne5 => ?_⟩⟩
            refine ⟨x5, _, jt2, s.k.js, s.k.ap, i, rfl, upd_same, .inr ?_, hko.1, hko.2, fun hn cls d H' he c => qe (by rw [hb, hn]; rfl) cls d H' he (s1.trans (made_same hx5 hdx5 c)), fun k hk2 H4 c h4 => ⟨rfl, fin k x5 H4 (by rw [hb, hk2]; rfl) (s1.trans (made_same hx5 hdx5 c)) h4⟩⟩
            rw [upd_ne (ne_of_none hj2 hx5), upd_ne (ne_of_none hj2 hdx5)]
            exact hj2
end
end L2.K9
set_option maxHeartbeats 4000000
namespace L2.K9
open PySem PySem.Spec PyProof.Rows He
local macro_rules | `(tactic| walk_at "lf") => `(tactic| ((repeat' split) <;> first | contradiction | rfl | (simp_all; done)))
local macro_rules | `(tactic| walk_at "k9") => `(tactic| simp only [tRet, tRetN, tSeq, tNext, tAsg, gName, tDrop, tIfS, tIf, tVar, tC, tCB, tCons, tNil, tOp, tUn, tTest, tB, tAnd, tOr, tNot, tAndV, tOrV, tNotV, tChain, tCall, tMeth, tMake, tM1, tM0, tBM, tBM0, tSl, tPart, tNoPart, rI0, rI, rU, rEq, rNe, start, List.map_cons, List.map_nil, List.length_cons, List.length_nil, Nat.reduceAdd, Nat.reduceSub, List.replicate_succ, List.replicate_zero, List.cons_append, List.nil_append, List.append_nil, List.getElem?_cons_zero, List.getElem?_cons_succ, List.set_cons_zero, List.set_cons_succ, Option.some.injEq, V.int.injEq, V.bl.injEq, V.str.injEq, V.ref.injEq, exists_eq_left', exists_eq_left, and_true, true_and, exists_and_left, List.cons.injEq, len_s, cxK, cxP, cxW, exists_eq_right, exists_eq', scal_ss, scal_ii, scal_bb, scal_ns, eq_self, ite_nd, rSlS, rIxS, rIxL, rIxT, rSlL, tLc_str, tLc_list, tPar, gTup, tTup, tLst, tDGet1, wipe, List.foldl_cons, List.foldl_nil, sg_inj, and_assoc, exists_eq, decide_eq_true_eq, if_true, if_false, Bool.false_eq_true, Bool.not_true, Bool.not_false, rNeE, rEqE, iEnumk, iZips, gStar, tWGet, rNewStrs, tDIn, sDPut, tDisp, tPairs, sFld, tFld, rAppend, rPop, tFor_list, tFor_enumk, tFor_tup, tFor_or, tProp, gSub, rSetL, rCat])
/-- things that never change once they stand -/
def ImO (K : PySem.W.Frag) : HO → Prop
  | .tup _ => True
  | .ins C _ _ => C ≠ ga K "Session"
  | .lst (.str _ :: _) => True
  | _ => False
def SameI (K : PySem.W.Frag) (H H' : Hp) : Prop := ∀ b o, ImO K o → H b = some o → H' b = some o
theorem Same.i {K : PySem.W.Frag} {H H' : Hp} (s : Same H H') : SameI K H H' := fun b o _ e => s b o e
theorem SameI.trans {K : PySem.W.Frag} {H H1 H2 : Hp} (a : SameI K H H1) (b : SameI K H1 H2) : SameI K H H2 := fun c o i e => b c o i (a c o i e)
section
variable {w : World} {K : PySem.W.Frag} {mg : Str → Option Value} {H H' : Hp}
theorem KdAt.i {a : Addr} {k : Knd} (g : GT w K mg) (h : KdAt K H a k) (s : SameI K H H') : KdAt K H' a k := by
  obtain ⟨dx, jt, h1, h2⟩ := h
  exact ⟨dx, jt, s _ _ g.ne_Kind h1, s _ _ trivial h2⟩
theorem PrAt.i {a : Addr} {z : Str} (g : GT w K mg) (h : PrAt K H a z) (s : SameI K H H') : PrAt K H' a z := by
  obtain ⟨dx, fs, h1, h2⟩ := h
  exact ⟨dx, fs, s _ _ g.ne_Program h1, h2⟩
theorem StAt.i {a : Addr} {t : Stt} (g : GT w K mg) (h : StAt K H a t) (s : SameI K H H') : StAt K H' a t := by
  obtain ⟨dx, kr, pr, h1, h2, h3⟩ := h
  exact ⟨dx, kr, pr, s _ _ g.ne_State h1, h2.i g s, h3.i g s⟩
end
/-- an entry of a session: the state behind it, its lines -/
abbrev Ent := Stt × List Str
def EnAt (K : PySem.W.Frag) (H : Hp) (t : Addr) (e : Ent) : Prop := ∃ st lr, H t = some (.tup [.ref st, .ref lr]) ∧ StAt K H st e.1 ∧ H lr = some (.lst (e.2.map V.str)) ∧ e.2 ≠ []
def Ents (K : PySem.W.Frag) (H : Hp) : List Addr → List Ent → Prop
  | [], [] => True
  | t :: ts, e :: es => EnAt K H t e ∧ Ents K H ts es
  | _, _ => False
section
variable {w : World} {K : PySem.W.Frag} {mg : Str → Option Value} {H H' : Hp}
theorem EnAt.i {t : Addr} {e : Ent} (g : GT w K mg) (h : EnAt K H t e) (s : SameI K H H') : EnAt K H' t e := by
  obtain ⟨st, lr, h1, h2, h3, h4⟩ := h
  refine ⟨st, lr, s _ _ trivial h1, h2.i g s, s _ _ ?_ h3, h4⟩
  cases h : e.2 with
  | nil => exact absurd h h4
  | cons a r => exact trivial
theorem Ents.i (g : GT w K mg) (s : SameI K H H') : ∀ {ts : List Addr} {es : List Ent}, Ents K H ts es → Ents K H' ts es
  | [], [], _ => trivial
  | _ :: _, _ :: _, h => ⟨h.1.i g s, Ents.i g s h.2⟩
theorem Ents.len : ∀ {ts : List Addr} {es : List Ent}, Ents K H ts es → ts.length = es.length
  | [], [], _ => rfl
  | _ :: _, _ :: _, h => by rw [List.length_cons, List.length_cons, Ents.len h.2]
theorem Ents.app : ∀ {ts us : List Addr} {es fs : List Ent}, Ents K H ts es → Ents K H us fs → Ents K H (ts ++ us) (es ++ fs)
  | [], _, [], _, _, h2 => h2
  | _ :: _, _, _ :: _, _, h, h2 => ⟨h.1, Ents.app h.2 h2⟩
theorem Ents.last : ∀ {es : List Ent} {ts : List Addr} {e : Ent}, Ents K H ts (es ++ [e]) → ∃ ts' t, ts = ts' ++ [t] ∧ Ents K H ts' es ∧ EnAt K H t e
  | [], [t], _, h => ⟨[], t, rfl, trivial, h.1⟩
  | [], _ :: _ :: _, _, h => h.2.elim
  | [], [], _, h => h.elim
  | _ :: _, [], _, h => h.elim
  | _ :: _, t :: _, _, h => by
    obtain ⟨ts', t', h1, h2, h3⟩ := Ents.last h.2
    exact ⟨t :: ts', t', by rw [h1]; rfl, ⟨h.1, h2⟩, h3⟩
theorem Ents.get : ∀ {i : Nat} {ts : List Addr} {es : List Ent} (h1 : i < ts.length) (h2 : i < es.length), Ents K H ts es → EnAt K H ts[i] es[i]
  | 0, _ :: _, _ :: _, _, _, h => h.1
  | i + 1, _ :: _, _ :: _, h1, h2, h => Ents.get (i := i) (Nat.lt_of_succ_lt_succ h1) (Nat.lt_of_succ_lt_succ h2) h.2
  | _, [], _, h1, _, _ => absurd h1 (Nat.not_lt_zero _)
  | _, _ :: _, [], _, h2, _ => absurd h2 (Nat.not_lt_zero _)
theorem Ents.dropL : ∀ {ts : List Addr} {es : List Ent}, Ents K H ts es → Ents K H ts.dropLast es.dropLast
  | [], [], _ => trivial
  | [_], [_], _ => trivial
  | [_], _ :: _ :: _, h => h.2.elim
  | _ :: _ :: _, [_], h => h.2.elim
  | _ :: b :: r, _ :: c :: q, h => ⟨h.1, Ents.dropL (ts := b :: r) (es := c :: q) h.2⟩
end
def ef (a b c : V) : List (Str × V) := [("origin", a), ("made", b), ("undone", c)]
structure SeAt (K : PySem.W.Frag) (H : Hp) (a m u : Addr) (s0 : Stt) (md un : List Ent) : Prop where
  mk ::
  ex : ∃ dx o, H a = some (.ins (ga K "Session") dx (ef (.ref o) (.ref m) (.ref u))) ∧ StAt K H o s0
  ms : ∃ ts, H m = some (.lst (ts.map V.ref)) ∧ Ents K H ts md
  us : ∃ ts, H u = some (.lst (ts.map V.ref)) ∧ Ents K H ts un
  ne : m ≠ u
theorem atL {α : Type} {l : List α} {x : α} : atI (l ++ [x]) (-1) = some x := by
  unfold atI ixN
  rw [if_neg (by decide), if_pos (by rw [List.length_append]; simp; omega)]
  have : (-1 + ((l ++ [x]).length : Int)).toNat = l.length := by rw [List.length_append]; simp; omega
  rw [this]
  simp
theorem nil_or {α : Type} (l : List α) : l = [] ∨ ∃ r x, l = r ++ [x] := by
  rcases List.eq_nil_or_concat l with h | ⟨r, x, h⟩
  · exact .inl h
  · exact .inr ⟨r, x, by rw [h, List.concat_eq_append]⟩
/-- the state that a session stands in -/
def cur (s0 : Stt) (md : List Ent) : Stt := (md.getLast?.map (·.1)).getD s0
section
variable {a b c v : V}
theorem leo : (ef a b c).lookup ("origin" : Str) = some a := by unfold ef; simp [List.lookup]
theorem lem : (ef a b c).lookup ("made" : Str) = some b := by
  unfold ef
  simp only [List.lookup, show ((Str.ofString "made") == Str.ofString "origin") = false by decide +kernel, BEq.rfl]
theorem leu : (ef a b c).lookup ("undone" : Str) = some c := by
  unfold ef
  simp only [List.lookup, show ((Str.ofString "undone") == Str.ofString "origin") = false by decide +kernel, show ((Str.ofString "undone") == Str.ofString "made") = false by decide +kernel, BEq.rfl]
theorem len3 (x : Str) (h1 : (x == Str.ofString "origin") = false) (h2 : (x == Str.ofString "made") = false) (h3 : (x == Str.ofString "undone") = false) : (ef a b c).lookup x = none := by
  unfold ef
  simp only [List.lookup, h1, h2, h3]
theorem put_un : putF ("undone" : Str) v (ef a b c) = ef a b v := by
  unfold ef
  simp only [putF, if_neg (show ¬ (Str.ofString "origin") = Str.ofString "undone" by decide +kernel), if_neg (show ¬ (Str.ofString "made") = Str.ofString "undone" by decide +kernel), if_true]
end
section
variable {w : World} {K : PySem.W.Frag} {mg : Str → Option Value} {H H' : Hp} {a m u : Addr} {s0 : Stt} {md un : List Ent}
theorem SeAt.same (g : GT w K mg) (h : SeAt K H a m u s0 md un) (s : Same H H') : SeAt K H' a m u s0 md un := by
  obtain ⟨⟨dx, o, h1, h2⟩, ⟨ts, h3, h4⟩, ⟨us, h5, h6⟩, h7⟩ := h
  exact ⟨⟨dx, o, s _ _ h1, h2.same s⟩, ⟨ts, s _ _ h3, h4.i g (Same.i s)⟩, ⟨us, s _ _ h5, h6.i g (Same.i s)⟩, h7⟩
/-- what a session's own changes leave -/
theorem SeAt.imm (h : SeAt K H a m u s0 md un) (c : ChgL [a, m, u] H H') : SameI K H H' := fun b o i e => by
  refine c b o ?_ e
  obtain ⟨⟨dx, o', h1, _⟩, ⟨ts, h3, _⟩, ⟨us, h5, _⟩, _⟩ := h
  simp only [List.mem_cons, List.not_mem_nil, or_false, not_or]
  refine ⟨fun z => ?_, fun z => ?_, fun z => ?_⟩
  · rw [z, h1] at e; cases e; exact i rfl
  · rw [z, h3] at e; cases e; cases ts <;> exact i
  · rw [z, h5] at e; cases e; cases us <;> exact i
end
section
variable {P : Program} {w : World} {K : PySem.W.Frag} {mg : Str → Option Value} {base : Heap}
def sp_Session_state (K : PySem.W.Frag) : Sp := fun vs H Q _ => ∃ (a m u : Addr) (s0 : Stt) (md un : List Ent), vs = [.ref a] ∧ SeAt K H a m u s0 md un ∧ ∀ r, StAt K H r (cur s0 md) → Q (.ref r) H
theorem len_Session_state {vs : List V} {H : Hp} {Q : VK} {E : XK} (h : (sp_Session_state K) vs H Q E) : vs.length = 1 := by
  obtain ⟨_, _, _, _, _, _, rfl, _⟩ := h; rfl
theorem sc_Session_state : FnScope ["self"] ["self"] (defScope s_Session_state) := ⟨rfl, rfl, rfl, by decide +kernel, rfl, by decide +kernel, by decide +kernel⟩
theorem ok_Session_state (g : GT w K mg) : DefOk P w K mg base 1 (ma K (ga K "Session") "state") ["self"] (sp_Session_state K) := by
  obtain ⟨fd, F⟩ := g.d_Session_state
  refine ⟨fd, ?_, F.bindsN fun _ _ _ _ _ _ us hl => match us, hl with | [_], _ => rfl, F.kp⟩
  refine F.ok sc_Session_state (fun vs H Q E h => ?_) (fun cdv A outer s H vs Q E hr h => ?_)
  · exact len_Session_state h
  · obtain ⟨a, m, u, s0, md, un, rfl, hs, q⟩ := h
    refine ⟨_, (pss_one (ps_ret (pe_ifExp (pt_truth (pe_fld (pv 0) rfl) (by intro _; rfl)) (pe_ix ix_tup (pe_ix ix_list (pe_fld (pv 0) rfl) (pe_un un_neg pe_int) (fun _ _ => rfl)) pe_int (fun _ _ => rfl)) (pe_fld (pv 0) rfl)))), ?_⟩
    obtain ⟨⟨dx, o, h1, h2⟩, ⟨ts, h3, h4⟩, _, _⟩ := id hs
    walk_at "k9"
    refine ⟨_, _, _, h1, g.k_Session, g.n_Session_made, _, lem, _, .inl ⟨_, .of h3, rfl⟩, ?_⟩
    rcases nil_or md with rfl | ⟨md', e, rfl⟩
    · have : ts = [] := by
        cases ts with
        | nil => rfl
        | cons a r => exact h4.elim
      subst this
      rw [if_neg (by decide)]
      exact ⟨_, _, _, h1, g.k_Session, g.n_Session_origin, _, leo, q o h2⟩
    · obtain ⟨ts', t, rfl, h5, st, lr, h6, h7, h8, h9⟩ := h4.last
      rw [if_pos (by simp)]
      refine ⟨_, _, _, h1, g.k_Session, g.n_Session_made, _, lem, m, rfl, _, .of h3, V.ref t, ?_, t, rfl, _, .of h6, _, at0, q st ?_⟩
      · rw [List.map_append]; exact atL
      · show StAt K H st (((md' ++ [e]).getLast?.map (·.1)).getD s0)
        rw [List.getLast?_append]
        exact h7
def sp_Session_kind (K : PySem.W.Frag) : Sp := fun vs H Q _ => ∃ (a m u : Addr) (s0 : Stt) (md un : List Ent), vs = [.ref a] ∧ SeAt K H a m u s0 md un ∧ ∀ r, KdAt K H r (cur s0 md).k → Q (.ref r) H
theorem len_Session_kind {vs : List V} {H : Hp} {Q : VK} {E : XK} (h : (sp_Session_kind K) vs H Q E) : vs.length = 1 := by
  obtain ⟨_, _, _, _, _, _, rfl, _⟩ := h; rfl
theorem sc_Session_kind : FnScope ["self"] ["self"] (defScope s_Session_kind) := ⟨rfl, rfl, rfl, by decide +kernel, rfl, by decide +kernel, by decide +kernel⟩
theorem ok_Session_kind (g : GT w K mg) : DefOk P w K mg base 2 (ma K (ga K "Session") "kind") ["self"] (sp_Session_kind K) := by
  obtain ⟨fd_Session_state, F_Session_state, B_Session_state, K_Session_state⟩ := ok_Session_state (P := P) (w := w) (base := base) g
  obtain ⟨fd, F⟩ := g.d_Session_kind
  refine ⟨fd, ?_, F.bindsN fun _ _ _ _ _ _ us hl => match us, hl with | [_], _ => rfl, F.kp⟩
  refine F.ok sc_Session_kind (fun vs H Q E h => ?_) (fun cdv A outer s H vs Q E hr h => ?_)
  · exact len_Session_kind h
  · obtain ⟨a, m, u, s0, md, un, rfl, hs, q⟩ := h
    refine ⟨_, (pss_one (ps_ret (pe_fld (pe_meth0 (pv 0) g.k_Session g.e_Session_state F_Session_state (hr.mono (by decide)) B_Session_state .nil pq) rfl))), ?_⟩
    obtain ⟨dx, o, h1, h2⟩ := hs.ex
    refine ⟨_, rfl, a, dx, _, rfl, h1, len3 _ (by decide +kernel) (by decide +kernel) (by decide +kernel), a, m, u, s0, md, un, rfl, hs, fun r hr => ?_⟩
    obtain ⟨dx2, kr, pr, h3, h4, h5⟩ := hr
    exact ⟨r, _, dx2, _, _, rfl, h3, g.k_State, g.n_State_zones, lsz, q kr h4⟩
def sp_Session_text (K : PySem.W.Frag) : Sp := fun vs H Q _ => ∃ (a m u : Addr) (s0 : Stt) (md un : List Ent), vs = [.ref a] ∧ SeAt K H a m u s0 md un ∧ (cur s0 md).t.length ≤ 400000 ∧ ∀ r H', Same H H' → H' r = some (.lst ((Txt.split (cur s0 md).t "\n").map V.str)) → Q (.ref r) H'
theorem len_Session_text {vs : List V} {H : Hp} {Q : VK} {E : XK} (h : (sp_Session_text K) vs H Q E) : vs.length = 1 := by
  obtain ⟨_, _, _, _, _, _, rfl, _⟩ := h; rfl
theorem sc_Session_text : FnScope ["self"] ["self"] (defScope s_Session_text) := ⟨rfl, rfl, rfl, by decide +kernel, rfl, by decide +kernel, by decide +kernel⟩
theorem ok_Session_text (g : GT w K mg) : DefOk P w K mg base 5 (ma K (ga K "Session") "text") ["self"] (sp_Session_text K) := by
  obtain ⟨fd_Session_state, F_Session_state, B_Session_state, K_Session_state⟩ := ok_Session_state (P := P) (w := w) (base := base) g
  obtain ⟨fd_State_told, F_State_told, B_State_told, K_State_told⟩ := ok_State_told (P := P) (w := w) (base := base) g
  obtain ⟨fd, F⟩ := g.d_Session_text
  refine ⟨fd, ?_, F.bindsN fun _ _ _ _ _ _ us hl => match us, hl with | [_], _ => rfl, F.kp⟩
  refine F.ok sc_Session_text (fun vs H Q E h => ?_) (fun cdv A outer s H vs Q E hr h => ?_)
  · exact len_Session_text h
  · obtain ⟨a, m, u, s0, md, un, rfl, hs, hl, q⟩ := h
    refine ⟨_, (pss_one (ps_ret (pe_meth0 (pe_meth0 (pv 0) g.k_Session g.e_Session_state F_Session_state (hr.mono (by decide)) B_Session_state .nil pq) g.k_State g.e_State_told F_State_told (hr.mono (by decide)) B_State_told .nil pq))), ?_⟩
    obtain ⟨dx, o, h1, h2⟩ := hs.ex
    refine ⟨_, rfl, a, dx, _, rfl, h1, len3 _ (by decide +kernel) (by decide +kernel) (by decide +kernel), a, m, u, s0, md, un, rfl, hs, fun r hr => ?_⟩
    obtain ⟨dx2, kr, pr, h3, h4, h5⟩ := id hr
    exact ⟨r, dx2, _, rfl, h3, lst, r, _, rfl, hr, hl, q⟩
def sp_Session___init__ (K : PySem.W.Frag) : Sp := fun vs H Q _ => ∃ (x dx kr pr : Addr) (s0 : Stt), vs = [.ref x, .ref kr, .ref pr] ∧ H x = some (.ins (ga K "Session") dx []) ∧ KdAt K H kr s0.k ∧ PrAt K H pr s0.t ∧
  ∀ H' m u, ChgL [x] H H' → SeAt K H' x m u s0 [] [] → H m = none → H u = none → Q .non H'
theorem len_Session___init__ {vs : List V} {H : Hp} {Q : VK} {E : XK} (h : (sp_Session___init__ K) vs H Q E) : vs.length = 3 := by
  obtain ⟨_, _, _, _, _, rfl, _⟩ := h; rfl
theorem sc_Session_init : FnScope ["self", "kind", "program"] ["self", "kind", "program"] (defScope s_Session___init__) := ⟨rfl, rfl, rfl, by decide +kernel, rfl, by decide +kernel, by decide +kernel⟩
theorem ok_Session___init__ (g : GT w K mg) : DefOk P w K mg base 3 (ma K (ga K "Session") "__init__") ["self", "kind", "program"] (sp_Session___init__ K) := by
  obtain ⟨fd_need_kind, F_need_kind, B_need_kind, K_need_kind⟩ := ok_need_kind (P := P) (w := w) (base := base) g
  obtain ⟨fd_need_program, F_need_program, B_need_program, K_need_program⟩ := ok_need_program (P := P) (w := w) (base := base) g
  obtain ⟨fd_State___init__, F_State___init__, B_State___init__, K_State___init__⟩ := ok_State___init__ (P := P) (w := w) (base := base) g
  obtain ⟨fd, F⟩ := g.d_Session___init__
  refine ⟨fd, ?_, ?_, F.kp⟩
  rotate_left
  · exact bindsFull F 3 rfl (fun _ _ _ _ _ _ _ us its hl hi => match us, hl, its, hi with | [_, _, _], _, [_], _ => ⟨_, rfl, rfl⟩)
  refine F.ok sc_Session_init (fun vs H Q E h => ?_) (fun cdv A outer s H vs Q E hr h => ?_)
  · exact len_Session___init__ h
  · obtain ⟨x, dx, kr, pr, s0, rfl, hx, hk, hp, q⟩ := h
    refine ⟨_, (pss_cons (ps_expr (pe_call F_need_kind (hr.mono (by decide)) rfl g.g_need_kind K_need_kind B_need_kind .nil pq (pa_cons (pv 1) pa_nil)))
      (pss_cons (ps_if (pt_cmpR op_notN (pv 2) pe_non (nomark _)) (pss_one (ps_expr (pe_call F_need_program (hr.mono (by decide)) rfl g.g_need_program K_need_program B_need_program .nil pq (pa_cons (pv 2) pa_nil)))) pss_nil)
      (pss_cons (ps_fld (pv 0) (pe_make g.m_State F_State___init__ (hr.mono (by decide)) rfl g.g_State B_State___init__ .nil pq (pa_cons (pv 1) (pa_cons (pv 2) pa_nil))) rfl)
      (pss_cons (ps_fld (pv 0) (pe_lst pa_nil) rfl)
      (pss_one (ps_fld (pv 0) (pe_lst pa_nil) rfl)))))), ?_⟩
    walk_at "k9"
    refine ⟨kr, s0.k, rfl, hk, ?_⟩
    show if V.ref pr = V.non then _ else _
    rw [if_neg (fun h => nomatch h)]
    refine ⟨pr, s0.t, rfl, hp, fun x2 dx2 hx2 hdx2 hne2 => ⟨x2, dx2, _, _, rfl, upd_same, fun H2 c2 h2 => ⟨rfl, ?_⟩⟩⟩
    have s2 := made_same hx2 hdx2 c2
    have hxs := s2 _ _ hx
    refine ⟨_, _, _, hxs, g.k_Session, g.n_Session_origin, by simp, Nat.zero_le _, fun m hm => ?_⟩
    have nmx : m ≠ x := fun z => by rw [z, upd_same] at hm; cases hm
    have hm2 : H2 m = none := by rw [upd_ne nmx] at hm; exact hm
    refine ⟨_, _, _, (upd_ne (Ne.symm nmx)).trans upd_same, g.k_Session, g.n_Session_made, ?_, Nat.zero_le _, fun u hu => ?_⟩
    · have := putF_len ("origin" : Str) (.ref x2) []
      simp only [List.length_nil] at this
      omega
    have nux : u ≠ x := fun z => by rw [z, upd_same] at hu; cases hu
    have num : u ≠ m := fun z => by rw [upd_ne nux, z, upd_same] at hu; cases hu
    have hu2 : H2 u = none := by rw [upd_ne nux, upd_ne num, upd_ne nux] at hu; exact hu
    refine ⟨_, _, _, (upd_ne (Ne.symm nux)).trans upd_same, g.k_Session, g.n_Session_undone, pl2, ?_⟩
    generalize hH7 : upd (upd _ u (HO.lst [])) x _ = H7
    have c7 : ChgL [x] H2 H7 := fun b o hb e => by
      have hbx : b ≠ x := fun z => hb (by simp [z])
      rw [← hH7, upd_ne hbx, upd_ne (ne_of_none e hu2), upd_ne hbx, upd_ne (ne_of_none e hm2), upd_ne hbx]
      exact e
    have i7 : SameI K H2 H7 := fun b o i e => c7 b o (by
      simp only [List.mem_singleton]
      intro z
      rw [z, hxs] at e
      cases e
      exact i rfl) e
    refine q H7 m u (ChgL.trans (Same.chg s2) c7) ⟨⟨dx, x2, ?_, ?_⟩, ⟨[], ?_, trivial⟩, ⟨[], ?_, trivial⟩, Ne.symm num⟩ (s2.free hm2) (s2.free hu2)
    · rw [← hH7, upd_same]; rfl
    · exact StAt.i g ⟨dx2, kr, pr, h2, hk.same s2, hp.same s2⟩ i7
    · rw [← hH7, upd_ne nmx, upd_ne (Ne.symm num), upd_ne nmx, upd_same]; rfl
    · rw [← hH7, upd_ne nux, upd_same]; rfl
def dn (md : List Ent) : List Str := md.flatMap (·.2)
def sp_Session_done (K : PySem.W.Frag) : Sp := fun vs H Q _ => ∃ (a m u : Addr) (s0 : Stt) (md un : List Ent), vs = [.ref a] ∧ SeAt K H a m u s0 md un ∧ md.length ≤ 1000 ∧ (dn md).length ≤ 1000 ∧ ∀ r H', Same H H' → H r = none → H' r = some (.lst ((dn md).map V.str)) → Q (.ref r) H'
theorem len_Session_done {vs : List V} {H : Hp} {Q : VK} {E : XK} (h : (sp_Session_done K) vs H Q E) : vs.length = 1 := by
  obtain ⟨_, _, _, _, _, _, rfl, _⟩ := h; rfl
theorem sc_Session_done : FnScope ["self", "line", "state", "lines"] ["self"] (defScope s_Session_done) := ⟨rfl, rfl, rfl, by decide +kernel, rfl, by decide +kernel, by decide +kernel⟩
theorem ok_Session_done (g : GT w K mg) : DefOk P w K mg base 1 (ma K (ga K "Session") "done") ["self"] (sp_Session_done K) := by
  obtain ⟨fd, F⟩ := g.d_Session_done
  refine ⟨fd, ?_, F.bindsN fun _ _ _ _ _ _ us hl => match us, hl with | [_], _ => rfl, F.kp⟩
  refine F.ok sc_Session_done (fun vs H Q E h => ?_) (fun cdv A outer s H vs Q E hr h => ?_)
  · exact len_Session_done h
  · obtain ⟨a, m, u, s0, md, un, rfl, hs, hl1, hl2, q⟩ := h
    refine ⟨_, (pss_one (ps_ret (pe_lc2 (own := [("state", 2), ("lines", 3), ("line", 1)]) (vs1 := [1]) (by rfl) sc_Session_done.nd (pi_list (pe_fld (pv 0) rfl)) (blkOk_by (N := ["self", "line", "state", "lines"]) (own := [("state", 2), ("lines", 3), ("line", 1)]) (show blkC _ (defScope s_Session_done) _ _ = true by decide +kernel)) (by decide) (fun _ _ _ _ _ => (pg_tup_K (K := K) (n := 2) rfl rfl (pgs_cons (pg_name (i := 2) sc_Session_done.nd rfl (Or.inl rfl)) (pgs_cons (pg_name (i := 3) sc_Session_done.nd rfl (Or.inl rfl)) pgs_nil)))) (fun _ _ _ _ _ => pts_nil) (fun _ _ _ _ _ => (pi_list_K (K := K) rfl (pv 3))) (fun _ _ _ _ _ => (pg_name (i := 1) sc_Session_done.nd rfl (Or.inl rfl))) (fun _ _ _ _ _ => pts_nil) (fun _ _ _ _ _ => (pv 1))))), ?_⟩
    obtain ⟨⟨dx, o, h1, h2⟩, ⟨ts, h3, h4⟩, _, _⟩ := id hs
    have hlt := h4.len
    refine ⟨_, rfl, a, _, dx, _, _, rfl, h1, g.k_Session, g.n_Session_made, lem, m, rfl, ⟨_, .of h3⟩, fun D hD => ?_⟩
    refine ⟨fun i k Hc => k = md.length - i ∧ i ≤ md.length ∧ Same H Hc ∧ Hc D = some (.lst ((dn (md.take i)).map V.str)), ⟨md.length, by simp, Nat.zero_le _, Same.upd (Same.refl H) hD, by rw [upd_same]; rfl⟩, ?_⟩
    rintro i k Hc ⟨rfl, hi, sc, ec⟩
    have hm := sc _ _ h3
    by_cases hlt2 : i < md.length
    · have hit : i < ts.length := by omega
      obtain ⟨st, lr, e1, e2, e3, e4⟩ := Ents.get hit hlt2 h4
      refine .inr ⟨⟨_, V.ref ts[i], .of hm, by rw [List.getElem?_map, List.getElem?_eq_getElem hit]; rfl⟩, fun Hc => Same H Hc ∧ Hc D = some (.lst ((dn (md.take (i + 1))).map V.str)), fun H' ⟨p1, p2⟩ => ⟨md.length - (i + 1), by omega, rfl, hlt2, p1, p2⟩, fun x H' ⟨eH, hy⟩ => ?_⟩
      subst eH
      have hx : x = V.ref ts[i] := by
        have := hy _ (.of hm)
        rw [List.getElem?_map, List.getElem?_eq_getElem hit] at this
        exact (Option.some.inj this).symm
      subst hx
      have hdn : dn (md.take (i + 1)) = dn (md.take i) ++ (md[i]).2 := by
        unfold dn
        rw [List.take_succ_eq_append_getElem hlt2, List.flatMap_append]
        simp
      have hsz : (dn (md.take i)).length + (md[i]).2.length ≤ 1000 := by
        have h := congrArg List.length hdn
        rw [List.length_append] at h
        have h2 : (dn (md.take (i + 1))).length ≤ (dn md).length := by
          have : dn md = dn (md.take (i + 1)) ++ dn (md.drop (i + 1)) := by
            unfold dn
            rw [← List.flatMap_append, List.take_append_drop]
          rw [this, List.length_append]
          omega
        omega
      have t1 := sc _ _ e1
      have t3 := sc _ _ e3
      refine ⟨ts[i], _, rfl, .of t1, rfl, _, _, rfl, _, _, rfl, rfl, rfl, ?_⟩
      refine ⟨_, rfl, lr, rfl, ⟨_, .of t3⟩, ?_⟩
      refine ⟨fun j k Hd => k = (md[i]).2.length - j ∧ j ≤ (md[i]).2.length ∧ Same H Hd ∧ Hd D = some (.lst ((dn (md.take i) ++ (md[i]).2.take j).map V.str)), ⟨(md[i]).2.length, by simp, Nat.zero_le _, sc, by simpa using ec⟩, ?_⟩
      rintro j k Hd ⟨rfl, hj, sd, ed⟩
      have t4 := sd _ _ e3
      by_cases hj2 : j < (md[i]).2.length
      · refine .inr ⟨⟨_, V.str (md[i]).2[j], .of t4, by rw [List.getElem?_map, List.getElem?_eq_getElem hj2]; rfl⟩, fun Hd => Same H Hd ∧ Hd D = some (.lst ((dn (md.take i) ++ (md[i]).2.take (j + 1)).map V.str)), fun H' ⟨p1, p2⟩ => ⟨(md[i]).2.length - (j + 1), by omega, rfl, hj2, p1, p2⟩, fun x H' ⟨eH, hy⟩ => ?_⟩
        subst eH
        have hx : x = V.str (md[i]).2[j] := by
          have := hy _ (.of t4)
          rw [List.getElem?_map, List.getElem?_eq_getElem hj2] at this
          exact (Option.some.inj this).symm
        subst hx
        refine ⟨rfl, _, rfl, _, ed, ?_, ?_, ?_⟩
        · rw [List.length_map, List.length_append, List.length_take, sizeLine_eq]; omega
        · intro b u e
          rw [upd_ne (ne_of_none e hD)]
          exact sd _ _ e
        · rw [upd_same, List.take_succ_eq_append_getElem hj2, ← List.append_assoc, List.map_append (l₂ := [(md[i]).2[j]])]
          rfl
      · have : j = (md[i]).2.length := by omega
        subst this
        refine .inl ⟨⟨_, .of t4, by rw [List.length_map]; exact Nat.le_refl _⟩, sd, ?_⟩
        rw [ed, hdn, List.take_length]
    · have : i = md.length := by omega
      subst this
      refine .inl ⟨⟨_, .of hm, by rw [List.length_map]; omega⟩, q D Hc sc hD ?_⟩
      rw [ec, List.take_length]
end
end L2.K9
set_option maxHeartbeats 4000000
namespace L2.K9
open PySem PySem.Spec PyProof.Rows He
local macro_rules | `(tactic| walk_at "lf") => `(tactic| ((repeat' split) <;> first | contradiction | rfl | (simp_all; done)))
local macro_rules | `(tactic| walk_at "k9") => `(tactic| simp only [tRet, tRetN, tSeq, tNext, tAsg, gName, tDrop, tIfS, tIf, tVar, tC, tCB, tCons, tNil, tOp, tUn, tTest, tB, tAnd, tOr, tNot, tAndV, tOrV, tNotV, tChain, tCall, tMeth, tMake, tM1, tM0, tBM, tBM0, tSl, tPart, tNoPart, rI0, rI, rU, rEq, rNe, start, List.map_cons, List.map_nil, List.length_cons, List.length_nil, Nat.reduceAdd, Nat.reduceSub, List.replicate_succ, List.replicate_zero, List.cons_append, List.nil_append, List.append_nil, List.getElem?_cons_zero, List.getElem?_cons_succ, List.set_cons_zero, List.set_cons_succ, Option.some.injEq, V.int.injEq, V.bl.injEq, V.str.injEq, V.ref.injEq, exists_eq_left', exists_eq_left, and_true, true_and, exists_and_left, List.cons.injEq, len_s, cxK, cxP, cxW, exists_eq_right, exists_eq', scal_ss, scal_ii, scal_bb, scal_ns, eq_self, ite_nd, rSlS, rIxS, rIxL, rIxT, rSlL, tLc_str, tLc_list, tPar, gTup, tTup, tLst, tDGet1, wipe, List.foldl_cons, List.foldl_nil, sg_inj, and_assoc, exists_eq, decide_eq_true_eq, if_true, if_false, Bool.false_eq_true, Bool.not_true, Bool.not_false, rNeE, rEqE, iEnumk, iZips, gStar, tWGet, rNewStrs, tDIn, sDPut, tDisp, tPairs, sFld, tFld, rAppend, rPop, tFor_list, tFor_enumk, tFor_tup, tFor_or, tProp, gSub, rSetL, rCat])
section
variable {P : Program} {w : World} {K : PySem.W.Frag} {mg : Str → Option Value} {base : Heap}
/-- undo | redo: what it leaves -/
def sp_Session_step (K : PySem.W.Frag) : Sp := fun vs H Q E => ∃ (a m u : Addr) (s0 : Stt) (md un : List Ent) (b : Bool), vs = [.ref a, .str (if b then "undo" else "redo")] ∧ SeAt K H a m u s0 md un ∧ md.length ≤ 1000 ∧ un.length ≤ 1000 ∧
  ((if b then md else un) = [] → EOk K H E) ∧ ∀ md' un', (b = true ∧ (∃ e, md = md' ++ [e] ∧ un' = un ++ [e]) ∨ b = false ∧ (∃ e, un = un' ++ [e] ∧ md' = md ++ [e])) →
    ∀ r H', ChgL [a, m, u] H H' → SeAt K H' a m u s0 md' un' → H' r = some (.lst []) → Q (.ref r) H'
theorem len_Session_step {vs : List V} {H : Hp} {Q : VK} {E : XK} (h : (sp_Session_step K) vs H Q E) : vs.length = 2 := by
  obtain ⟨_, _, _, _, _, _, _, rfl, _⟩ := h; rfl
theorem sc_Session_step : FnScope ["self", "word", "sources", "goals"] ["self", "word"] (defScope s_Session_step) := ⟨rfl, rfl, rfl, by decide +kernel, rfl, by decide +kernel, by decide +kernel⟩
theorem ok_Session_step (g : GT w K mg) : DefOk P w K mg base 3 (ma K (ga K "Session") "step") ["self", "word"] (sp_Session_step K) := by
  obtain ⟨fd_NothingToUndo___init__, F_NothingToUndo___init__, B_NothingToUndo___init__, K_NothingToUndo___init__⟩ := ok_NothingToUndo___init__ (P := P) (w := w) (base := base) g
  obtain ⟨fd, F⟩ := g.d_Session_step
  refine ⟨fd, ?_, F.bindsN fun _ _ _ _ _ _ us hl => match us, hl with | [_, _], _ => rfl, F.kp⟩
  refine F.ok sc_Session_step (fun vs H Q E h => ?_) (fun cdv A outer s H vs Q E hr h => ?_)
  · exact len_Session_step h
  · obtain ⟨a, m, u, s0, md, un, b, rfl, hs, hl1, hl2, qe, q⟩ := h
    refine ⟨_, (pss_cons (ps_asg (pe_ifExp (pt_cmpR op_eq (pv 1) (pe_ix ix_list (pe_glob (v := .ref (ga K "STOPS")) rfl g.g_STOPS rfl) pe_int (fun _ _ => rfl)) (nomark _)) (pe_tup (pa_cons (pe_fld (pv 0) rfl) (pa_cons (pe_fld (pv 0) rfl) pa_nil))) (pe_tup (pa_cons (pe_fld (pv 0) rfl) (pa_cons (pe_fld (pv 0) rfl) pa_nil)))) (pg_tup (n := 2) rfl (pgs_cons (pg_name (i := 2) sc_Session_step.nd rfl (Or.inl rfl)) (pgs_cons (pg_name (i := 3) sc_Session_step.nd rfl (Or.inl rfl)) pgs_nil))))
      (pss_cons (ps_if (pt_cmpR (op_eqE hr.units0) (pv 2) (pe_lst pa_nil) (nomark _)) (pss_one (ps_raise rfl (takes_of rfl rfl rfl rfl) (pmk_90 g.x_NothingToUndo g.i_NothingToUndo g.t_NothingToUndo F_NothingToUndo___init__ (hr.mono (by decide)) B_NothingToUndo___init__ pqF rfl g.g_NothingToUndo rfl))) pss_nil)
      (pss_cons (ps_expr (pe_bm PySem.F.plainAttrs_list PySem.F.slot_list_append PySem.F.type_list_append mt_append (pv 3) (pa_cons (pe_bm0 PySem.F.plainAttrs_list PySem.F.slot_list_pop PySem.F.type_list_pop mt_pop (pv 2)) pa_nil)))
      (pss_one (ps_ret (pe_lst pa_nil)))))), ?_⟩
    obtain ⟨⟨dx, o, h1, h2⟩, ⟨ts, h3, h4⟩, ⟨us, h5, h6⟩, hne⟩ := id hs
    walk_at "k9"
    have core : ∀ (sA gA : Addr) (xs gs : List Addr) (v1 : V) (H1 : Hp), Same H H1 → H1 sA = some (.lst (xs.map V.ref)) → H1 gA = some (.lst (gs.map V.ref)) → sA ≠ gA → gs.length ≤ 1000 → (xs = [] → EOk K H E) →
        (∀ xs' t r Hs, xs = xs' ++ [t] → Same H Hs → (upd (upd Hs sA (.lst (xs'.map V.ref))) gA (.lst ((gs ++ [t]).map V.ref))) r = none → Q (.ref r) (upd (upd (upd Hs sA (.lst (xs'.map V.ref))) gA (.lst ((gs ++ [t]).map V.ref))) r (.lst []))) →
        gCons (gName 2) (gCons (gName 3) gNil) [.ref sA, .ref gA] [some (V.ref a), some v1, none, none] H1 (tSeq (tIfS (tTest (tOp (rEqE K) (tVar 2) (tLst tNil))) (fun x σ H => tMk9 (ga K "NothingToUndo") (spIni0 Kd.look K) tNil σ H fun cls d H' => E cls d H') tNext)
          (tSeq (tDrop (tBM K "list" rAppend (tVar 3) (tCons (tBM0 K "list" rPop (tVar 2)) tNil))) (tRet (tLst tNil))) { nx := fun x H' => Q V.non H', rt := Q }) := fun sA gA xs gs v1 H1 s1 hsA hgA hd hg1 he hq => by
      refine ⟨_, _, rfl, _, _, rfl, rfl, ?_⟩
      walk_at "k9"
      refine ⟨Nat.zero_le _, fun p1 hp1 => ⟨_, (sm1 hp1).seq (.of hsA), newL, ?_⟩⟩
      have s2 := Same.upd (o := .lst []) s1 hp1
      rcases nil_or xs with rfl | ⟨xs', t, rfl⟩
      · rw [if_pos (show (([] : List Addr).map V.ref) = [] from rfl)]
        exact mk0 g.x_NothingToUndo (he rfl _ _ _ g.ex_NothingToUndo s2)
      · rw [if_neg (by simp)]
        have h1' := (sm1 (o := .lst []) hp1) _ _ hsA
        have h2' := (sm1 (o := .lst []) hp1) _ _ hgA
        refine ⟨.inl ⟨rfl, _, .of h2'⟩, .inl ⟨rfl, _, .of h1'⟩, _, h1', .ref t, ?_, _, (upd_ne (Ne.symm hd)).trans h2', ?_, Nat.zero_le _, fun r hr => ?_⟩
        · rw [List.map_append, List.length_append, List.length_map]
          simp
        · rw [List.length_map, sizeLine_eq]; omega
        · have ed : ((xs' ++ [t]).map V.ref).dropLast = xs'.map V.ref := by rw [List.map_append]; exact List.dropLast_concat
          have eg : gs.map V.ref ++ [V.ref t] = (gs ++ [t]).map V.ref := by rw [List.map_append]; rfl
          rw [ed, eg] at hr ⊢
          exact hq xs' t r _ rfl s2 hr
    have l1 := h4.len
    have l2 := h6.len
    have hnm : m ≠ a := fun z => by rw [z, h1] at h3; cases h3
    have hnu : u ≠ a := fun z => by rw [z, h1] at h5; cases h5
    cases b with
    | true =>
      refine ⟨_, g.l_STOPS H, _, at0, rfl, ?_⟩
      rw [if_pos rfl]
      refine ⟨_, _, _, h1, g.k_Session, g.n_Session_made, _, lem, _, _, _, h1, g.k_Session, g.n_Session_undone, _, leu, by decide, fun p hp => ⟨_, newT, rfl, ?_⟩⟩
      refine core m u ts us _ _ (sm1 hp) (sm1 hp _ _ h3) (sm1 hp _ _ h5) hne (by omega) (fun e => qe ?_) fun xs' t r Hs ex sH hr => ?_
      · show md = []
        subst e
        cases md with
        | nil => rfl
        | cons a r => exact h4.elim
      · subst ex
        rcases nil_or md with rfl | ⟨md', e, rfl⟩
        · cases xs' <;> exact h4.elim
        · obtain ⟨ts', t', et, h7, h8⟩ := h4.last
          have et2 : xs' = ts' ∧ t = t' := by
            have := List.append_inj' et rfl
            exact ⟨this.1, List.head_eq_of_cons_eq this.2⟩
          obtain ⟨rfl, rfl⟩ := et2
          have cH : ChgL [a, m, u] H (upd (upd (upd Hs m (.lst (xs'.map V.ref))) u (.lst ((us ++ [t]).map V.ref))) r (.lst [])) :=
            (ChgL.trans (Same.chg sH) (ChgL.trans (.upd (by simp)) (.upd (by simp)))).trans (Same.chg (sm1 hr))
          have iH := hs.imm cH
          have nrm : m ≠ r := fun z => by rw [← z, upd_ne hne, upd_same] at hr; cases hr
          have nru : u ≠ r := fun z => by rw [← z, upd_same] at hr; cases hr
          have nra : a ≠ r := fun z => by rw [← z, upd_ne (Ne.symm hnu), upd_ne (Ne.symm hnm), sH _ _ h1] at hr; cases hr
          refine q md' (un ++ [e]) (.inl ⟨rfl, e, rfl, rfl⟩) r _ cH ⟨⟨dx, o, ?_, h2.i g iH⟩, ⟨xs', ?_, h7.i g iH⟩, ⟨us ++ [t], ?_, Ents.app (h6.i g iH) ⟨h8.i g iH, trivial⟩⟩, hne⟩ upd_same
          · rw [upd_ne nra, upd_ne (Ne.symm hnu), upd_ne (Ne.symm hnm)]; exact sH _ _ h1
          · rw [upd_ne nrm, upd_ne hne, upd_same]
          · rw [upd_ne nru, upd_same]
    | false =>
      refine ⟨_, g.l_STOPS H, _, at0, rfl, ?_⟩
      rw [if_neg (by decide +kernel)]
      refine ⟨_, _, _, h1, g.k_Session, g.n_Session_undone, _, leu, _, _, _, h1, g.k_Session, g.n_Session_made, _, lem, by decide, fun p hp => ⟨_, newT, rfl, ?_⟩⟩
      refine core u m us ts _ _ (sm1 hp) (sm1 hp _ _ h5) (sm1 hp _ _ h3) (Ne.symm hne) (by omega) (fun e => qe ?_) fun xs' t r Hs ex sH hr => ?_
      · show un = []
        subst e
        cases un with
        | nil => rfl
        | cons a r => exact h6.elim
      · subst ex
        rcases nil_or un with rfl | ⟨un', e, rfl⟩
        · cases xs' <;> exact h6.elim
        · obtain ⟨ts', t', et, h7, h8⟩ := h6.last
          have et2 : xs' = ts' ∧ t = t' := by
            have := List.append_inj' et rfl
            exact ⟨this.1, List.head_eq_of_cons_eq this.2⟩
          obtain ⟨rfl, rfl⟩ := et2
          have cH : ChgL [a, m, u] H (upd (upd (upd Hs u (.lst (xs'.map V.ref))) m (.lst ((ts ++ [t]).map V.ref))) r (.lst [])) :=
            (ChgL.trans (Same.chg sH) (ChgL.trans (.upd (by simp)) (.upd (by simp)))).trans (Same.chg (sm1 hr))
          have iH := hs.imm cH
          have nru : u ≠ r := fun z => by rw [← z, upd_ne (Ne.symm hne), upd_same] at hr; cases hr
          have nrm : m ≠ r := fun z => by rw [← z, upd_same] at hr; cases hr
          have nra : a ≠ r := fun z => by rw [← z, upd_ne (Ne.symm hnm), upd_ne (Ne.symm hnu), sH _ _ h1] at hr; cases hr
          refine q (md ++ [e]) un' (.inr ⟨rfl, e, rfl, rfl⟩) r _ cH ⟨⟨dx, o, ?_, h2.i g iH⟩, ⟨ts ++ [t], ?_, Ents.app (h4.i g iH) ⟨h8.i g iH, trivial⟩⟩, ⟨xs', ?_, h7.i g iH⟩, hne⟩ upd_same
          · rw [upd_ne nra, upd_ne (Ne.symm hnm), upd_ne (Ne.symm hnu)]; exact sH _ _ h1
          · rw [upd_ne nrm, upd_same]
          · rw [upd_ne nru, upd_ne (Ne.symm hne), upd_same]
end
end L2.K9
set_option maxHeartbeats 4000000
/-! the shape of a command's parts -/
namespace L2.K9
open PySem PySem.Spec PyProof.Rows He
theorem rem_head {z : Str} (h : Txt.removeprefix z "-" ≠ z) : ∃ r, z.cps.toList = 45 :: r := by
  unfold Txt.removeprefix Txt.affix at h
  have h0 : Builtin.Str.subAt z "-" 0 = true := by
    cases e : Builtin.Str.subAt z "-" 0 with
    | true => rfl
    | false => rw [e] at h; exact absurd rfl h
  unfold Builtin.Str.subAt at h0
  have e : (z.cps.extract 0 (0 + (Str.ofString "-").length)).toList = [45] := by
    rw [eq_of_beq h0]; decide +kernel
  have l1 : (Str.ofString "-").length = 1 := by decide +kernel
  rw [l1, Array.toList_extract] at e
  simp only [List.extract, List.drop_zero] at e
  cases hz : z.cps.toList with
  | nil => rw [hz] at e; simp at e
  | cons c r =>
    rw [hz] at e
    simp at e
    exact ⟨r, by rw [e]⟩
theorem index_nn {z : Str} {i : Int} (h : indexOf z = some i) : 0 ≤ i := by
  unfold indexOf at h
  cases hn : toldInt z 99 with
  | none => rw [hn] at h; cases h
  | some n =>
    rw [hn] at h
    by_cases hd : (match z.cps.toList with | [] => false | c :: _ => hasS dgts c) = true
    · have h : (if (match z.cps.toList with | [] => false | c :: _ => hasS dgts c) = true then some n else none) = some i := h
      rw [if_pos hd] at h
      cases h
      by_cases c : Txt.removeprefix z "-" = z
      · unfold toldInt at hn
        simp only [c] at hn
        split at hn
        · split at hn
          · cases hn
          · simp only [if_pos trivial] at hn
            split at hn
            · cases hn
              unfold valD
              omega
            · cases hn
        · cases hn
      · obtain ⟨r, hr⟩ := rem_head c
        rw [hr] at hd
        have h5 : hasS dgts 45 = true := hd
        exact absurd h5 (by decide +kernel)
    · have h : (if (match z.cps.toList with | [] => false | c :: _ => hasS dgts c) = true then some n else none) = some i := h
      rw [if_neg hd] at h
      cases h
theorem zipW1 {f g : Str} {ws : List Str} (hf : f.length = ws.length) : (List.zipWith (fun k x => oI (partOf k x)) (signs f) ws).length = ws.length := by
  have ls : (signs f).length = ws.length := by unfold signs; rw [List.length_map, Array.length_toList]; exact hf
  simp [ls]
theorem none_nin {l : List (Option Int)} (h : inV .non (l.map oI) = false) : ∃ js : List Int, l.map oI = js.map V.int ∧ js.length = l.length ∧ l = js.map some := by
  induction l with
  | nil => exact ⟨[], rfl, rfl, rfl⟩
  | cons a r ih =>
    have h1 : (eqV (oI a) .non || inV .non (r.map oI)) = false := h
    rw [Bool.or_eq_false_iff] at h1
    obtain ⟨js, e1, e2, e3⟩ := ih h1.2
    cases a with
    | none => exact absurd h1.1 (by decide)
    | some i => exact ⟨i :: js, by rw [List.map_cons, e1]; rfl, by simp [e2], by rw [e3]; rfl⟩
theorem shape {l w : Str} {p : Pts} (h : cmdM l = some (w, p)) (hc : Chg l) (hl : l.length ≤ 40000) : Shp w p := by
  obtain ⟨w', ws, hs, hw⟩ := hc
  unfold cmdM at h
  rw [hs] at h
  simp only at h
  split at h
  · cases hp : partsOf w' ws with
    | none => rw [hp] at h; cases h
    | some pp =>
      rw [hp] at h
      have h : (w', pp) = (w, p) := Option.some.inj h
      obtain ⟨rfl, rfl⟩ := Prod.mk.inj h
      have hsum := split_len sep_sp l
      have l1 : (Str.ofString " ").length = 1 := by decide +kernel
      rw [l1] at hsum
      have hcnt := split_cnt sep_sp l
      rw [hs] at hsum hcnt
      simp only [List.map_cons, List.sum_cons, List.length_cons] at hsum hcnt
      have nn : ∀ (x y : Str), (x == y) = false → x ≠ y := fun x y h e => by rw [e] at h; simp at h
      unfold partsOf at hp
      split at hp
      · rename_i h3
        by_cases c : w' = "program"
        · subst c
          unfold textsOf at hp
          rw [if_pos rfl] at hp
          split at hp
          · cases hp
          · cases hp
            have hj := join_le ws l1
            have h1 := split_sum sep_bar (Txt.join " " ws)
            have h2 := split_cnt sep_bar (Txt.join " " ws)
            exact ⟨rfl, by omega⟩
        · unfold textsOf at hp
          rw [if_neg c] at hp
          match ws, hp with
          | [], hp => cases hp
          | [_], hp => cases hp
          | a :: b :: r, hp =>
            cases hi : indexOf a with
            | none => simp only [hi] at hp; cases hp
            | some i =>
              simp only [hi] at hp
              cases hp
              have hj := join_le (b :: r) l1
              simp only [List.map_cons, List.sum_cons, List.length_cons] at hsum hcnt hj
              refine .inr (.inl ⟨?_, i, _, index_nn hi, by omega, rfl⟩)
              have h3 : (("program" : Str) == w' || (("put" : Str) == w' || (("replace" : Str) == w' || false))) = true := h3
              simp only [Bool.or_eq_true, beq_iff_eq, Bool.false_eq_true, or_false] at h3
              rcases h3 with h | h | h
              · exact absurd h.symm c
              · exact .inl h.symm
              · exact .inr h.symm
      · rename_i h3
        have h3 : ¬ (("program" : Str) == w' || (("put" : Str) == w' || (("replace" : Str) == w' || false))) = true := h3
        simp only [Bool.or_eq_true, beq_iff_eq, Bool.false_eq_true, or_false, not_or] at h3
        have hw : (("program" : Str) == w' || (("put" : Str) == w' || (("take" : Str) == w' || (("replace" : Str) == w' || (("jumps" : Str) == w' || (("apart" : Str) == w' || (("most" : Str) == w' || false))))))) = true := hw
        simp only [Bool.or_eq_true, beq_iff_eq, Bool.false_eq_true, or_false] at hw
        have fin : ∀ f : Str, formOf w' ws.length = .str f → ∃ js : List Int, pp = .flat (js.map V.int) ∧ js.length = f.length ∧ f.length = ws.length ∧ List.zipWith (fun k x => partOf k x) (signs f) ws = js.map some := fun f hf => by
          rw [hf] at hp
          simp only at hp
          split at hp
          · cases hp
          · rename_i hlen
            have hlen : f.length = ws.length := by simpa using hlen
            split at hp
            · cases hp
            · rename_i hno
              have ez : List.zipWith (fun k x => oI (partOf k x)) (signs f) ws = (List.zipWith (fun k x => partOf k x) (signs f) ws).map oI := by rw [List.map_zipWith]
              rw [ez] at hp hno
              obtain ⟨js, e1, e2, e3⟩ := none_nin (Bool.eq_false_iff.2 hno)
              cases hp
              have ls : (signs f).length = f.length := by unfold signs; rw [List.length_map, Array.length_toList]; rfl
              refine ⟨js, by rw [e1], ?_, hlen, e3⟩
              rw [e2, List.length_zipWith, ls, hlen, Nat.min_self]
        have nj : ∀ n, w' ≠ "jumps" → formOf w' n = getK forms w' := fun n h => by unfold formOf; rw [if_neg (fun z => h z.1)]
        rcases hw with h | h | h | h | h | h | h
        · exact absurd h h3.1
        · exact absurd h h3.2.1
        · subst h
          have e := nj ws.length (nn _ _ (by decide +kernel))
          rw [show getK forms "take" = .str "i" by decide +kernel] at e
          obtain ⟨js, e1, e2, e3, e4⟩ := fin _ e
          have hf1 : (Str.ofString "i").length = 1 := by decide +kernel
          rw [hf1] at e2 e3
          obtain ⟨j, rfl⟩ : ∃ j, js = [j] := by
            match js, e2 with
            | [j], _ => exact ⟨j, rfl⟩
          obtain ⟨x, rfl⟩ : ∃ x, ws = [x] := by
            match ws, e3 with
            | [x], _ => exact ⟨x, rfl⟩
          refine e1 ▸ .inl ⟨rfl, j, ?_, rfl⟩
          have hsg : signs "i" = [Str.ofString "i"] := by decide +kernel
          rw [hsg] at e4
          have : partOf "i" x = some j := by simpa using e4
          unfold partOf at this
          rw [if_pos rfl] at this
          exact index_nn this
        · exact absurd h h3.2.2
        · subst h
          by_cases hn : 1 ≤ ws.length ∧ ws.length ≤ 4
          · obtain ⟨js, e1, e2, e3, e4⟩ := fin ⟨(List.replicate ws.length 110).toArray⟩ (by unfold formOf; rw [if_pos ⟨rfl, hn⟩])
            exact e1 ▸ .inr (.inr (.inl ⟨rfl, js, by omega, by omega, rfl⟩))
          · have e : formOf "jumps" ws.length = .non := by
              unfold formOf
              rw [if_neg (fun z => hn z.2)]
              decide +kernel
            rw [e] at hp
            cases hp
        · subst h
          have e := nj ws.length (nn _ _ (by decide +kernel))
          rw [show getK forms "apart" = .str "n" by decide +kernel] at e
          obtain ⟨js, e1, e2, e3, e4⟩ := fin _ e
          have hf1 : (Str.ofString "n").length = 1 := by decide +kernel
          rw [hf1] at e2
          match js, e2 with
          | [j], _ => exact e1 ▸ .inr (.inr (.inr ⟨.inl rfl, j, rfl⟩))
        · subst h
          have e := nj ws.length (nn _ _ (by decide +kernel))
          rw [show getK forms "most" = .str "n" by decide +kernel] at e
          obtain ⟨js, e1, e2, e3, e4⟩ := fin _ e
          have hf1 : (Str.ofString "n").length = 1 := by decide +kernel
          rw [hf1] at e2
          match js, e2 with
          | [j], _ => exact e1 ▸ .inr (.inr (.inr ⟨.inr rfl, j, rfl⟩))
  · cases h
end L2.K9
set_option maxHeartbeats 4000000
namespace L2.K9
open PySem PySem.Spec PyProof.Rows He
local macro_rules | `(tactic| walk_at "lf") => `(tactic| ((repeat' split) <;> first | contradiction | rfl | (simp_all; done)))
local macro_rules | `(tactic| walk_at "k9") => `(tactic| simp only [tRet, tRetN, tSeq, tNext, tAsg, gName, tDrop, tIfS, tIf, tVar, tC, tCB, tCons, tNil, tOp, tUn, tTest, tB, tAnd, tOr, tNot, tAndV, tOrV, tNotV, tChain, tCall, tMeth, tMake, tM1, tM0, tBM, tBM0, tSl, tPart, tNoPart, rI0, rI, rU, rEq, rNe, start, List.map_cons, List.map_nil, List.length_cons, List.length_nil, Nat.reduceAdd, Nat.reduceSub, List.replicate_succ, List.replicate_zero, List.cons_append, List.nil_append, List.append_nil, List.getElem?_cons_zero, List.getElem?_cons_succ, List.set_cons_zero, List.set_cons_succ, Option.some.injEq, V.int.injEq, V.bl.injEq, V.str.injEq, V.ref.injEq, exists_eq_left', exists_eq_left, and_true, true_and, exists_and_left, List.cons.injEq, len_s, cxK, cxP, cxW, exists_eq_right, exists_eq', scal_ss, scal_ii, scal_bb, scal_ns, eq_self, ite_nd, rSlS, rIxS, rIxL, rIxT, rSlL, tLc_str, tLc_list, tPar, gTup, tTup, tLst, tDGet1, wipe, List.foldl_cons, List.foldl_nil, sg_inj, and_assoc, exists_eq, decide_eq_true_eq, if_true, if_false, Bool.false_eq_true, Bool.not_true, Bool.not_false, rNeE, rEqE, iEnumk, iZips, gStar, tWGet, rNewStrs, tDIn, sDPut, tDisp, tPairs, sFld, tFld, rAppend, rPop, tFor_list, tFor_enumk, tFor_tup, tFor_or, tProp, gSub, rSetL, rCat])
theorem runM_app : ∀ (l1 l2 : List Str) (s : Stt), runM s (l1 ++ l2) = (runM s l1).bind fun q => runM q l2
  | [], _, _ => rfl
  | a :: r, l2, s => by
    show (stepM s a).bind (fun q => runM q (r ++ l2)) = ((stepM s a).bind fun q => runM q r).bind fun q => runM q l2
    cases stepM s a with
    | none => rfl
    | some q => exact runM_app r l2 q
theorem cmd_word {l w : Str} {p : Pts} (h : cmdM l = some (w, p)) (hc : Chg l) : inV (.str w) chgW = true := by
  obtain ⟨w', ws, hs, hw⟩ := hc
  unfold cmdM at h
  rw [hs] at h
  simp only at h
  split at h
  · cases hp : partsOf w' ws with
    | none => rw [hp] at h; cases h
    | some pp =>
      rw [hp] at h
      have h : (w', pp) = (w, p) := Option.some.inj h
      obtain ⟨rfl, rfl⟩ := Prod.mk.inj h
      exact hw
  · cases h
theorem StAt.j {K : PySem.W.Frag} {H H' : Hp} {a : Addr} {t : Stt} (h : StAt K H a t) (s : ∀ b o, (∀ xs, o ≠ .lst xs) → H b = some o → H' b = some o) : StAt K H' a t := by
  obtain ⟨dx, kr, pr, h1, ⟨d1, j1, h2, h3⟩, ⟨d2, f2, h4, h5⟩⟩ := h
  exact ⟨dx, kr, pr, s _ _ (fun _ z => nomatch z) h1, ⟨d1, j1, s _ _ (fun _ z => nomatch z) h2, s _ _ (fun _ z => nomatch z) h3⟩, ⟨d2, f2, s _ _ (fun _ z => nomatch z) h4, h5⟩⟩
theorem upd_lst {H : Hp} {p : Addr} {xs ys : List V} (h : H p = some (.lst xs)) (b : Addr) (o : HO) (ho : ∀ xs, o ≠ .lst xs) (e : H b = some o) : (upd H p (.lst ys)) b = some o := by
  rw [upd_ne (fun z => by rw [z, h] at e; cases e; exact ho _ rfl)]; exact e
section
variable {P : Program} {w : World} {K : PySem.W.Frag} {mg : Str → Option Value} {base : Heap}
def sp_Session_performed (K : PySem.W.Frag) : Sp := fun vs H Q E => ∃ (a m u b : Addr) (s0 : Stt) (md un : List Ent) (cs : List Str), vs = [.ref a, .ref b] ∧ SeAt K H a m u s0 md un ∧ H b = some (.lst (cs.map V.str)) ∧ b ∉ [a, m, u] ∧
  (∀ l ∈ cs, Chg l ∧ l.length ≤ 40000) ∧ cs.length ≤ 1000 ∧ md.length ≤ 1000 ∧ (∀ i s, runM (cur s0 md) (cs.take i) = some s → KOk s.k ∧ s.t.length ≤ 50000) ∧
  (runM (cur s0 md) cs = none → EOk K H E) ∧ ∀ s', runM (cur s0 md) cs = some s' → ∀ (r u' : Addr) (rs : List Addr) H', ChgL [a, m, u] H H' → SeAt K H' a m u' s0 (if cs = [] then md else md ++ [(s', cs)]) (if cs = [] then un else []) → (u' = u ∨ H u' = none) →
    H r = none → H' r = some (.lst (rs.map V.ref)) → rs.length = cs.length → (∀ x ∈ rs, H' x = some (.lst [])) → Q (.ref r) H'
theorem len_Session_performed {vs : List V} {H : Hp} {Q : VK} {E : XK} (h : (sp_Session_performed K) vs H Q E) : vs.length = 2 := by
  obtain ⟨_, _, _, _, _, _, _, _, rfl, _⟩ := h; rfl
theorem sc_Session_performed : FnScope ["self", "commands", "state", "line", "lines", "answers", "word", "parts"] ["self", "commands"] (defScope s_Session_performed) := ⟨rfl, rfl, rfl, by decide +kernel, rfl, by decide +kernel, by decide +kernel⟩
theorem ok_Session_performed (g : GT w K mg) : DefOk P w K mg base 11 (ma K (ga K "Session") "performed") ["self", "commands"] (sp_Session_performed K) := by
  obtain ⟨fd_Session_state, F_Session_state, B_Session_state, K_Session_state⟩ := ok_Session_state (P := P) (w := w) (base := base) g
  obtain ⟨fd_command_of, F_command_of, B_command_of, K_command_of⟩ := ok_command_of (P := P) (w := w) (base := base) g
  obtain ⟨fd_state_behind, F_state_behind, B_state_behind, K_state_behind⟩ := ok_state_behind (P := P) (w := w) (base := base) g
  obtain ⟨fd, F⟩ := g.d_Session_performed
  refine ⟨fd, ?_, F.bindsN fun _ _ _ _ _ _ us hl => match us, hl with | [_, _], _ => rfl, F.kp⟩
  refine F.ok sc_Session_performed (fun vs H Q E h => ?_) (fun cdv A outer s H vs Q E hr h => ?_)
  · exact len_Session_performed h
  · obtain ⟨a, m, u, b, s0, md, un, cs, rfl, hs, hb, hbn, hcs, hcl, hml, hko, qe, q⟩ := h
    refine ⟨_, (pss_cons (ps_set (i := 2) sc_Session_performed.nd rfl (Or.inl rfl) (pe_meth0 (pv 0) g.k_Session g.e_Session_state F_Session_state (hr.mono (by decide)) B_Session_state .nil pq))
      (pss_cons (ps_par (i := 4) (j := 5) (by rfl) sc_Session_performed.nd rfl rfl (by decide) rfl rfl (pa_cons (pe_lst pa_nil) (pa_cons (pe_lst pa_nil) pa_nil)) (by rfl))
      (pss_cons (ps_for po_def rfl (pi_list (pv 1)) (pg_name (i := 3) sc_Session_performed.nd rfl (Or.inl rfl)) (pss_cons (ps_asg (pe_call F_command_of (hr.mono (by decide)) rfl g.g_command_of K_command_of B_command_of .nil pq (pa_cons (pv 3) pa_nil)) (pg_tup (n := 2) rfl (pgs_cons (pg_name (i := 6) sc_Session_performed.nd rfl (Or.inl rfl)) (pgs_cons (pg_name (i := 7) sc_Session_performed.nd rfl (Or.inl rfl)) pgs_nil))))
      (pss_one (ps_if (pt_cmpR op_in_seq (pv 6) (pe_glob (v := .ref (ga K "CHANGES")) rfl g.g_CHANGES rfl) (by rfl)) (pss_cons (ps_set (i := 2) sc_Session_performed.nd rfl (Or.inl rfl) (pe_call F_state_behind (hr.mono (by decide)) rfl g.g_state_behind K_state_behind B_state_behind .nil pq (pa_cons (pv 2) (pa_cons (pv 6) (pa_cons (pv 7) pa_nil)))))
      (pss_cons (ps_expr (pe_bm PySem.F.plainAttrs_list PySem.F.slot_list_append PySem.F.type_list_append mt_append (pv 4) (pa_cons (pv 3) pa_nil)))
      (pss_one (ps_expr (pe_bm PySem.F.plainAttrs_list PySem.F.slot_list_append PySem.F.type_list_append mt_append (pv 5) (pa_cons (pe_lst pa_nil) pa_nil)))))) pss_never))))
      (pss_cons (ps_if (pt_cmpR (op_neE hr.units0) (pv 4) (pe_lst pa_nil) (nomark _)) (pss_cons (ps_expr (pe_bm PySem.F.plainAttrs_list PySem.F.slot_list_append PySem.F.type_list_append mt_append (pe_fld (pv 0) rfl) (pa_cons (pe_tup (pa_cons (pv 2) (pa_cons (pv 4) pa_nil))) pa_nil)))
      (pss_one (ps_fld (pv 0) (pe_lst pa_nil) rfl))) pss_nil)
      (pss_one (ps_ret (pv 5))))))), ?_⟩
    obtain ⟨⟨dx, o, h1, h2⟩, ⟨ts, h3, h4⟩, ⟨us, h5, h6⟩, hne⟩ := id hs
    walk_at "k9"
    refine ⟨dx, _, h1, len3 _ (by decide +kernel) (by decide +kernel) (by decide +kernel), a, m, u, s0, md, un, rfl, hs, fun st0 hst0 => ?_⟩
    refine ⟨Nat.zero_le _, fun p hp => ⟨Nat.zero_le _, fun p1 hp1 => ?_⟩⟩
    have s1 := Same.upd (o := .lst []) (sm1 (o := .lst []) hp) hp1
    have npp : p1 ≠ p := fun z => by rw [z, upd_same] at hp1; cases hp1
    have hp1H : H p1 = none := by rw [upd_ne npp] at hp1; exact hp1
    have eb := s1 _ _ hb
    have hHs : (upd (upd H p (HO.lst [])) p1 (HO.lst [])) p = some (.lst []) := by rw [upd_ne (Ne.symm npp), upd_same]
    have hHs1 : (upd (upd H p (HO.lst [])) p1 (HO.lst [])) p1 = some (.lst []) := upd_same
    generalize upd (upd H p (HO.lst [])) p1 (HO.lst []) = Hs at *
    have nbp : b ∉ [p, p1] := by
      simp only [List.mem_cons, List.not_mem_nil, or_false, not_or]
      exact ⟨ne_of_none hb hp, ne_of_none hb hp1H⟩
    have far : ∀ Hc, ChgL [p, p1] Hs Hc → Same H Hc := fun Hc c b o e => c b o (by
      simp only [List.mem_cons, List.not_mem_nil, or_false, not_or]
      exact ⟨ne_of_none e hp, ne_of_none e hp1H⟩) (s1 _ _ e)
    refine ⟨⟨_, .of eb⟩, ?_⟩
    have wk : Walk (Itl K b) (cs.map V.str).length (fun Hc => SqL K Hc b (cs.map V.str)) (YAt (cs.map V.str)) := walk_list
    rw [List.length_map] at wk
    refine fj wk (fun i σ Hc => ∃ sa a3 a6 a7 s rs, σ = [some (V.ref a), some (V.ref b), some (V.ref sa), a3, some (V.ref p), some (V.ref p1), a6, a7] ∧ Hc p = some (.lst ((cs.take i).map V.str)) ∧ Hc p1 = some (.lst (rs.map V.ref)) ∧ rs.length = i ∧
        (∀ x ∈ rs, Hc x = some (.lst []) ∧ x ≠ p ∧ x ≠ p1 ∧ H x = none) ∧ ChgL [p, p1] Hs Hc ∧ runM (cur s0 md) (cs.take i) = some s ∧ StAt K Hc sa s)
        ⟨st0, none, none, none, cur s0 md, [], rfl, hHs, hHs1, rfl, fun _ h => (by cases h), fun _ _ _ e => e, rfl, hst0.same s1⟩ (fun i σ Hc hi ⟨_, _, _, _, _, _, _, _, _, _, _, c, _⟩ => .of (c _ _ nbp eb)) (fun i v σ Hc H' hi ⟨sa, a3, a6, a7, s, rs, eσ, ep, ep1, hrl, hrs, c, er, hsa⟩ ⟨eH, ev⟩ => ?_) (fun σ Hc ⟨sa, a3, a6, a7, s, rs, eσ, ep, ep1, hrl, hrs, c, er, hsa⟩ => ?_)
    · subst eH eσ
      have ev : v = V.str cs[i] := by
        rw [List.getElem?_map, List.getElem?_eq_getElem hi] at ev
        exact (Option.some.inj ev).symm
      subst ev
      walk_at "k9"
      have edr : cs.drop i = cs[i] :: cs.drop (i + 1) := List.drop_eq_getElem_cons hi
      have ecs : cs = cs.take i ++ (cs[i] :: cs.drop (i + 1)) := by rw [← edr, List.take_append_drop]
      have et : cs.take (i + 1) = cs.take i ++ [cs[i]] := List.take_succ_eq_append_getElem hi
      have hall : runM (cur s0 md) cs = (stepM s cs[i]).bind fun q => runM q (cs.drop (i + 1)) := by
        conv => lhs; rw [ecs, runM_app, er]
        rfl
      obtain ⟨hc, hcl2⟩ := hcs cs[i] (List.getElem_mem hi)
      have sH := far _ c
      refine ⟨cs[i], rfl, by omega, fun hn cls d H2 he s2 => qe (by rw [hall]; unfold stepM; rw [hn]; rfl) cls d H2 he (sH.trans s2), fun x pp hx t v H2 s2 ht hv => ?_⟩
      refine ⟨t, rfl, _, .of ht, rfl, _, _, rfl, _, _, rfl, rfl, ?_⟩
      walk_at "k9"
      have hw := cmd_word hx hc
      refine in_l (g.l_CHANGES H2) rfl (by rfl) ⟨_, rfl, ?_⟩
      rw [if_pos (show inV (V.str x) [V.str (Str.ofString "program"), V.str (Str.ofString "put"), V.str (Str.ofString "take"), V.str (Str.ofString "replace"), V.str (Str.ofString "jumps"), V.str (Str.ofString "apart"), V.str (Str.ofString "most")] = true from hw)]
      obtain ⟨hk1, hk2⟩ := hko i s er
      refine ⟨sa, s, x, v, pp, rfl, hsa.same s2, hv, shape hx hc hcl2, hk1, hk2, fun hn cls d H3 he s3 => qe (by rw [hall]; unfold stepM; rw [hx]; show (behM s x pp).bind _ = none; rw [hn]; rfl) cls d H3 he ((sH.trans s2).trans s3), fun s' hb' r H3 s3 hr => ?_⟩
      have s23 := s2.trans s3
      have ep' := s23 _ _ ep
      have ep1' := s23 _ _ ep1
      refine ⟨.inl ⟨rfl, _, .of ep'⟩, _, ep', by rw [sizeLine_eq, List.length_map, List.length_take]; omega, ?_⟩
      refine ⟨.inl ⟨rfl, _, .of ((upd_ne npp).trans ep1')⟩, Nat.zero_le _, fun e he => ?_⟩
      have nep : e ≠ p := fun z => by rw [z, upd_same] at he; cases he
      have he3 : H3 e = none := by rw [upd_ne nep] at he; exact he
      have nep1 : e ≠ p1 := Ne.symm (ne_of_none ep1' he3)
      have e1 : (upd (upd H3 p (HO.lst ((cs.take i).map V.str ++ [V.str cs[i]]))) e (HO.lst [])) p1 = some (.lst (rs.map V.ref)) := by rw [upd_ne (Ne.symm nep1), upd_ne npp]; exact ep1'
      have ege : (rs ++ [e]).map V.ref = rs.map V.ref ++ [V.ref e] := by rw [List.map_append]; rfl
      refine ⟨_, e1, by rw [sizeLine_eq, List.length_map]; omega, r, rfl, ?_, s', rs ++ [e], ?_, by rw [List.length_append, hrl]; rfl, ?_, ?_, ?_, ?_⟩
      · rw [upd_ne (Ne.symm npp), upd_ne (Ne.symm nep), upd_same, et, List.map_append]; rfl
      · rw [upd_same, ege]
      · intro y hy
        rcases List.mem_append.mp hy with hy | hy
        · obtain ⟨y1, y2, y3, y4⟩ := hrs y hy
          exact ⟨by rw [upd_ne y3, upd_ne (fun z => by rw [z] at y1; have := s23 _ _ y1; rw [he3] at this; cases this), upd_ne y2]; exact s23 _ _ y1, y2, y3, y4⟩
        · have : y = e := by simpa using hy
          subst this
          exact ⟨by rw [upd_ne nep1, upd_same], nep, nep1, (sH.trans s23).free he3⟩
      · refine c.trans ((Same.chg s23).trans ?_)
        refine ChgL.trans (.upd (by simp)) (ChgL.trans (Same.chg (sm1 he)) (.upd (by simp)))
      · rw [et, runM_app, er]
        show (stepM s cs[i]).bind _ = _
        unfold stepM
        rw [hx]
        show (behM s x pp).bind _ = _
        rw [hb']
        rfl
      · exact ((hr.j (upd_lst ep')).same (sm1 he)).j (upd_lst e1)
    · subst eσ
      walk_at "k9"
      rw [List.take_of_length_le (Nat.le_refl _)] at ep er
      have sH := far _ c
      refine ⟨Nat.zero_le _, fun e he => ⟨_, (sm1 he).seq (.of ep), newL, ?_⟩⟩
      have s2 := Same.upd (o := .lst []) sH he
      have epe := sm1 (o := .lst []) he _ _ ep
      have ep1e := sm1 (o := .lst []) he _ _ ep1
      have nem : ∀ b xs, H b = some xs → b ≠ p ∧ b ≠ p1 := fun b xs e => ⟨ne_of_none e hp, ne_of_none e hp1H⟩
      have hrse : ∀ x ∈ rs, (upd Hc e (.lst [])) x = some (.lst []) := fun x hx => sm1 he _ _ (hrs x hx).1
      have hsae := hsa.same (sm1 (o := .lst []) he)
      by_cases hc0 : cs = []
      · rw [if_pos (by rw [hc0]; rfl)]
        refine q s er p1 u rs _ (Same.chg s2) ?_ (.inl rfl) hp1H ep1e hrl hrse
        rw [if_pos hc0, if_pos hc0]
        exact hs.same g s2
      · rw [if_neg (by simpa using hc0)]
        generalize hH2 : upd Hc e (HO.lst []) = H2 at *
        have a2 := s2 _ _ h1
        have m2 := s2 _ _ h3
        have u2 := s2 _ _ h5
        have hnm : m ≠ a := fun z => by rw [z, h1] at h3; cases h3
        have hnu : u ≠ a := fun z => by rw [z, h1] at h5; cases h5
        refine ⟨_, _, _, a2, g.k_Session, g.n_Session_made, _, lem, .inl ⟨rfl, _, .of m2⟩, by decide, fun t ht => ⟨m, rfl, _, (sm1 ht) _ _ m2, ?_, Nat.zero_le _, fun u' hu' => ?_⟩⟩
        · rw [List.length_map, h4.len, sizeLine_eq]; omega
        have etm : ts.map V.ref ++ [V.ref t] = (ts ++ [t]).map V.ref := by rw [List.map_append]; rfl
        rw [etm] at hu' ⊢
        have nta : a ≠ t := ne_of_none a2 ht
        have ntm : m ≠ t := ne_of_none m2 ht
        have num : u' ≠ m := fun z => by rw [z, upd_same] at hu'; cases hu'
        have nut : u' ≠ t := fun z => by rw [z, upd_ne (Ne.symm ntm), upd_same] at hu'; cases hu'
        have hu2 : H2 u' = none := by rw [upd_ne num, upd_ne nut] at hu'; exact hu'
        have nua : u' ≠ a := Ne.symm (ne_of_none a2 hu2)
        have eA : (upd (upd (upd H2 t (HO.tup [V.ref sa, V.ref p])) m (HO.lst ((ts ++ [t]).map V.ref))) u' (HO.lst [])) a = some (.ins (ga K "Session") dx (ef (.ref o) (.ref m) (.ref u))) := by
          rw [upd_ne (Ne.symm nua), upd_ne (Ne.symm hnm), upd_ne nta]; exact a2
        refine ⟨_, _, _, eA, g.k_Session, g.n_Session_undone, (by show (ef _ _ _).length < 1000; simp [ef]), ?_⟩
        rw [put_un]
        generalize hH5 : upd (upd (upd (upd H2 t (HO.tup [V.ref sa, V.ref p])) m (HO.lst ((ts ++ [t]).map V.ref))) u' (HO.lst [])) a (.ins (ga K "Session") dx (ef (.ref o) (.ref m) (.ref u'))) = H5
        have c5 : ChgL [a, m] H2 H5 := hH5 ▸ ((Same.chg (sm1 ht)).trans (ChgL.trans (.upd (by simp)) (ChgL.trans (Same.chg (sm1 hu')) (.upd (by simp)))))
        have cH : ChgL [a, m, u] H H5 := (Same.chg s2).trans fun b o hb e => c5 b o (fun z => hb (by simp only [List.mem_cons, List.not_mem_nil, or_false] at z ⊢; exact z.elim .inl fun z => .inr (.inl z))) e
        have iH := hs.imm cH
        have i5 : SameI K H2 H5 := fun b o i e => by
          refine c5 b o ?_ e
          simp only [List.mem_cons, List.not_mem_nil, or_false, not_or]
          refine ⟨fun z => ?_, fun z => ?_⟩
          · rw [z, a2] at e; cases e; exact i rfl
          · rw [z, m2] at e; cases e; cases ts <;> exact i
        have npm : p ≠ m := fun z => (nem _ _ h3).1 z.symm
        have npa : p ≠ a := fun z => (nem _ _ h1).1 z.symm
        have np1m : p1 ≠ m := fun z => (nem _ _ h3).2 z.symm
        have np1a : p1 ≠ a := fun z => (nem _ _ h1).2 z.symm
        have nps : p ∉ [a, m] := by simp only [List.mem_cons, List.not_mem_nil, or_false, not_or]; exact ⟨npa, npm⟩
        have np1s : p1 ∉ [a, m] := by simp only [List.mem_cons, List.not_mem_nil, or_false, not_or]; exact ⟨np1a, np1m⟩
        refine q s er p1 u' rs H5 cH ?_ (.inr (s2.free hu2)) hp1H (c5 _ _ np1s ep1e) hrl fun x hx => c5 _ _ ?_ (hrse x hx)
        · rw [if_neg hc0, if_neg hc0]
          refine ⟨⟨dx, o, by rw [← hH5, upd_same], h2.i g iH⟩, ⟨ts ++ [t], ?_, Ents.app (h4.i g iH) ⟨⟨sa, p, ?_, hsae.i g i5, c5 _ _ nps epe, hc0⟩, trivial⟩⟩, ⟨[], ?_, trivial⟩, Ne.symm num⟩
          · rw [← hH5, upd_ne hnm, upd_ne (Ne.symm num), upd_same]
          · rw [← hH5, upd_ne (Ne.symm nta), upd_ne (Ne.symm nut), upd_ne (Ne.symm ntm), upd_same]
          · rw [← hH5, upd_ne nua, upd_same]; rfl
        · have e0 := hrse x hx
          simp only [List.mem_cons, List.not_mem_nil, or_false, not_or]
          refine ⟨fun z => ?_, fun z => ?_⟩
          · rw [z, a2] at e0; cases e0
          · have := (hrs x hx).2.2.2
            rw [z, h3] at this; cases this
end
end L2.K9
set_option maxHeartbeats 4000000
namespace L2.K9
open PySem PySem.Spec PyProof.Rows He
local macro_rules | `(tactic| walk_at "lf") => `(tactic| ((repeat' split) <;> first | contradiction | rfl | (simp_all; done)))
local macro_rules | `(tactic| walk_at "k9") => `(tactic| simp only [tRet, tRetN, tSeq, tNext, tAsg, gName, tDrop, tIfS, tIf, tVar, tC, tCB, tCons, tNil, tOp, tUn, tTest, tB, tAnd, tOr, tNot, tAndV, tOrV, tNotV, tChain, tCall, tMeth, tMake, tM1, tM0, tBM, tBM0, tSl, tPart, tNoPart, rI0, rI, rU, rEq, rNe, start, List.map_cons, List.map_nil, List.length_cons, List.length_nil, Nat.reduceAdd, Nat.reduceSub, List.replicate_succ, List.replicate_zero, List.cons_append, List.nil_append, List.append_nil, List.getElem?_cons_zero, List.getElem?_cons_succ, List.set_cons_zero, List.set_cons_succ, Option.some.injEq, V.int.injEq, V.bl.injEq, V.str.injEq, V.ref.injEq, exists_eq_left', exists_eq_left, and_true, true_and, exists_and_left, List.cons.injEq, len_s, cxK, cxP, cxW, exists_eq_right, exists_eq', scal_ss, scal_ii, scal_bb, scal_ns, eq_self, ite_nd, rSlS, rIxS, rIxL, rIxT, rSlL, tLc_str, tLc_list, tPar, gTup, tTup, tLst, tDGet1, wipe, List.foldl_cons, List.foldl_nil, sg_inj, and_assoc, exists_eq, decide_eq_true_eq, if_true, if_false, Bool.false_eq_true, Bool.not_true, Bool.not_false, rNeE, rEqE, iEnumk, iZips, gStar, tWGet, rNewStrs, tDIn, sDPut, tDisp, tPairs, sFld, tFld, rAppend, rPop, tFor_list, tFor_enumk, tFor_tup, tFor_or, tProp, gSub, rSetL, rCat])
/-- what a row does to a session -/
def sayM (s0 : Stt) (md un : List Ent) (l : Str) : Option (List Ent × List Ent) :=
  if l = "undo" then md.getLast?.map fun e => (md.dropLast, un ++ [e])
  else if l = "redo" then un.getLast?.map fun e => (md ++ [e], un.dropLast)
  else (stepM (cur s0 md) l).map fun s => (md ++ [(s, [l])], [])
theorem cmd_undo : cmdM "undo" = some (("undo" : Str), Pts.flat []) := by decide +kernel
theorem cmd_redo : cmdM "redo" = some (("redo" : Str), Pts.flat []) := by decide +kernel
theorem chg_stops {w : Str} (h : inV (.str w) chgW = true) : inV (.str w) [.str "undo", .str "redo"] = false := by
  have hw : (("program" : Str) == w || (("put" : Str) == w || (("take" : Str) == w || (("replace" : Str) == w || (("jumps" : Str) == w || (("apart" : Str) == w || (("most" : Str) == w || false))))))) = true := h
  simp only [Bool.or_eq_true, beq_iff_eq, Bool.false_eq_true, or_false] at hw
  rcases hw with h | h | h | h | h | h | h <;> subst h <;> decide +kernel
theorem chg_ne {l : Str} (h : Chg l) : l ≠ "undo" ∧ l ≠ "redo" := by
  obtain ⟨w, ws, hs, hw⟩ := h
  constructor
  · intro e
    subst e
    have : Txt.split "undo" " " = [("undo" : Str)] := by decide +kernel
    rw [this] at hs
    cases hs
    exact absurd hw (by decide +kernel)
  · intro e
    subst e
    have : Txt.split "redo" " " = [("redo" : Str)] := by decide +kernel
    rw [this] at hs
    cases hs
    exact absurd hw (by decide +kernel)
theorem chg_nin {l : Str} (h : Chg l) : inV (.str l) [.str "undo", .str "redo"] = false := by
  obtain ⟨h1, h2⟩ := chg_ne h
  show (("undo" : Str) == l || (("redo" : Str) == l || false)) = false
  simp only [Bool.or_eq_false_iff, beq_eq_false_iff_ne, ne_eq, and_true]
  exact ⟨fun e => h1 e.symm, fun e => h2 e.symm⟩
section
variable {P : Program} {w : World} {K : PySem.W.Frag} {mg : Str → Option Value} {base : Heap}
def sp_Session_say (K : PySem.W.Frag) : Sp := fun vs H Q E => ∃ (a m u : Addr) (s0 : Stt) (md un : List Ent) (l : Str), vs = [.ref a, .str l] ∧ SeAt K H a m u s0 md un ∧ md.length ≤ 1000 ∧ un.length ≤ 1000 ∧
  (Chg l ∧ l.length ≤ 40000 ∧ KOk (cur s0 md).k ∧ (cur s0 md).t.length ≤ 50000 ∧ (∀ s, stepM (cur s0 md) l = some s → KOk s.k ∧ s.t.length ≤ 50000) ∨ l = "undo" ∨ l = "redo") ∧ (sayM s0 md un l = none → EOk K H E) ∧
  ∀ md' un', sayM s0 md un l = some (md', un') → ∀ r u' H', ChgL [a, m, u] H H' → SeAt K H' a m u' s0 md' un' → (u' = u ∨ H u' = none) → H' r = some (.lst []) → Q (.ref r) H'
theorem len_Session_say {vs : List V} {H : Hp} {Q : VK} {E : XK} (h : (sp_Session_say K) vs H Q E) : vs.length = 2 := by
  obtain ⟨_, _, _, _, _, _, _, rfl, _⟩ := h; rfl
theorem sc_Session_say : FnScope ["self", "line", "word", "parts"] ["self", "line"] (defScope s_Session_say) := ⟨rfl, rfl, rfl, by decide +kernel, rfl, by decide +kernel, by decide +kernel⟩
theorem ok_Session_say (g : GT w K mg) : DefOk P w K mg base 12 (ma K (ga K "Session") "say") ["self", "line"] (sp_Session_say K) := by
  obtain ⟨fd_command_of, F_command_of, B_command_of, K_command_of⟩ := ok_command_of (P := P) (w := w) (base := base) g
  obtain ⟨fd_Session_step, F_Session_step, B_Session_step, K_Session_step⟩ := ok_Session_step (P := P) (w := w) (base := base) g
  obtain ⟨fd_Session_performed, F_Session_performed, B_Session_performed, K_Session_performed⟩ := ok_Session_performed (P := P) (w := w) (base := base) g
  obtain ⟨fd, F⟩ := g.d_Session_say
  refine ⟨fd, ?_, F.bindsN fun _ _ _ _ _ _ us hl => match us, hl with | [_, _], _ => rfl, F.kp⟩
  refine F.ok sc_Session_say (fun vs H Q E h => ?_) (fun cdv A outer s H vs Q E hr h => ?_)
  · exact len_Session_say h
  · obtain ⟨a, m, u, s0, md, un, l, rfl, hs, hml, hul, hl, qe, q⟩ := h
    refine ⟨_, (pss_cons (ps_asg (pe_call F_command_of (hr.mono (by decide)) rfl g.g_command_of K_command_of B_command_of .nil pq (pa_cons (pv 1) pa_nil)) (pg_tup (n := 2) rfl (pgs_cons (pg_name (i := 2) sc_Session_say.nd rfl (Or.inl rfl)) (pgs_cons (pg_name (i := 3) sc_Session_say.nd rfl (Or.inl rfl)) pgs_nil))))
      (pss_cons (ps_if (pt_cmpR op_in_seq (pv 2) (pe_glob (v := .ref (ga K "STOPS")) rfl g.g_STOPS rfl) (by rfl)) (pss_one (ps_ret (pe_meth (pv 0) g.k_Session g.e_Session_step F_Session_step (hr.mono (by decide)) B_Session_step .nil pq (pa_cons (pv 2) pa_nil)))) pss_nil)
      (pss_one (ps_ret (pe_ix ix_list (pe_meth (pv 0) g.k_Session g.e_Session_performed F_Session_performed (hr.mono (by decide)) B_Session_performed .nil pq (pa_cons (pe_lst (pa_cons (pv 1) pa_nil)) pa_nil)) pe_int (fun _ _ => rfl)))))), ?_⟩
    obtain ⟨⟨dx, o, h1, h2⟩, ⟨ts, h3, h4⟩, ⟨us, h5, h6⟩, hne⟩ := id hs
    walk_at "k9"
    have stp : ∀ (b : Bool) x p, cmdM l = some (x, p) → l = (if b then ("undo" : Str) else ("redo" : Str)) → x = (if b then ("undo" : Str) else ("redo" : Str)) ∧ inV (.str x) [.str "undo", .str "redo"] = true := fun b x p hx hb => by
      cases b with
      | true => rw [hb, if_pos rfl, cmd_undo] at hx; cases hx; exact ⟨rfl, by decide +kernel⟩
      | false => rw [hb, if_neg (by decide), cmd_redo] at hx; cases hx; exact ⟨rfl, by decide +kernel⟩
    have stq : ∀ (b : Bool), l = (if b then ("undo" : Str) else ("redo" : Str)) → cmdM l ≠ none := fun b hb e => by
      cases b with
      | true => rw [hb, if_pos rfl, cmd_undo] at e; cases e
      | false => rw [hb, if_neg (by decide), cmd_redo] at e; cases e
    refine ⟨l, rfl, ?_, fun hn => ?_, fun x pp hx t v H2 s2 ht hv => ⟨t, rfl, _, .of ht, rfl, _, _, rfl, _, _, rfl, rfl, ?_⟩⟩
    · rcases hl with ⟨_, h, _⟩ | h | h
      · omega
      · rw [h]; decide +kernel
      · rw [h]; decide +kernel
    · rcases hl with ⟨hc, _⟩ | h | h
      · refine qe ?_
        unfold sayM
        rw [if_neg (chg_ne hc).1, if_neg (chg_ne hc).2]
        unfold stepM
        rw [hn]
        rfl
      · exact absurd hn (stq true h)
      · exact absurd hn (stq false h)
    · walk_at "k9"
      have und : ∀ b : Bool, l = (if b then ("undo" : Str) else ("redo" : Str)) → sp_Session_step K [V.ref a, V.str x] H2 Q E := fun b hb => by
        obtain ⟨rfl, _⟩ := stp b x pp hx hb
        refine ⟨a, m, u, s0, md, un, b, rfl, hs.same g s2, hml, hul, fun he cls d H3 hc s3 => qe ?_ cls d H3 hc (s2.trans s3), fun md' un' hmu r H3 c3 hs3 hr => q md' un' ?_ r u H3 ((Same.chg s2).trans c3) hs3 (.inl rfl) hr⟩
        · unfold sayM
          cases b with
          | true => rw [show l = ("undo" : Str) from hb, if_pos rfl]; have he : md = [] := he; rw [he]; rfl
          | false => rw [show l = ("redo" : Str) from hb, if_neg (by decide +kernel), if_pos rfl]; have he : un = [] := he; rw [he]; rfl
        · unfold sayM
          rcases hmu with ⟨rfl, e, e1, e2⟩ | ⟨rfl, e, e1, e2⟩
          · rw [show l = ("undo" : Str) from hb, if_pos rfl, e1, List.getLast?_append, List.dropLast_concat, e2]; rfl
          · rw [show l = ("redo" : Str) from hb, if_neg (by decide +kernel), if_pos rfl, e1, List.getLast?_append, List.dropLast_concat, e2]; rfl
      refine in_l (g.l_STOPS H2) rfl (by rfl) ⟨_, rfl, ?_⟩
      rcases hl with ⟨hc, hl1, hk1, hk2, hk3⟩ | h | h
      · rw [if_neg (by rw [chg_stops (cmd_word hx hc)]; decide)]
        have h1' := s2 _ _ h1
        have hsay : sayM s0 md un l = (stepM (cur s0 md) l).map fun s => (md ++ [(s, [l])], []) := by
          unfold sayM
          rw [if_neg (chg_ne hc).1, if_neg (chg_ne hc).2]
        have hrun : runM (cur s0 md) [l] = stepM (cur s0 md) l := by
          show (stepM (cur s0 md) l).bind some = _
          cases stepM (cur s0 md) l <;> rfl
        refine ⟨dx, _, h1', len3 _ (by decide +kernel) (by decide +kernel) (by decide +kernel), by decide, fun b hb => ?_⟩
        have s3 := Same.upd (o := .lst [V.str l]) s2 hb
        refine ⟨a, m, u, b, s0, md, un, [l], rfl, hs.same g s3, upd_same, ?_, fun y hy => ?_, by simp, hml, fun i s hi => ?_, fun hn cls d H3 he s4 => qe (by rw [hsay, ← hrun, hn]; rfl) cls d H3 he (s3.trans s4), fun s' hs' r u' rs H3 c3 h3' hu hr hr3 hrl hrs => ?_⟩
        · simp only [List.mem_cons, List.not_mem_nil, or_false, not_or]
          exact ⟨Ne.symm (ne_of_none (s2 _ _ h1) hb), Ne.symm (ne_of_none (s2 _ _ h3) hb), Ne.symm (ne_of_none (s2 _ _ h5) hb)⟩
        · have : y = l := by simpa using hy
          subst this
          exact ⟨hc, hl1⟩
        · cases i with
          | zero => cases hi; exact ⟨hk1, hk2⟩
          | succ i =>
            rw [List.take_of_length_le (by simp), hrun] at hi
            exact hk3 s hi
        · obtain ⟨z, rfl⟩ : ∃ z, rs = [z] := by
            cases rs with
            | nil => cases hrl
            | cons z r => cases r with
              | nil => exact ⟨z, rfl⟩
              | cons _ _ => cases hrl
          refine ⟨r, rfl, _, .of hr3, _, at0, ?_⟩
          rw [if_neg (by simp), if_neg (by simp)] at h3'
          exact q _ _ (by rw [hsay, ← hrun, hs']; rfl) z u' H3 ((Same.chg s3).trans c3) h3' (hu.imp_right s3.free) (hrs z (by simp))
      · rw [if_pos (stp true x pp hx h).2]
        exact ⟨dx, _, s2 _ _ h1, len3 _ (by decide +kernel) (by decide +kernel) (by decide +kernel), und true h⟩
      · rw [if_pos (stp false x pp hx h).2]
        exact ⟨dx, _, s2 _ _ h1, len3 _ (by decide +kernel) (by decide +kernel) (by decide +kernel), und false h⟩
def sp_Session___len__ (K : PySem.W.Frag) : Sp := fun vs H Q _ => ∃ (a m u : Addr) (s0 : Stt) (md un : List Ent), vs = [.ref a] ∧ SeAt K H a m u s0 md un ∧ md.length ≤ 1000 ∧ (dn md).length ≤ 1000 ∧ ∀ H', Same H H' → Q (.int ((dn md).length : Int)) H'
theorem len_Session___len__ {vs : List V} {H : Hp} {Q : VK} {E : XK} (h : (sp_Session___len__ K) vs H Q E) : vs.length = 1 := by
  obtain ⟨_, _, _, _, _, _, rfl, _⟩ := h; rfl
theorem sc_Session_len : FnScope ["self"] ["self"] (defScope s_Session___len__) := ⟨rfl, rfl, rfl, by decide +kernel, rfl, by decide +kernel, by decide +kernel⟩
theorem ok_Session___len__ (g : GT w K mg) : DefOk P w K mg base 2 (ma K (ga K "Session") "__len__") ["self"] (sp_Session___len__ K) := by
  obtain ⟨fd_Session_done, F_Session_done, B_Session_done, K_Session_done⟩ := ok_Session_done (P := P) (w := w) (base := base) g
  obtain ⟨fd, F⟩ := g.d_Session___len__
  refine ⟨fd, ?_, F.bindsN fun _ _ _ _ _ _ us hl => match us, hl with | [_], _ => rfl, F.kp⟩
  refine F.ok sc_Session_len (fun vs H Q E h => ?_) (fun cdv A outer s H vs Q E hr h => ?_)
  · exact len_Session___len__ h
  · obtain ⟨a, m, u, s0, md, un, rfl, hs, hl1, hl2, q⟩ := h
    refine ⟨_, (pss_one (ps_ret (pe_callB call_len (by rfl) g.f_len (by decide +kernel) (pa_cons (pe_meth0 (pv 0) g.k_Session g.e_Session_done F_Session_done (hr.mono (by decide)) B_Session_done .nil pq) pa_nil)))), ?_⟩
    walk_at "k9"
    obtain ⟨dx, o, h1, h2⟩ := hs.ex
    refine ⟨dx, _, h1, len3 _ (by decide +kernel) (by decide +kernel) (by decide +kernel), a, m, u, s0, md, un, rfl, hs, hl1, hl2, fun r H' s hr hr' => ⟨_, .inl ⟨_, .of hr', rfl⟩, ?_⟩⟩
    rw [List.length_map]
    exact q H' s
def sp_Session_say_all (K : PySem.W.Frag) : Sp := fun vs H Q E => ∃ (a m u b : Addr) (s0 : Stt) (md un : List Ent) (cs : List Str), vs = [.ref a, .ref b] ∧ SeAt K H a m u s0 md un ∧ H b = some (.lst (cs.map V.str)) ∧
  (∀ l ∈ cs, Chg l ∧ l.length ≤ 40000) ∧ cs.length ≤ 1000 ∧ md.length ≤ 1000 ∧ (∀ i s, runM (cur s0 md) (cs.take i) = some s → KOk s.k ∧ s.t.length ≤ 50000) ∧
  (runM (cur s0 md) cs = none → EOk K H E) ∧ ∀ s', runM (cur s0 md) cs = some s' → ∀ (r u' : Addr) H', ChgL [a, m, u] H H' → SeAt K H' a m u' s0 (if cs = [] then md else md ++ [(s', cs)]) (if cs = [] then un else []) → (u' = u ∨ H u' = none) → Q (.ref r) H'
theorem len_Session_say_all {vs : List V} {H : Hp} {Q : VK} {E : XK} (h : (sp_Session_say_all K) vs H Q E) : vs.length = 2 := by
  obtain ⟨_, _, _, _, _, _, _, _, rfl, _⟩ := h; rfl
theorem sc_Session_say_all : FnScope ["self", "lines", "item"] ["self", "lines"] (defScope s_Session_say_all) := ⟨rfl, rfl, rfl, by decide +kernel, rfl, by decide +kernel, by decide +kernel⟩
theorem ok_Session_say_all (g : GT w K mg) : DefOk P w K mg base 12 (ma K (ga K "Session") "say_all") ["self", "lines"] (sp_Session_say_all K) := by
  obtain ⟨fd_is_list, F_is_list, B_is_list, K_is_list⟩ := ok_is_list (P := P) (w := w) (base := base) g
  obtain ⟨fd_Session_performed, F_Session_performed, B_Session_performed, K_Session_performed⟩ := ok_Session_performed (P := P) (w := w) (base := base) g
  obtain ⟨fd, F⟩ := g.d_Session_say_all
  refine ⟨fd, ?_, F.bindsN fun _ _ _ _ _ _ us hl => match us, hl with | [_, _], _ => rfl, F.kp⟩
  refine F.ok sc_Session_say_all (fun vs H Q E h => ?_) (fun cdv A outer s H vs Q E hr h => ?_)
  · exact len_Session_say_all h
  · obtain ⟨a, m, u, b, s0, md, un, cs, rfl, hs, hb, hcs, hcl, hml, hko, qe, q⟩ := h
    refine ⟨_, (pss_cons (ps_if (pt_not (pt_val (pe_call F_is_list (hr.mono (by decide)) rfl g.g_is_list K_is_list B_is_list .nil pq (pa_cons (pv 1) pa_nil)))) pss_never pss_nil)
      (pss_cons (ps_for po_def rfl (pi_list (pv 1)) (pg_name (i := 2) sc_Session_say_all.nd rfl (Or.inl rfl)) (pss_one (ps_if (PW.pt (pw_and (pt_val (pe_callB call_isi (by rfl) g.f_isinstance (by decide +kernel) (pa_cons (pv 2) (pa_cons (pe_bltn (v := .ty "str") (u := .type "str") (by rfl) g.f_str (by decide +kernel) rfl) pa_nil)))) (pw_and1 (pt_cmpR op_in_seq (pv 2) (pe_glob (v := .ref (ga K "STOPS")) rfl g.g_STOPS rfl) (by rfl))))) pss_never pss_nil)))
      (pss_one (ps_ret (pe_meth (pv 0) g.k_Session g.e_Session_performed F_Session_performed (hr.mono (by decide)) B_Session_performed .nil pq (pa_cons (pe_callTy call_list_of (by rfl) g.f_list (by decide +kernel) (pa_cons (pv 1) pa_nil)) pa_nil)))))), ?_⟩
    walk_at "k9"
    obtain ⟨⟨dx, o, h1, h2⟩, ⟨ts, h3, h4⟩, ⟨us, h5, h6⟩, hne⟩ := id hs
    refine ⟨b, cs.map V.str, rfl, .inl hb, fun H2 s2 => ⟨_, rfl, ?_⟩⟩
    rw [if_neg (by decide)]
    have eb := s2 _ _ hb
    refine ⟨⟨_, .of eb⟩, ?_⟩
    have wk : Walk (Itl K b) (cs.map V.str).length (fun Hc => SqL K Hc b (cs.map V.str)) (YAt (cs.map V.str)) := walk_list
    rw [List.length_map] at wk
    refine fj wk (fun i σ Hc => ∃ a2, σ = [some (V.ref a), some (V.ref b), a2] ∧ Hc = H2)
        ⟨none, rfl, rfl⟩ (fun i σ Hc hi ⟨_, _, c⟩ => .of (c ▸ eb)) (fun i v σ Hc H' hi ⟨a2, eσ, c⟩ ⟨eH, ev⟩ => ?_) (fun σ Hc ⟨a2, eσ, c⟩ => ?_)
    · subst eH eσ c
      have ev : v = V.str cs[i] := by
        rw [List.getElem?_map, List.getElem?_eq_getElem hi] at ev
        exact (Option.some.inj ev).symm
      subst ev
      walk_at "k9"
      refine isi_ty (.base (.str _)) (b := true) (by decide +kernel) ⟨_, rfl, ?_⟩
      rw [if_pos rfl]
      refine in_l (g.l_STOPS H') rfl (by rfl) ⟨_, rfl, ?_⟩
      rw [if_neg (by rw [chg_nin (hcs cs[i] (List.getElem_mem hi)).1]; decide)]
    · subst eσ c
      walk_at "k9"
      refine ⟨dx, _, s2 _ _ h1, len3 _ (by decide +kernel) (by decide +kernel) (by decide +kernel), _, .inl (.of eb), fun c hc => ?_⟩
      have s3 := Same.upd (o := .lst (cs.map V.str)) s2 hc
      refine ⟨a, m, u, c, s0, md, un, cs, rfl, hs.same g s3, upd_same, ?_, hcs, hcl, hml, hko, fun hn cls d H3 he s4 => qe hn cls d H3 he (s3.trans s4), fun s' hs' r u' rs H3 c3 h3' hu hr hr3 hrl hrs => q s' hs' r u' H3 ((Same.chg s3).trans c3) h3' (hu.imp_right s3.free)⟩
      simp only [List.mem_cons, List.not_mem_nil, or_false, not_or]
      exact ⟨Ne.symm (ne_of_none (s2 _ _ h1) hc), Ne.symm (ne_of_none (s2 _ _ h3) hc), Ne.symm (ne_of_none (s2 _ _ h5) hc)⟩
end
end L2.K9
set_option maxHeartbeats 4000000
namespace L2.K9
open PySem PySem.Spec PyProof.Rows He
local macro_rules | `(tactic| walk_at "lf") => `(tactic| ((repeat' split) <;> first | contradiction | rfl | (simp_all; done)))
local macro_rules | `(tactic| walk_at "k9") => `(tactic| simp only [tRet, tRetN, tSeq, tNext, tAsg, gName, tDrop, tIfS, tIf, tVar, tC, tCB, tCons, tNil, tOp, tUn, tTest, tB, tAnd, tOr, tNot, tAndV, tOrV, tNotV, tChain, tCall, tMeth, tMake, tM1, tM0, tBM, tBM0, tSl, tPart, tNoPart, rI0, rI, rU, rEq, rNe, start, List.map_cons, List.map_nil, List.length_cons, List.length_nil, Nat.reduceAdd, Nat.reduceSub, List.replicate_succ, List.replicate_zero, List.cons_append, List.nil_append, List.append_nil, List.getElem?_cons_zero, List.getElem?_cons_succ, List.set_cons_zero, List.set_cons_succ, Option.some.injEq, V.int.injEq, V.bl.injEq, V.str.injEq, V.ref.injEq, exists_eq_left', exists_eq_left, and_true, true_and, exists_and_left, List.cons.injEq, len_s, cxK, cxP, cxW, exists_eq_right, exists_eq', scal_ss, scal_ii, scal_bb, scal_ns, eq_self, ite_nd, rSlS, rIxS, rIxL, rIxT, rSlL, tLc_str, tLc_list, tPar, gTup, tTup, tLst, tDGet1, wipe, List.foldl_cons, List.foldl_nil, sg_inj, and_assoc, exists_eq, decide_eq_true_eq, if_true, if_false, Bool.false_eq_true, Bool.not_true, Bool.not_false, rNeE, rEqE, iEnumk, iZips, gStar, tWGet, rNewStrs, tDIn, sDPut, tDisp, tPairs, sFld, tFld, rAppend, rPop, tFor_list, tFor_enumk, tFor_tup, tFor_or, tProp, gSub, rSetL, rCat])
/-- a box: what is left of a cell, its rest, how often it was asked -/
def BoxOk (x y z : Int) (n : Int) : Prop := 0 ≤ x ∧ 0 ≤ y ∧ y < 2147483648 ∧ 0 ≤ z ∧ z ≤ n
def bx (x y z : Int) : HO := .lst [.int x, .int y, .int z]
section
variable {P : Program} {w : World} {K : PySem.W.Frag} {mg : Str → Option Value} {base : Heap}
def sp__law_cell (K : PySem.W.Frag) : Sp := fun vs H Q _ => ∃ (s : Addr) (k : Int) (xs : List Int), vs = [.ref s, .int k] ∧ SqL K H s (xs.map V.int) ∧ 0 ≤ k ∧ k ≤ 1000 ∧ ∀ j : Int, Q (.int j) H
theorem len__law_cell {vs : List V} {H : Hp} {Q : VK} {E : XK} (h : (sp__law_cell K) vs H Q E) : vs.length = 2 := by
  obtain ⟨_, _, _, rfl, _⟩ := h; rfl
theorem sc__law_cell : FnScope ["_law_script", "_law_k"] ["_law_script", "_law_k"] (defScope s__law_cell) := ⟨rfl, rfl, rfl, by decide +kernel, rfl, by decide +kernel, by decide +kernel⟩
theorem ok__law_cell (g : GT w K mg) : DefOk P w K mg base 1 (ga K "_law_cell") ["_law_script", "_law_k"] (sp__law_cell K) := by
  obtain ⟨fd, F⟩ := g.d__law_cell
  refine ⟨fd, ?_, F.bindsN fun _ _ _ _ _ _ us hl => match us, hl with | [_, _], _ => rfl, F.kp⟩
  refine F.ok sc__law_cell (fun vs H Q E h => ?_) (fun cdv A outer s H vs Q E hr h => ?_)
  · exact len__law_cell h
  · obtain ⟨s, k, xs, rfl, hs, hk, hk2, q⟩ := h
    refine ⟨_, (pss_cons (ps_if (pt_cmpR op_lt (pv 1) (pe_callB call_len (by rfl) g.f_len (by decide +kernel) (pa_cons (pv 0) pa_nil)) (nomark _)) (pss_one (ps_ret (pe_ix ix_list (pv 0) (pv 1) (fun _ _ => rfl)))) pss_nil)
      (pss_one (ps_ret (pe_op op_add (pe_op op_mul pe_int (pv 1)) pe_int)))), ?_⟩
    walk_at "k9"
    refine ⟨_, .inl ⟨_, hs, rfl⟩, ?_⟩
    rw [List.length_map]
    by_cases c : k < (xs.length : Int)
    · rw [if_pos c]
      have hk3 : k.toNat < xs.length := by omega
      refine ⟨_, hs, .int xs[k.toNat], ?_, q _⟩
      unfold atI ixN
      rw [if_pos hk, if_pos (by rw [List.length_map]; omega)]
      rw [Option.bind_some, List.getElem?_map, List.getElem?_eq_getElem hk3]
      rfl
    · rw [if_neg c]
      exact ⟨.inl ⟨by decide, by decide⟩, q _⟩
def sp__law_box (K : PySem.W.Frag) : Sp := fun vs H Q _ => ∃ (i : Int), vs = [.int i] ∧ ∀ x y r, BoxOk x y 0 0 → H r = none → Q (.ref r) (upd H r (bx x y 0))
theorem len__law_box {vs : List V} {H : Hp} {Q : VK} {E : XK} (h : (sp__law_box K) vs H Q E) : vs.length = 1 := by
  obtain ⟨_, rfl, _⟩ := h; rfl
theorem sc__law_box : FnScope ["_law_cell_here"] ["_law_cell_here"] (defScope s__law_box) := ⟨rfl, rfl, rfl, by decide +kernel, rfl, by decide +kernel, by decide +kernel⟩
theorem ok__law_box (g : GT w K mg) : DefOk P w K mg base 1 (ga K "_law_box") ["_law_cell_here"] (sp__law_box K) := by
  obtain ⟨fd, F⟩ := g.d__law_box
  refine ⟨fd, ?_, F.bindsN fun _ _ _ _ _ _ us hl => match us, hl with | [_], _ => rfl, F.kp⟩
  refine F.ok sc__law_box (fun vs H Q E h => ?_) (fun cdv A outer s H vs Q E hr h => ?_)
  · exact len__law_box h
  · obtain ⟨i, rfl, q⟩ := h
    refine ⟨_, (pss_one (ps_ret (pe_lst (pa_cons (pe_callB (call_max2 rfl) (by rfl) g.f_max (by decide +kernel) (pa_cons pe_int (pa_cons (pe_op op_sub (pv 0) (pe_op op_pow pe_int pe_int)) pa_nil))) (pa_cons (pe_op op_mod (pv 0) pe_int) (pa_cons pe_int pa_nil)))))), ?_⟩
    walk_at "k9"
    refine ⟨⟨by decide, by decide, by decide⟩, by decide, by decide, fun p hp => q _ _ p ⟨?_, Int.emod_nonneg _ (by decide), ?_, by decide, by decide⟩ hp⟩
    · split <;> omega
    · have := Int.emod_lt_of_pos i (show (0 : Int) < 2147483629 by decide)
      omega
def sp__law_take (K : PySem.W.Frag) : Sp := fun vs H Q _ => ∃ (b : Addr) (x y z n many : Int), vs = [.ref b, .int many] ∧ H b = some (bx x y z) ∧ BoxOk x y z n ∧ n ≤ 100000 ∧ 1 ≤ many ∧ many ≤ 1000000 ∧
  ∀ d x' z', 0 ≤ d → d < many → BoxOk x' y z' (n + 1) → Q (.int d) (upd H b (bx x' y z'))
theorem len__law_take {vs : List V} {H : Hp} {Q : VK} {E : XK} (h : (sp__law_take K) vs H Q E) : vs.length = 2 := by
  obtain ⟨_, _, _, _, _, _, rfl, _⟩ := h; rfl
theorem sc__law_take : FnScope ["_law_box_here", "_law_many", "_law_mixed", "_law_digit"] ["_law_box_here", "_law_many"] (defScope s__law_take) := ⟨rfl, rfl, rfl, by decide +kernel, rfl, by decide +kernel, by decide +kernel⟩
theorem ok__law_take (g : GT w K mg) : DefOk P w K mg base 1 (ga K "_law_take") ["_law_box_here", "_law_many"] (sp__law_take K) := by
  obtain ⟨fd, F⟩ := g.d__law_take
  refine ⟨fd, ?_, F.bindsN fun _ _ _ _ _ _ us hl => match us, hl with | [_, _], _ => rfl, F.kp⟩
  refine F.ok sc__law_take (fun vs H Q E h => ?_) (fun cdv A outer s H vs Q E hr h => ?_)
  · exact len__law_take h
  · obtain ⟨b, x, y, z, n, many, rfl, hb, ⟨hx, hy, hy2, hz, hz2⟩, hn, hm, hm2, q⟩ := h
    refine ⟨_, (pss_cons (ps_if (pt_cmpR op_gt (pe_ix ix_list (pv 0) pe_int (fun _ _ => rfl)) pe_int (nomark _)) (pss_cons (ps_set (i := 3) sc__law_take.nd rfl (Or.inl rfl) (pe_op op_mod (pe_ix ix_list (pv 0) pe_int (fun _ _ => rfl)) (pv 1)))
      (pss_cons (ps_asg (pe_op op_fdivW (pe_ix ix_list (pv 0) pe_int (fun _ _ => rfl)) (pv 1)) (pg_sub (pv 0) pe_int set_list))
      (pss_one (ps_ret (pv 3))))) pss_nil)
      (pss_cons (ps_asg (pe_op op_add (pe_ix ix_list (pv 0) pe_int (fun _ _ => rfl)) pe_int) (pg_sub (pv 0) pe_int set_list))
      (pss_cons (ps_set (i := 2) sc__law_take.nd rfl (Or.inl rfl) (pe_op op_mod (pe_op op_pow (pe_op op_add (pe_op op_add (pe_ix ix_list (pv 0) pe_int (fun _ _ => rfl)) (pe_op op_mul pe_int (pe_ix ix_list (pv 0) pe_int (fun _ _ => rfl)))) pe_int) pe_int) pe_int))
      (pss_cons (ps_set (i := 2) sc__law_take.nd rfl (Or.inl rfl) (pe_op op_mod (pe_op op_pow (pe_op op_add (pv 2) (pe_op op_mul pe_int (pe_ix ix_list (pv 0) pe_int (fun _ _ => rfl)))) pe_int) pe_int))
      (pss_one (ps_ret (pe_op op_mod (pe_op op_fdiv (pv 2) pe_int) (pv 1)))))))), ?_⟩
    walk_at "k9"
    have hb : H b = some (.lst [.int x, .int y, .int z]) := hb
    refine ⟨_, .of hb, _, at0, _, rfl, ?_⟩
    by_cases c : 0 < x
    · rw [if_pos c]
      refine ⟨_, .of hb, _, at0, _, rfl, by omega, _, .of hb, _, at0, _, rfl, wide_div (b := 30) (by omega) (by omega) (by decide) (by decide), ?_⟩
      refine ⟨_, hb, 0, rfl, ?_⟩
      exact q (x % many) (x / many) z (Int.emod_nonneg _ (by omega)) (Int.emod_lt_of_pos _ (by omega)) ⟨Int.ediv_nonneg hx (by omega), hy, hy2, hz, by omega⟩
    · rw [if_neg c]
      have at2 : ∀ (a b c : V), atI [a, b, c] 2 = some c := fun _ _ _ => rfl
      have e1 : (upd H b (HO.lst ([V.int x, V.int y, V.int z].set 2 (V.int (z + 1))))) b = some (.lst [.int x, .int y, .int (z + 1)]) := by rw [upd_same]; rfl
      refine ⟨_, .of hb, _, at2 _ _ _, z, rfl, _, hb, 2, rfl, _, .of e1, _, at1, _, .of e1, _, at2 _ _ _, _, rfl, .inl ⟨by decide, by decide⟩, y, rfl, ⟨by decide, by decide, by omega⟩, by decide, _, .of e1, _, at2 _ _ _, _, rfl, .inl ⟨by decide, by decide⟩, ?_⟩
      have h1 := Int.emod_nonneg ((y + 15490357 * (z + 1) + 2153) ^ Int.toNat 5) (show (2147483647 : Int) ≠ 0 by decide)
      have h2 := Int.emod_lt_of_pos ((y + 15490357 * (z + 1) + 2153) ^ Int.toNat 5) (show (0 : Int) < 2147483647 by decide)
      refine ⟨⟨by decide, by decide, by omega⟩, by decide, ⟨by decide, by decide⟩, by omega, ?_⟩
      exact q _ x (z + 1) (Int.emod_nonneg _ (by omega)) (Int.emod_lt_of_pos _ (by omega)) ⟨hx, hy, hy2, by omega, by omega⟩
end
end L2.K9
set_option maxHeartbeats 4000000
namespace L2.K9
open PySem PySem.Spec PyProof.Rows He
local macro_rules | `(tactic| walk_at "lf") => `(tactic| ((repeat' split) <;> first | contradiction | rfl | (simp_all; done)))
local macro_rules | `(tactic| walk_at "k9") => `(tactic| simp only [tRet, tRetN, tSeq, tNext, tAsg, gName, tDrop, tIfS, tIf, tVar, tC, tCB, tCons, tNil, tOp, tUn, tTest, tB, tAnd, tOr, tNot, tAndV, tOrV, tNotV, tChain, tCall, tMeth, tMake, tM1, tM0, tBM, tBM0, tSl, tPart, tNoPart, rI0, rI, rU, rEq, rNe, start, List.map_cons, List.map_nil, List.length_cons, List.length_nil, Nat.reduceAdd, Nat.reduceSub, List.replicate_succ, List.replicate_zero, List.cons_append, List.nil_append, List.append_nil, List.getElem?_cons_zero, List.getElem?_cons_succ, List.set_cons_zero, List.set_cons_succ, Option.some.injEq, V.int.injEq, V.bl.injEq, V.str.injEq, V.ref.injEq, exists_eq_left', exists_eq_left, and_true, true_and, exists_and_left, List.cons.injEq, len_s, cxK, cxP, cxW, exists_eq_right, exists_eq', scal_ss, scal_ii, scal_bb, scal_ns, eq_self, ite_nd, rSlS, rIxS, rIxL, rIxT, rSlL, tLc_str, tLc_list, tPar, gTup, tTup, tLst, tDGet1, wipe, List.foldl_cons, List.foldl_nil, sg_inj, and_assoc, exists_eq, decide_eq_true_eq, if_true, if_false, Bool.false_eq_true, Bool.not_true, Bool.not_false, rNeE, rEqE, iEnumk, iZips, gStar, tWGet, rNewStrs, tDIn, sDPut, tDisp, tPairs, sFld, tFld, rAppend, rPop, tFor_list, tFor_enumk, tFor_tup, tFor_or, tProp, gSub, rSetL, rCat])
theorem same_upn {H H1 : Hp} {p q : Addr} {o : HO} (s : Same H H1) (h : H1 p = none) (_ : (upd H1 p o) q = none) : Same H (upd H1 p o) := Same.upd s h
theorem at_nat {α : Type} {xs : List α} {d : Int} (h0 : 0 ≤ d) (h1 : d < (xs.length : Int)) : ∃ v, v ∈ xs ∧ atI xs d = some v := by
  have h : d.toNat < xs.length := by omega
  refine ⟨xs[d.toNat], List.getElem_mem h, ?_⟩
  unfold atI ixN
  rw [if_pos h0, if_pos (by omega), Option.bind_some, List.getElem?_eq_getElem h]
theorem cut_mid {l : List V} (h : 2 ≤ l.length) : cutV l (some 1) (some (-1)) = (l.drop 1).dropLast := by
  unfold cutV
  have e1 : HT.sIx l.length 0 (some 1) = 1 := by
    unfold HT.sIx
    simp
    omega
  have e2 : HT.sIx l.length l.length (some (-1)) = l.length - 1 := by
    unfold HT.sIx
    simp
    omega
  rw [e1, e2, List.dropLast_eq_take, List.length_drop]
def hw (v : V) : V := match v with
  | .str y => .str ((Txt.split y " ").headD "")
  | _ => .non
section
variable {P : Program} {w : World} {K : PySem.W.Frag} {mg : Str → Option Value} {base : Heap}
def NmOk (rows : List Str) : Prop := ∀ y ∈ (rows.drop 1).dropLast, ((Txt.split y " ").headD "").length ≤ 8
def sp__law_line_of (K : PySem.W.Frag) : Sp := fun vs H Q _ => ∃ (b : Addr) (x y z n : Int) (ra : Addr) (rows : List Str), vs = [.ref b, .ref ra] ∧ H b = some (bx x y z) ∧ BoxOk x y z n ∧ n ≤ 90000 ∧ H ra = some (.lst (rows.map V.str)) ∧
  2 ≤ rows.length ∧ rows.length ≤ 20 ∧ (∀ r ∈ rows, r.length ≤ 400000) ∧ NmOk rows ∧ ∀ x' z' l H', BoxOk x' y z' (n + 4) → H' b = some (bx x' y z') → ChgL [b] H H' → l.length ≤ 60 → Q (.str l) H'
theorem len__law_line_of {vs : List V} {H : Hp} {Q : VK} {E : XK} (h : (sp__law_line_of K) vs H Q E) : vs.length = 2 := by
  obtain ⟨_, _, _, _, _, _, _, rfl, _⟩ := h; rfl
theorem sc__law_line_of : FnScope ["_law_box_here", "_law_rows", "_law_names", "_law_fresh", "_law_lines", "_law_name", "_law_other", "_law_row"] ["_law_box_here", "_law_rows"] (defScope s__law_line_of) := ⟨rfl, rfl, rfl, by decide +kernel, rfl, by decide +kernel, by decide +kernel⟩
theorem ok__law_line_of (g : GT w K mg) : DefOk P w K mg base 2 (ga K "_law_line_of") ["_law_box_here", "_law_rows"] (sp__law_line_of K) := by
  obtain ⟨fd__law_take, F__law_take, B__law_take, K__law_take⟩ := ok__law_take (P := P) (w := w) (base := base) g
  obtain ⟨fd, F⟩ := g.d__law_line_of
  refine ⟨fd, ?_, F.bindsN fun _ _ _ _ _ _ us hl => match us, hl with | [_, _], _ => rfl, F.kp⟩
  refine F.ok sc__law_line_of (fun vs H Q E h => ?_) (fun cdv A outer s H vs Q E hr h => ?_)
  · exact len__law_line_of h
  · obtain ⟨b, x, y, z, n, ra, rows, rfl, hb, hx, hn, hra, hr2, hr20, hrl, hnm, q⟩ := h
    refine ⟨_, (pss_cons (ps_set (i := 2) sc__law_line_of.nd rfl (Or.inl rfl) (pe_op op_cat (pe_op op_cat (pe_lst (pa_cons pe_str pa_nil)) (pe_lc (own := [("_law_row", 7)]) (by rfl) sc__law_line_of.nd (pi_list (pe_slice sl_list (pv 1) (po_some pe_int) (po_some (pe_un un_neg pe_int)))) (blkOk_by (N := ["_law_box_here", "_law_rows", "_law_names", "_law_fresh", "_law_lines", "_law_name", "_law_other", "_law_row"]) (own := [("_law_row", 7)]) (show blkC _ (defScope s__law_line_of) _ _ = true by decide +kernel)) (fun _ _ _ _ _ => (pg_name (i := 7) sc__law_line_of.nd rfl (Or.inl rfl))) (fun _ _ _ _ _ => pts_nil) (fun _ _ _ _ _ => (pe_ix (ix_list_K (K := K) rfl) (pe_split (pv 7) pe_str) pe_int (fun _ _ => rfl))))) (pe_lst (pa_cons pe_str pa_nil))))
      (pss_cons (ps_par (i := 5) (j := 6) (by rfl) sc__law_line_of.nd rfl rfl (by decide) rfl rfl (pa_cons (pe_ix ix_list (pv 2) (pe_call F__law_take (hr.mono (by decide)) rfl g.g__law_take K__law_take B__law_take .nil pq (pa_cons (pv 0) (pa_cons (pe_callB call_len (by rfl) g.f_len (by decide +kernel) (pa_cons (pv 2) pa_nil)) pa_nil))) (fun _ _ => rfl)) (pa_cons (pe_ix ix_list (pv 2) (pe_call F__law_take (hr.mono (by decide)) rfl g.g__law_take K__law_take B__law_take .nil pq (pa_cons (pv 0) (pa_cons (pe_callB call_len (by rfl) g.f_len (by decide +kernel) (pa_cons (pv 2) pa_nil)) pa_nil))) (fun _ _ => rfl)) pa_nil)) (by rfl))
      (pss_cons (ps_set (i := 3) sc__law_line_of.nd rfl (Or.inl rfl) (pe_ix ix_list (pe_lst (pa_cons pe_str (pa_cons pe_str (pa_cons pe_str (pa_cons (pv 6) pa_nil))))) (pe_call F__law_take (hr.mono (by decide)) rfl g.g__law_take K__law_take B__law_take .nil pq (pa_cons (pv 0) (pa_cons pe_int pa_nil))) (fun _ _ => rfl)))
      (pss_cons (ps_set (i := 4) sc__law_line_of.nd rfl (Or.inl rfl) (pe_lst (pa_cons (pe_op op_add_str (pe_op op_add_str (pv 3) pe_str) (pv 5)) (pa_cons (pe_op op_add_str (pe_op op_add_str (pe_op op_add_str (pv 3) pe_str) (pv 5)) pe_str) (pa_cons (pe_op op_add_str (pe_op op_add_str (pe_op op_add_str (pv 3) pe_str) (pv 5)) pe_str) pa_nil)))))
      (pss_cons (ps_set (i := 4) sc__law_line_of.nd rfl (Or.inl rfl) (pe_op op_cat (pv 4) (pe_lst (pa_cons (pe_op op_add_str (pe_op op_add_str (pe_op op_add_str (pv 3) pe_str) (pv 5)) pe_str) (pa_cons (pe_op op_add_str (pe_op op_add_str (pe_op op_add_str (pe_op op_add_str (pv 3) pe_str) (pv 6)) pe_str) (pv 5)) pa_nil)))))
      (pss_one (ps_ret (pe_ix ix_list (pe_op op_cat (pv 4) (pe_lst (pa_cons (pe_op op_add_str pe_str (pv 5)) (pa_cons pe_str (pa_cons (pe_op op_add_str (pe_op op_add_str (pv 3) pe_str) (pv 5)) pa_nil))))) (pe_call F__law_take (hr.mono (by decide)) rfl g.g__law_take K__law_take B__law_take .nil pq (pa_cons (pv 0) (pa_cons pe_int pa_nil))) (fun _ _ => rfl))))))))), ?_⟩
    walk_at "k9"
    have ib : ∀ (Hc : Hp) r o, Hc r = none → Hc b = some o → b ≠ r := fun Hc r o h1 h2 => ne_of_none h2 h1
    refine ⟨by decide, fun p hp => ⟨_, (sm1 hp).seq (.of hra), fun p1 hp1 => ⟨⟨_, newL⟩, ?_⟩⟩⟩
    rw [cut_mid (by rw [List.length_map]; exact hr2), ← List.map_drop, ← List.map_dropLast]
    have ml : (rows.drop 1).dropLast.length ≤ 20 := by rw [List.length_dropLast, List.length_drop]; omega
    have mm : ∀ y ∈ (rows.drop 1).dropLast, y ∈ rows := fun y hy => List.mem_of_mem_drop (List.dropLast_subset _ hy)
    unfold NmOk at hnm
    generalize (rows.drop 1).dropLast = mid at *
    have s1 := Same.upd (o := .lst (mid.map V.str)) (sm1 (o := .lst [.str "now"]) hp) hp1
    refine lc_lsts hw newL (by rw [List.length_map]; omega) (fun v H2 Qy Qn hv s2 k => ?_) (fun D H2 s2 eD => ?_)
    · obtain ⟨y, hy, rfl⟩ := List.mem_map.mp hv
      refine ⟨rfl, ?_⟩
      walk_at "k9"
      have hy2 := hrl y (mm y hy)
      refine ⟨by decide +kernel, by rw [sizeLine_eq]; omega, fun p2 hp2 => ⟨_, newL, ?_⟩⟩
      cases hs : Txt.split y (Str.ofString " ") with
      | nil => exact absurd hs (split_ne sep_sp y)
      | cons a r =>
        refine ⟨_, at0, ?_⟩
        have e : hw (V.str y) = V.str a := by
          show V.str ((Txt.split y " ").headD "") = _
          rw [hs]
          rfl
        rw [← e]
        exact k _ (sm1 hp2)
    · obtain ⟨nms, hnms, hn8⟩ : ∃ nms : List Str, (mid.map V.str).map hw = nms.map V.str ∧ ∀ y ∈ nms, y.length ≤ 8 :=
        ⟨mid.map fun y => (Txt.split y " ").headD "", by rw [List.map_map, List.map_map]; rfl, fun y hy => by
          obtain ⟨v, hv, rfl⟩ := List.mem_map.mp hy
          exact hnm v hv⟩
      have nl : nms.length = mid.length := by
        have := congrArg List.length hnms
        simpa using this.symm
      rw [hnms] at eD
      have sm := s1.trans s2
      have ep : H2 p = some (.lst [.str "now"]) := s2 p (.lst [.str "now"]) (by rw [upd_ne (fun z => by rw [← z, upd_same] at hp1; cases hp1), upd_same])
      refine ⟨D, rfl, _, ep, _, eD, by rw [sizeLine_eq, List.length_map]; simp; omega, fun p2 hp2 => ⟨by decide, fun p3 hp3 => ?_⟩⟩
      have n23 : p2 ≠ p3 := fun z => by rw [← z, upd_same] at hp3; cases hp3
      refine ⟨_, by rw [upd_ne n23, upd_same], _, upd_same, by rw [sizeLine_eq]; simp; omega, fun p4 hp4 => ?_⟩
      have s3 := Same.upd (o := .lst [V.str "x"]) (Same.upd (o := .lst ([V.str "now"] ++ nms.map V.str)) sm hp2) hp3
      have nb4 : p4 ≠ b := Ne.symm (ne_of_none (s3 _ _ hb) hp4)
      have s4 := Same.upd (o := .lst ([V.str "now"] ++ nms.map V.str ++ [V.str "x"])) (Same.upd (o := .lst [V.str "x"]) (Same.upd (o := .lst ([V.str "now"] ++ nms.map V.str)) sm hp2) hp3) hp4
      have hNL : [V.str "now"] ++ nms.map V.str ++ [V.str "x"] = (("now" : Str) :: (nms ++ [("x" : Str)])).map V.str := by simp
      rw [hNL] at s4 ⊢
      have hN8 : ∀ y ∈ (("now" : Str) :: (nms ++ [("x" : Str)])), y.length ≤ 8 := by
        intro y hy
        rcases List.mem_cons.mp hy with rfl | hy
        · decide +kernel
        · rcases List.mem_append.mp hy with hy | hy
          · exact hn8 y hy
          · rw [List.mem_singleton.mp hy]; decide +kernel
      have hNL2 : (("now" : Str) :: (nms ++ [("x" : Str)])).length ≤ 30 := by simp; omega
      have hN1 : 1 ≤ (("now" : Str) :: (nms ++ [("x" : Str)])).length := by simp
      have e4 : (upd (upd (upd H2 p2 (HO.lst ([V.str "now"] ++ nms.map V.str))) p3 (HO.lst [V.str "x"])) p4 (HO.lst ((("now" : Str) :: (nms ++ [("x" : Str)])).map V.str))) p4 = some (.lst ((("now" : Str) :: (nms ++ [("x" : Str)])).map V.str)) := upd_same
      generalize hH4 : upd (upd (upd H2 p2 (HO.lst ([V.str "now"] ++ nms.map V.str))) p3 (HO.lst [V.str "x"])) p4 (HO.lst ((("now" : Str) :: (nms ++ [("x" : Str)])).map V.str)) = H4 at *
      generalize (("now" : Str) :: (nms ++ [("x" : Str)])) = NL at *
      have hb4 := s4 _ _ hb
      have lk : ∀ {Hc : Hp} {d : Int}, Hc p4 = some (.lst (NL.map V.str)) → 0 ≤ d → d < (NL.length : Int) → ∃ y : Str, y.length ≤ 8 ∧ atI (NL.map V.str) d = some (V.str y) := fun {Hc d} _ h0 h1 => by
        obtain ⟨v, hv, e⟩ := at_nat (xs := NL.map V.str) h0 (by rw [List.length_map]; exact h1)
        obtain ⟨y, hy, rfl⟩ := List.mem_map.mp hv
        exact ⟨y, hN8 y hy, e⟩
      refine ⟨_, .inl ⟨_, .of e4, rfl⟩, b, x, y, z, n, _, rfl, hb4, hx, by omega, by rw [List.length_map]; omega, by rw [List.length_map]; omega, fun d1 x1 z1 hd1 hd1' hx1 => ?_⟩
      rw [List.length_map] at hd1'
      have e5 : (upd H4 b (bx x1 y z1)) p4 = some (.lst (NL.map V.str)) := by rw [upd_ne nb4]; exact e4
      obtain ⟨y1, hy1, ey1⟩ := lk e5 hd1 hd1'
      refine ⟨_, _, rfl, .of e5, _, ey1, _, .inl ⟨_, .of e5, rfl⟩, b, x1, y, z1, n + 1, _, rfl, upd_same, hx1, by omega, by rw [List.length_map]; omega, by rw [List.length_map]; omega, fun d2 x2 z2 hd2 hd2' hx2 => ?_⟩
      rw [List.length_map] at hd2'
      rw [upd_upd]
      have e6 : (upd H4 b (bx x2 y z2)) p4 = some (.lst (NL.map V.str)) := by rw [upd_ne nb4]; exact e4
      obtain ⟨y2, hy2, ey2⟩ := lk e6 hd2 hd2'
      refine ⟨_, _, rfl, .of e6, _, ey2, by decide, fun p5 hp5 => ?_⟩
      have hb6 : (upd H4 b (bx x2 y z2)) b = some (bx x2 y z2) := upd_same
      have nb5 : p5 ≠ b := Ne.symm (ne_of_none hb6 hp5)
      have c6 : ChgL [b] H (upd H4 b (bx x2 y z2)) := (Same.chg s4).trans (.upd (by simp))
      refine ⟨b, x2, y, z2, n + 1 + 1, 4, rfl, sm1 hp5 _ _ hb6, hx2, by omega, by decide, by decide, fun d3 x3 z3 hd3 hd3' hx3 => ?_⟩
      have c7 := c6.trans ((Same.chg (sm1 (o := .lst [V.str "x", V.str "y", V.str "z1", V.str y2]) hp5)).trans (ChgL.upd (L := [b]) (a := b) (o := bx x3 y z3) (by simp)))
      obtain ⟨y3, hy3, ey3⟩ : ∃ y3 : Str, y3.length ≤ 8 ∧ atI [V.str "x", V.str "y", V.str "z1", V.str y2] d3 = some (V.str y3) := by
        obtain ⟨v, hv, e⟩ := at_nat (xs := [V.str "x", V.str "y", V.str "z1", V.str y2]) hd3 (by simpa using hd3')
        simp only [List.mem_cons, List.not_mem_nil, or_false] at hv
        rcases hv with rfl | rfl | rfl | rfl
        · exact ⟨_, by decide +kernel, e⟩
        · exact ⟨_, by decide +kernel, e⟩
        · exact ⟨_, by decide +kernel, e⟩
        · exact ⟨_, hy2, e⟩
      have e7 : (upd (upd (upd H4 b (bx x2 y z2)) p5 (HO.lst [V.str "x", V.str "y", V.str "z1", V.str y2])) b (bx x3 y z3)) p5 = some (HO.lst [V.str "x", V.str "y", V.str "z1", V.str y2]) := by rw [upd_ne nb5, upd_same]
      have hb7 : (upd (upd (upd H4 b (bx x2 y z2)) p5 (HO.lst [V.str "x", V.str "y", V.str "z1", V.str y2])) b (bx x3 y z3)) b = some (bx x3 y z3) := upd_same
      generalize upd (upd (upd H4 b (bx x2 y z2)) p5 (HO.lst [V.str "x", V.str "y", V.str "z1", V.str y2])) b (bx x3 y z3) = H7 at *
      refine ⟨_, _, rfl, .of e7, _, ey3, ?_⟩
      have sA : ∀ (a b : Str), (a ++ b).length = a.length + b.length := Str.length_append
      simp only [V.str.injEq, exists_eq_left', sA, sizeLine_eq, show (Str.ofString " = read ").length = 8 from by decide +kernel, show (Str.ofString " = add ").length = 7 from by decide +kernel, show (Str.ofString " 60").length = 3 from by decide +kernel,
        show (Str.ofString " = days ").length = 8 from by decide +kernel, show (Str.ofString " 1").length = 2 from by decide +kernel, show (Str.ofString " = place ").length = 9 from by decide +kernel, show (Str.ofString " ahead").length = 6 from by decide +kernel,
        show (Str.ofString " = between ").length = 11 from by decide +kernel, show (Str.ofString " ").length = 1 from by decide +kernel, show (Str.ofString "return ").length = 7 from by decide +kernel, show (Str.ofString " = time ").length = 8 from by decide +kernel]
      refine ⟨by omega, by omega, by omega, by omega, by omega, by omega, by omega, by omega, by omega, fun p6 hp6 => ⟨by omega, by omega, by omega, by omega, by omega, by omega, by omega, by omega, fun p7 hp7 => ?_⟩⟩
      have n67 : p6 ≠ p7 := fun z => by rw [← z, upd_same] at hp7; cases hp7
      refine ⟨_, by rw [upd_ne n67, upd_same], _, upd_same, by simp, fun p8 hp8 => ⟨by omega, by omega, by omega, by omega, fun p9 hp9 => ?_⟩⟩
      have n89 : p8 ≠ p9 := fun z => by rw [← z, upd_same] at hp9; cases hp9
      refine ⟨_, by rw [upd_ne n89, upd_same], _, upd_same, by simp, fun p10 hp10 => ?_⟩
      have s9 := same_upn (Same.upd (Same.upd (sm1 hp6) hp7) hp8) hp9 hp10
      have nb10 : p10 ≠ b := Ne.symm (ne_of_none (s9 _ _ hb7) hp10)
      have s10 := fun o => Same.upd (o := o) s9 hp10
      refine ⟨b, x3, y, z3, n + 1 + 1 + 1, 8, rfl, s10 _ _ _ hb7, hx3, by omega, by decide, by decide, fun d4 x4 z4 hd4 hd4' hx4 => ?_⟩
      refine ⟨_, _, rfl, .of (by rw [upd_ne nb10, upd_same]), ?_⟩
      obtain ⟨v, hv, e⟩ := at_nat (xs := [V.str (y3 ++ Str.ofString " = read " ++ y1), V.str (y3 ++ Str.ofString " = add " ++ y1 ++ Str.ofString " 60"), V.str (y3 ++ Str.ofString " = days " ++ y1 ++ Str.ofString " 1")] ++
            [V.str (y3 ++ Str.ofString " = place " ++ y1 ++ Str.ofString " ahead"), V.str (y3 ++ Str.ofString " = between " ++ y2 ++ Str.ofString " " ++ y1)] ++
          [V.str (Str.ofString "return " ++ y1), V.str (Str.ofString "return n"), V.str (y3 ++ Str.ofString " = time " ++ y1)]) hd4 hd4'
      refine ⟨v, e, ?_⟩
      obtain ⟨l, rfl, hl⟩ : ∃ l : Str, v = V.str l ∧ l.length ≤ 60 := by
        simp only [List.cons_append, List.nil_append, List.mem_cons, List.not_mem_nil, or_false] at hv
        rcases hv with h | h | h | h | h | h | h | h
        all_goals refine ⟨_, h, ?_⟩
        all_goals simp only [sA, sizeLine_eq, show (Str.ofString " = read ").length = 8 from by decide +kernel, show (Str.ofString " = add ").length = 7 from by decide +kernel, show (Str.ofString " 60").length = 3 from by decide +kernel,
          show (Str.ofString " = days ").length = 8 from by decide +kernel, show (Str.ofString " 1").length = 2 from by decide +kernel, show (Str.ofString " = place ").length = 9 from by decide +kernel, show (Str.ofString " ahead").length = 6 from by decide +kernel,
          show (Str.ofString " = between ").length = 11 from by decide +kernel, show (Str.ofString " ").length = 1 from by decide +kernel, show (Str.ofString "return ").length = 7 from by decide +kernel, show (Str.ofString " = time ").length = 8 from by decide +kernel, show (Str.ofString "return n").length = 8 from by decide +kernel]
        all_goals omega
      refine q x4 z4 l _ ?_ upd_same (c7.trans ((Same.chg (s10 _)).trans (.upd (by simp)))) hl
      obtain ⟨a1, a2, a3, a4, a5⟩ := hx4
      exact ⟨a1, a2, a3, a4, by omega⟩
end
end L2.K9
set_option maxHeartbeats 4000000
namespace L2.K9
open PySem PySem.Spec PyProof.Rows He
local macro_rules | `(tactic| walk_at "lf") => `(tactic| ((repeat' split) <;> first | contradiction | rfl | (simp_all; done)))
local macro_rules | `(tactic| walk_at "k9") => `(tactic| simp only [tRet, tRetN, tSeq, tNext, tAsg, gName, tDrop, tIfS, tIf, tVar, tC, tCB, tCons, tNil, tOp, tUn, tTest, tB, tAnd, tOr, tNot, tAndV, tOrV, tNotV, tChain, tCall, tMeth, tMake, tM1, tM0, tBM, tBM0, tSl, tPart, tNoPart, rI0, rI, rU, rEq, rNe, start, List.map_cons, List.map_nil, List.length_cons, List.length_nil, Nat.reduceAdd, Nat.reduceSub, List.replicate_succ, List.replicate_zero, List.cons_append, List.nil_append, List.append_nil, List.getElem?_cons_zero, List.getElem?_cons_succ, List.set_cons_zero, List.set_cons_succ, Option.some.injEq, V.int.injEq, V.bl.injEq, V.str.injEq, V.ref.injEq, exists_eq_left', exists_eq_left, and_true, true_and, exists_and_left, List.cons.injEq, len_s, cxK, cxP, cxW, exists_eq_right, exists_eq', scal_ss, scal_ii, scal_bb, scal_ns, eq_self, ite_nd, rSlS, rIxS, rIxL, rIxT, rSlL, tLc_str, tLc_list, tPar, gTup, tTup, tLst, tDGet1, wipe, List.foldl_cons, List.foldl_nil, sg_inj, and_assoc, exists_eq, decide_eq_true_eq, if_true, if_false, Bool.false_eq_true, Bool.not_true, Bool.not_false, rNeE, rEqE, iEnumk, iZips, gStar, tWGet, rNewStrs, tDIn, sDPut, tDisp, tPairs, sFld, tFld, rAppend, rPop, tFor_list, tFor_enumk, tFor_tup, tFor_or, tProp, gSub, rSetL, rCat])
theorem ts_len {d : Int} (h0 : 0 ≤ d) (h1 : d < 40) : (Str.ofString (toString d)).length ≤ 2 := by
  have h : ∀ k : Fin 40, (Str.ofString (toString ((k.val : Nat) : Int))).length ≤ 2 := by decide +kernel
  have := h ⟨d.toNat, by omega⟩
  rwa [show (((⟨d.toNat, by omega⟩ : Fin 40).val : Nat) : Int) = d from by simp; omega] at this
theorem nb_log {d : Int} (h0 : 0 ≤ d) (h1 : d < 40) : d.natAbs.log2 < 1920 :=
  Nat.lt_of_lt_of_le (PySem.Flt.log2_lt_of (n := d.natAbs) (k := 10) (by decide) (by omega)) (by decide)
theorem chg_of {h w r l : Str} (e : h = w ++ " ") (hw : 32 ∉ TL.tl w) (hc : inV (.str w) chgW = true) (el : l = h ++ r) : Chg l := by
  obtain ⟨ws, hs⟩ := split_word (w := w) (r := r) hw
  exact ⟨w, ws, by rw [el, e]; exact hs, hc⟩
theorem chg_lit {l : Str} (w : Str) (ws : List Str) (h : Txt.split l " " = w :: ws) (hc : inV (.str w) chgW = true) : Chg l := ⟨w, ws, h, hc⟩
theorem sApp (a b c : Str) : a ++ b ++ c = a ++ (b ++ c) := Str.append_assoc a b c
section
variable {P : Program} {w : World} {K : PySem.W.Frag} {mg : Str → Option Value} {base : Heap}
def sp__law_change (K : PySem.W.Frag) : Sp := fun vs H Q _ => ∃ (b : Addr) (x y z n : Int) (ra : Addr) (rows : List Str), vs = [.ref b, .ref ra] ∧ H b = some (bx x y z) ∧ BoxOk x y z n ∧ n ≤ 80000 ∧ H ra = some (.lst (rows.map V.str)) ∧
  2 ≤ rows.length ∧ rows.length ≤ 20 ∧ (∀ r ∈ rows, r.length ≤ 400000) ∧ NmOk rows ∧ ∀ x' z' l H', BoxOk x' y z' (n + 15) → H' b = some (bx x' y z') → ChgL [b] H H' → l.length ≤ 200 → Chg l → Q (.str l) H'
theorem len__law_change {vs : List V} {H : Hp} {Q : VK} {E : XK} (h : (sp__law_change K) vs H Q E) : vs.length = 2 := by
  obtain ⟨_, _, _, _, _, _, _, rfl, _⟩ := h; rfl
theorem sc__law_change : FnScope ["_law_box_here", "_law_rows", "_law_at", "_law_low", "_law_lines", "_law_more"] ["_law_box_here", "_law_rows"] (defScope s__law_change) := ⟨rfl, rfl, rfl, by decide +kernel, rfl, by decide +kernel, by decide +kernel⟩
theorem ok__law_change (g : GT w K mg) : DefOk P w K mg base 3 (ga K "_law_change") ["_law_box_here", "_law_rows"] (sp__law_change K) := by
  obtain ⟨fd__law_take, F__law_take, B__law_take, K__law_take⟩ := ok__law_take (P := P) (w := w) (base := base) g
  obtain ⟨fd__law_line_of, F__law_line_of, B__law_line_of, K__law_line_of⟩ := ok__law_line_of (P := P) (w := w) (base := base) g
  obtain ⟨fd, F⟩ := g.d__law_change
  refine ⟨fd, ?_, F.bindsN fun _ _ _ _ _ _ us hl => match us, hl with | [_, _], _ => rfl, F.kp⟩
  refine F.ok sc__law_change (fun vs H Q E h => ?_) (fun cdv A outer s H vs Q E hr h => ?_)
  · exact len__law_change h
  · obtain ⟨b, x, y, z, n, ra, rows, rfl, hb, hx, hn, hra, hr2, hr20, hrl, hnm, q⟩ := h
    refine ⟨_, (pss_cons (ps_set (i := 2) sc__law_change.nd rfl (Or.inl rfl) (pe_callTy call_str_int (by rfl) g.f_str (by decide +kernel) (pa_cons (pe_call F__law_take (hr.mono (by decide)) rfl g.g__law_take K__law_take B__law_take .nil pq (pa_cons (pv 0) (pa_cons (pe_op op_add (pe_callB call_len (by rfl) g.f_len (by decide +kernel) (pa_cons (pv 1) pa_nil)) pe_int) pa_nil))) pa_nil)))
      (pss_cons (ps_set (i := 3) sc__law_change.nd rfl (Or.inl rfl) (pe_ix ix_list (pe_lst (pa_cons pe_str (pa_cons pe_str (pa_cons pe_str pa_nil)))) (pe_call F__law_take (hr.mono (by decide)) rfl g.g__law_take K__law_take B__law_take .nil pq (pa_cons (pv 0) (pa_cons pe_int pa_nil))) (fun _ _ => rfl)))
      (pss_cons (ps_set (i := 4) sc__law_change.nd rfl (Or.inl rfl) (pe_lst (pa_cons (pe_op op_add_str (pe_op op_add_str (pe_op op_add_str pe_str (pv 2)) pe_str) (pe_call F__law_line_of (hr.mono (by decide)) rfl g.g__law_line_of K__law_line_of B__law_line_of .nil pq (pa_cons (pv 0) (pa_cons (pv 1) pa_nil)))) (pa_cons (pe_op op_add_str pe_str (pv 2)) (pa_cons (pe_op op_add_str (pe_op op_add_str (pe_op op_add_str pe_str (pv 2)) pe_str) (pe_call F__law_line_of (hr.mono (by decide)) rfl g.g__law_line_of K__law_line_of B__law_line_of .nil pq (pa_cons (pv 0) (pa_cons (pv 1) pa_nil)))) pa_nil)))))
      (pss_cons (ps_set (i := 4) sc__law_change.nd rfl (Or.inl rfl) (pe_op op_cat (pv 4) (pe_lst (pa_cons (pe_op op_add_str pe_str (pe_call F__law_line_of (hr.mono (by decide)) rfl g.g__law_line_of K__law_line_of B__law_line_of .nil pq (pa_cons (pv 0) (pa_cons (pv 1) pa_nil)))) (pa_cons (pe_op op_add_str (pe_op op_add_str pe_str (pv 3)) pe_str) pa_nil)))))
      (pss_cons (ps_expr (pe_bm PySem.F.plainAttrs_list PySem.F.slot_list_append PySem.F.type_list_append mt_append (pv 4) (pa_cons (pe_op op_add_str (pe_op op_add_str pe_str (pv 3)) pe_str) pa_nil)))
      (pss_cons (ps_set (i := 5) sc__law_change.nd rfl (Or.inl rfl) pe_str)
      (pss_cons (ps_expr (pe_bm PySem.F.plainAttrs_list PySem.F.slot_list_append PySem.F.type_list_append mt_append (pv 4) (pa_cons (pe_op op_add_str (pe_op op_add_str (pe_op op_add_str pe_str (pv 3)) pe_str) (pv 5)) pa_nil)))
      (pss_cons (ps_set (i := 4) sc__law_change.nd rfl (Or.inl rfl) (pe_op op_cat (pv 4) (pe_lst (pa_cons pe_str (pa_cons pe_str (pa_cons pe_str (pa_cons pe_str (pa_cons pe_str (pa_cons pe_str (pa_cons pe_str pa_nil))))))))))
      (pss_one (ps_ret (pe_ix ix_list (pe_op op_cat (pv 4) (pe_lst (pa_cons pe_str (pa_cons (pe_op op_add_str pe_str (pe_op op_rep pe_str pe_int)) pa_nil)))) (pe_call F__law_take (hr.mono (by decide)) rfl g.g__law_take K__law_take B__law_take .nil pq (pa_cons (pv 0) (pa_cons pe_int pa_nil))) (fun _ _ => rfl)))))))))))), ?_⟩
    walk_at "k9"
    have nrb : ra ≠ b := fun z => by
      rw [z, hb] at hra
      cases rows with
      | nil => simp at hr2
      | cons a r => cases hra
    have nrl : ra ∉ [b] := by simpa using nrb
    have sA : ∀ (a b : Str), (a ++ b).length = a.length + b.length := Str.length_append
    refine ⟨_, .inl ⟨_, .of hra, rfl⟩, b, x, y, z, n, _, rfl, hb, hx, by omega, by omega, by rw [List.length_map]; omega, fun d1 x1 z1 hd1 hd1' hx1 => ?_⟩
    rw [List.length_map] at hd1'
    have t1 := ts_len hd1 (by omega)
    refine ⟨_, rfl, nb_log hd1 (by omega), by decide, fun p1 hp1 => ?_⟩
    have hb1 : (upd H b (bx x1 y z1)) b = some (bx x1 y z1) := upd_same
    have c1 : ChgL [b] H (upd H b (bx x1 y z1)) := .upd (by simp)
    generalize upd H b (bx x1 y z1) = H1 at *
    have nb1 : p1 ≠ b := Ne.symm (ne_of_none hb1 hp1)
    refine ⟨b, x1, y, z1, n + 1, 3, rfl, sm1 hp1 _ _ hb1, hx1, by omega, by decide, by decide, fun d2 x2 z2 hd2 hd2' hx2 => ?_⟩
    obtain ⟨v, hv, ev⟩ := at_nat (xs := [V.str "00:00", V.str "02:00", V.str "23:59"]) hd2 hd2'
    obtain ⟨low, rfl, hlow⟩ : ∃ l : Str, v = V.str l ∧ l.length ≤ 5 := by
      simp only [List.mem_cons, List.not_mem_nil, or_false] at hv
      rcases hv with h | h | h
      all_goals exact ⟨_, h, by decide +kernel⟩
    refine ⟨_, _, rfl, .of (by rw [upd_ne nb1, upd_same]), _, ev, ?_⟩
    have c2 := c1.trans ((Same.chg (sm1 (o := .lst [V.str "00:00", V.str "02:00", V.str "23:59"]) hp1)).trans (ChgL.upd (L := [b]) (a := b) (o := bx x2 y z2) (by simp)))
    have hb2 : (upd (upd H1 p1 (.lst [V.str "00:00", V.str "02:00", V.str "23:59"])) b (bx x2 y z2)) b = some (bx x2 y z2) := upd_same
    generalize upd (upd H1 p1 (.lst [V.str "00:00", V.str "02:00", V.str "23:59"])) b (bx x2 y z2) = H2 at *
    generalize (Str.ofString (toString d1)) = A at *
    have bO : ∀ {x y z n m : Int}, BoxOk x y z n → n ≤ m → BoxOk x y z m := fun ⟨a1, a2, a3, a4, a5⟩ h => ⟨a1, a2, a3, a4, by omega⟩
    simp only [V.str.injEq, exists_eq_left', sA, sizeLine_eq, show (Str.ofString "put ").length = 4 from by decide +kernel, show (Str.ofString "take ").length = 5 from by decide +kernel, show (Str.ofString "replace ").length = 8 from by decide +kernel, show (Str.ofString " ").length = 1 from by decide +kernel]
    refine ⟨by omega, by omega, b, x2, y, z2, n + 1 + 1, ra, rows, rfl, hb2, hx2, by omega, c2 _ _ nrl hra, hr2, hr20, hrl, hnm, fun x3 z3 l1 H3 hx3 hb3 c3 hl1 => ⟨_, rfl, by omega, by omega, by omega, by omega, ?_⟩⟩
    have c3 := c2.trans c3
    refine ⟨b, x3, y, z3, _, ra, rows, rfl, hb3, hx3, by omega, c3 _ _ nrl hra, hr2, hr20, hrl, hnm, fun x4 z4 l2 H4 hx4 hb4 c4 hl2 => ⟨_, rfl, by omega, by omega, fun p2 hp2 => ?_⟩⟩
    have c4 := (c3.trans c4).trans (Same.chg (sm1 (o := .lst [V.str ("put " ++ A ++ " " ++ l1), V.str ("take " ++ A), V.str ("replace " ++ A ++ " " ++ l2)]) hp2))
    have hb4 := sm1 (o := .lst [V.str ("put " ++ A ++ " " ++ l1), V.str ("take " ++ A), V.str ("replace " ++ A ++ " " ++ l2)]) hp2 _ _ hb4
    have e4 : (upd H4 p2 (.lst [V.str ("put " ++ A ++ " " ++ l1), V.str ("take " ++ A), V.str ("replace " ++ A ++ " " ++ l2)])) p2 = some (.lst [V.str ("put " ++ A ++ " " ++ l1), V.str ("take " ++ A), V.str ("replace " ++ A ++ " " ++ l2)]) := upd_same
    have nb2 : p2 ≠ b := fun z => by rw [z, upd_same] at hb4; cases hb4
    generalize upd H4 p2 (.lst [V.str ("put " ++ A ++ " " ++ l1), V.str ("take " ++ A), V.str ("replace " ++ A ++ " " ++ l2)]) = H5 at *
    refine ⟨b, x4, y, z4, _, ra, rows, rfl, hb4, hx4, by omega, c4 _ _ nrl hra, hr2, hr20, hrl, hnm, fun x6 z6 l3 H6 hx6 hb6 c6 hl3 => ?_⟩
    have e6 := c6 _ _ (by simpa using nb2) e4
    have c6 := c4.trans c6
    simp only [show (Str.ofString "put 1 ").length = 6 from by decide +kernel, show (Str.ofString "replace 0 start ").length = 16 from by decide +kernel, show (Str.ofString " 23:59").length = 6 from by decide +kernel, show (Str.ofString "program start ").length = 14 from by decide +kernel,
      show (Str.ofString " 23:59 | n = between now now | return n").length = 39 from by decide +kernel, show (Str.ofString " 12:00 | ").length = 9 from by decide +kernel,
      show (Str.ofString "r = read now | s = days r 1 | m = place s strict | n = between now m | return n").length = 79 from by decide +kernel]
    refine ⟨_, rfl, by omega, by omega, by omega, by omega, fun p3 hp3 => ?_⟩
    have n23 : p2 ≠ p3 := ne_of_none e6 hp3
    refine ⟨_, by rw [upd_ne n23]; exact e6, _, upd_same, by simp, fun p4 hp4 => ⟨.inl ⟨rfl, _, .of upd_same⟩, by omega, by omega, _, upd_same, by simp [sizeLine_eq], ?_⟩⟩
    refine ⟨.inl ⟨rfl, _, .of upd_same⟩, by omega, by omega, by omega, _, upd_same, by simp [sizeLine_eq], by omega, fun p5 hp5 => ?_⟩
    rw [upd_upd, upd_upd] at hp5 ⊢
    obtain ⟨BL, hBL⟩ : ∃ BL, BL = [V.str ("put " ++ A ++ " " ++ l1), V.str ("take " ++ A), V.str ("replace " ++ A ++ " " ++ l2)] ++ [V.str ("put 1 " ++ l3), V.str ("replace 0 start " ++ low ++ " 23:59")] ++
      [V.str ("program start " ++ low ++ " 23:59 | n = between now now | return n")] ++ [V.str ("program start " ++ low ++ " 12:00 | " ++ "r = read now | s = days r 1 | m = place s strict | n = between now m | return n")] := ⟨_, rfl⟩
    rw [← hBL] at hp5 ⊢
    have lBL : BL.length = 7 := by rw [hBL]; rfl
    have s4 : ∀ o, Same H6 (upd (upd H6 p3 (.lst [V.str ("put 1 " ++ l3), V.str ("replace 0 start " ++ low ++ " 23:59")])) p4 o) := fun o => Same.upd (o := o) (sm1 hp3) hp4
    have s5 := fun o => Same.upd (o := o) (s4 (.lst BL)) hp5
    have n45 : p4 ≠ p5 := fun z => by rw [← z, upd_same] at hp5; cases hp5
    refine ⟨_, by rw [upd_ne n45, upd_same], _, upd_same, by rw [lBL]; decide, fun p6 hp6 => ?_⟩
    refine ⟨48, by decide +kernel, 29, rfl, by decide, by decide +kernel, by decide, fun p7 hp7 => ?_⟩
    have s6 := fun o => Same.upd (o := o) (same_upn (s5 _) hp6 hp7) hp7
    have n67 : p6 ≠ p7 := fun z => by rw [← z, upd_same] at hp7; cases hp7
    refine ⟨_, by rw [upd_ne n67, upd_same], _, upd_same, by rw [List.length_append, lBL]; decide, fun p8 hp8 => ?_⟩
    have s7 := fun o => Same.upd (o := o) (s6 _) hp8
    have nb8 : p8 ≠ b := Ne.symm (ne_of_none (s6 _ _ _ hb6) hp8)
    refine ⟨b, x6, y, z6, _, 16, rfl, s7 _ _ _ hb6, hx6, by omega, by decide, by decide, fun d7 x7 z7 hd7 hd7' hx7 => ?_⟩
    refine ⟨_, _, rfl, .of (by rw [upd_ne nb8, upd_same]), ?_⟩
    obtain ⟨v, hv, e⟩ := at_nat (xs := BL ++ [V.str "jumps 60", V.str "jumps -60 60", V.str "jumps 0", V.str "jumps 30 30", V.str "apart 2000", V.str "apart 119", V.str "most 1"] ++ [V.str "most 4", V.str ("apart 1" ++ ⟨(List.replicate 29 48).toArray⟩)]) hd7
      (by rw [List.length_append, List.length_append, lBL]; exact hd7')
    refine ⟨v, e, ?_⟩
    obtain ⟨l, rfl, hl, hc⟩ : ∃ l : Str, v = V.str l ∧ l.length ≤ 200 ∧ Chg l := by
      rw [hBL] at hv
      simp only [List.cons_append, List.nil_append, List.append_assoc, List.mem_cons, List.not_mem_nil, or_false] at hv
      rcases hv with h | h | h | h | h | h | h | h | h | h | h | h | h | h | h | h
      · refine ⟨_, h, by simp only [sA, show (Str.ofString "put ").length = 4 from by decide +kernel, show (Str.ofString "take ").length = 5 from by decide +kernel, show (Str.ofString "replace ").length = 8 from by decide +kernel, show (Str.ofString " ").length = 1 from by decide +kernel,
        show (Str.ofString "put 1 ").length = 6 from by decide +kernel, show (Str.ofString "replace 0 start ").length = 16 from by decide +kernel, show (Str.ofString " 23:59").length = 6 from by decide +kernel, show (Str.ofString "program start ").length = 14 from by decide +kernel,
        show (Str.ofString " 23:59 | n = between now now | return n").length = 39 from by decide +kernel, show (Str.ofString " 12:00 | ").length = 9 from by decide +kernel,
        show (Str.ofString "r = read now | s = days r 1 | m = place s strict | n = between now m | return n").length = 79 from by decide +kernel]; omega, chg_of (h := "put ") (w := "put") (by decide +kernel) (by decide +kernel) (by decide +kernel) (show _ = _ ++ (A ++ (Str.ofString " " ++ l1)) from by rw [sApp, sApp])⟩
      · refine ⟨_, h, by simp only [sA, show (Str.ofString "put ").length = 4 from by decide +kernel, show (Str.ofString "take ").length = 5 from by decide +kernel, show (Str.ofString "replace ").length = 8 from by decide +kernel, show (Str.ofString " ").length = 1 from by decide +kernel,
        show (Str.ofString "put 1 ").length = 6 from by decide +kernel, show (Str.ofString "replace 0 start ").length = 16 from by decide +kernel, show (Str.ofString " 23:59").length = 6 from by decide +kernel, show (Str.ofString "program start ").length = 14 from by decide +kernel,
        show (Str.ofString " 23:59 | n = between now now | return n").length = 39 from by decide +kernel, show (Str.ofString " 12:00 | ").length = 9 from by decide +kernel,
        show (Str.ofString "r = read now | s = days r 1 | m = place s strict | n = between now m | return n").length = 79 from by decide +kernel]; omega, chg_of (h := "take ") (w := "take") (by decide +kernel) (by decide +kernel) (by decide +kernel) (rfl)⟩
      · refine ⟨_, h, by simp only [sA, show (Str.ofString "put ").length = 4 from by decide +kernel, show (Str.ofString "take ").length = 5 from by decide +kernel, show (Str.ofString "replace ").length = 8 from by decide +kernel, show (Str.ofString " ").length = 1 from by decide +kernel,
        show (Str.ofString "put 1 ").length = 6 from by decide +kernel, show (Str.ofString "replace 0 start ").length = 16 from by decide +kernel, show (Str.ofString " 23:59").length = 6 from by decide +kernel, show (Str.ofString "program start ").length = 14 from by decide +kernel,
        show (Str.ofString " 23:59 | n = between now now | return n").length = 39 from by decide +kernel, show (Str.ofString " 12:00 | ").length = 9 from by decide +kernel,
        show (Str.ofString "r = read now | s = days r 1 | m = place s strict | n = between now m | return n").length = 79 from by decide +kernel]; omega, chg_of (h := "replace ") (w := "replace") (by decide +kernel) (by decide +kernel) (by decide +kernel) (show _ = _ ++ (A ++ (Str.ofString " " ++ l2)) from by rw [sApp, sApp])⟩
      · refine ⟨_, h, by simp only [sA, show (Str.ofString "put ").length = 4 from by decide +kernel, show (Str.ofString "take ").length = 5 from by decide +kernel, show (Str.ofString "replace ").length = 8 from by decide +kernel, show (Str.ofString " ").length = 1 from by decide +kernel,
        show (Str.ofString "put 1 ").length = 6 from by decide +kernel, show (Str.ofString "replace 0 start ").length = 16 from by decide +kernel, show (Str.ofString " 23:59").length = 6 from by decide +kernel, show (Str.ofString "program start ").length = 14 from by decide +kernel,
        show (Str.ofString " 23:59 | n = between now now | return n").length = 39 from by decide +kernel, show (Str.ofString " 12:00 | ").length = 9 from by decide +kernel,
        show (Str.ofString "r = read now | s = days r 1 | m = place s strict | n = between now m | return n").length = 79 from by decide +kernel]; omega, chg_of (h := "put ") (w := "put") (by decide +kernel) (by decide +kernel) (by decide +kernel) (show _ = _ ++ (Str.ofString "1 " ++ l3) from by rw [← sApp, show (Str.ofString "put " ++ Str.ofString "1 ") = Str.ofString "put 1 " from by decide +kernel])⟩
      · refine ⟨_, h, by simp only [sA, show (Str.ofString "put ").length = 4 from by decide +kernel, show (Str.ofString "take ").length = 5 from by decide +kernel, show (Str.ofString "replace ").length = 8 from by decide +kernel, show (Str.ofString " ").length = 1 from by decide +kernel,
        show (Str.ofString "put 1 ").length = 6 from by decide +kernel, show (Str.ofString "replace 0 start ").length = 16 from by decide +kernel, show (Str.ofString " 23:59").length = 6 from by decide +kernel, show (Str.ofString "program start ").length = 14 from by decide +kernel,
        show (Str.ofString " 23:59 | n = between now now | return n").length = 39 from by decide +kernel, show (Str.ofString " 12:00 | ").length = 9 from by decide +kernel,
        show (Str.ofString "r = read now | s = days r 1 | m = place s strict | n = between now m | return n").length = 79 from by decide +kernel]; omega, chg_of (h := "replace ") (w := "replace") (by decide +kernel) (by decide +kernel) (by decide +kernel) (show _ = _ ++ (Str.ofString "0 start " ++ (low ++ Str.ofString " 23:59")) from by rw [← sApp, ← sApp, show (Str.ofString "replace " ++ Str.ofString "0 start ") = Str.ofString "replace 0 start " from by decide +kernel])⟩
      · refine ⟨_, h, by simp only [sA, show (Str.ofString "put ").length = 4 from by decide +kernel, show (Str.ofString "take ").length = 5 from by decide +kernel, show (Str.ofString "replace ").length = 8 from by decide +kernel, show (Str.ofString " ").length = 1 from by decide +kernel,
        show (Str.ofString "put 1 ").length = 6 from by decide +kernel, show (Str.ofString "replace 0 start ").length = 16 from by decide +kernel, show (Str.ofString " 23:59").length = 6 from by decide +kernel, show (Str.ofString "program start ").length = 14 from by decide +kernel,
        show (Str.ofString " 23:59 | n = between now now | return n").length = 39 from by decide +kernel, show (Str.ofString " 12:00 | ").length = 9 from by decide +kernel,
        show (Str.ofString "r = read now | s = days r 1 | m = place s strict | n = between now m | return n").length = 79 from by decide +kernel]; omega, chg_of (h := "program ") (w := "program") (by decide +kernel) (by decide +kernel) (by decide +kernel) (show _ = _ ++ (Str.ofString "start " ++ (low ++ Str.ofString " 23:59 | n = between now now | return n")) from by rw [← sApp, ← sApp, show (Str.ofString "program " ++ Str.ofString "start ") = Str.ofString "program start " from by decide +kernel])⟩
      · refine ⟨_, h, by simp only [sA, show (Str.ofString "put ").length = 4 from by decide +kernel, show (Str.ofString "take ").length = 5 from by decide +kernel, show (Str.ofString "replace ").length = 8 from by decide +kernel, show (Str.ofString " ").length = 1 from by decide +kernel,
        show (Str.ofString "put 1 ").length = 6 from by decide +kernel, show (Str.ofString "replace 0 start ").length = 16 from by decide +kernel, show (Str.ofString " 23:59").length = 6 from by decide +kernel, show (Str.ofString "program start ").length = 14 from by decide +kernel,
        show (Str.ofString " 23:59 | n = between now now | return n").length = 39 from by decide +kernel, show (Str.ofString " 12:00 | ").length = 9 from by decide +kernel,
        show (Str.ofString "r = read now | s = days r 1 | m = place s strict | n = between now m | return n").length = 79 from by decide +kernel]; omega, chg_of (h := "program ") (w := "program") (by decide +kernel) (by decide +kernel) (by decide +kernel) (show _ = _ ++ (Str.ofString "start " ++ (low ++ (Str.ofString " 12:00 | " ++ Str.ofString "r = read now | s = days r 1 | m = place s strict | n = between now m | return n"))) from by rw [← sApp, ← sApp, ← sApp, show (Str.ofString "program " ++ Str.ofString "start ") = Str.ofString "program start " from by decide +kernel])⟩
      · exact ⟨_, h, by decide +kernel, chg_lit "jumps" ["60"] (by decide +kernel) (by decide +kernel)⟩
      · exact ⟨_, h, by decide +kernel, chg_lit "jumps" ["-60", "60"] (by decide +kernel) (by decide +kernel)⟩
      · exact ⟨_, h, by decide +kernel, chg_lit "jumps" ["0"] (by decide +kernel) (by decide +kernel)⟩
      · exact ⟨_, h, by decide +kernel, chg_lit "jumps" ["30", "30"] (by decide +kernel) (by decide +kernel)⟩
      · exact ⟨_, h, by decide +kernel, chg_lit "apart" ["2000"] (by decide +kernel) (by decide +kernel)⟩
      · exact ⟨_, h, by decide +kernel, chg_lit "apart" ["119"] (by decide +kernel) (by decide +kernel)⟩
      · exact ⟨_, h, by decide +kernel, chg_lit "most" ["1"] (by decide +kernel) (by decide +kernel)⟩
      · exact ⟨_, h, by decide +kernel, chg_lit "most" ["4"] (by decide +kernel) (by decide +kernel)⟩
      · exact ⟨_, h, by decide +kernel, chg_lit "apart" ["100000000000000000000000000000"] (by decide +kernel) (by decide +kernel)⟩
    exact q x7 z7 l _ (bO hx7 (by omega)) upd_same (c6.trans ((Same.chg (s7 _)).trans (.upd (by simp)))) hl hc
end
end L2.K9
set_option maxHeartbeats 4000000
namespace L2.K9
open PySem PySem.Spec PyProof.Rows He
local macro_rules | `(tactic| walk_at "lf") => `(tactic| ((repeat' split) <;> first | contradiction | rfl | (simp_all; done)))
local macro_rules | `(tactic| walk_at "k9") => `(tactic| simp only [tRet, tRetN, tSeq, tNext, tAsg, gName, tDrop, tIfS, tIf, tVar, tC, tCB, tCons, tNil, tOp, tUn, tTest, tB, tAnd, tOr, tNot, tAndV, tOrV, tNotV, tChain, tCall, tMeth, tMake, tM1, tM0, tBM, tBM0, tSl, tPart, tNoPart, rI0, rI, rU, rEq, rNe, start, List.map_cons, List.map_nil, List.length_cons, List.length_nil, Nat.reduceAdd, Nat.reduceSub, List.replicate_succ, List.replicate_zero, List.cons_append, List.nil_append, List.append_nil, List.getElem?_cons_zero, List.getElem?_cons_succ, List.set_cons_zero, List.set_cons_succ, Option.some.injEq, V.int.injEq, V.bl.injEq, V.str.injEq, V.ref.injEq, exists_eq_left', exists_eq_left, and_true, true_and, exists_and_left, List.cons.injEq, len_s, cxK, cxP, cxW, exists_eq_right, exists_eq', scal_ss, scal_ii, scal_bb, scal_ns, eq_self, ite_nd, rSlS, rIxS, rIxL, rIxT, rSlL, tLc_str, tLc_list, tPar, gTup, tTup, tLst, tDGet1, wipe, List.foldl_cons, List.foldl_nil, sg_inj, and_assoc, exists_eq, decide_eq_true_eq, if_true, if_false, Bool.false_eq_true, Bool.not_true, Bool.not_false, rNeE, rEqE, iEnumk, iZips, gStar, tWGet, rNewStrs, tDIn, sDPut, tDisp, tPairs, sFld, tFld, rAppend, rPop, tFor_list, tFor_enumk, tFor_tup, tFor_or, tProp, gSub, rSetL, rCat])
section
variable {P : Program} {w : World} {K : PySem.W.Frag} {mg : Str → Option Value} {base : Heap}
/-- a state as the law keeps it: a list of a kind and the rows of a text -/
def LsAt (K : PySem.W.Frag) (H : Hp) (r : Addr) (s : Stt) : Prop := ∃ kr tr, H r = some (.lst [.ref kr, .ref tr]) ∧ KdAt K H kr s.k ∧ H tr = some (.lst ((Txt.split s.t "\n").map V.str))
def sp__law_state (K : PySem.W.Frag) : Sp := fun vs H Q _ => ∃ (a m u : Addr) (s0 : Stt) (md un : List Ent), vs = [.ref a] ∧ SeAt K H a m u s0 md un ∧ (cur s0 md).t.length ≤ 400000 ∧
  ∀ r H', Same H H' → H r = none → LsAt K H' r (cur s0 md) → Q (.ref r) H'
theorem len__law_state {vs : List V} {H : Hp} {Q : VK} {E : XK} (h : (sp__law_state K) vs H Q E) : vs.length = 1 := by
  obtain ⟨_, _, _, _, _, _, rfl, _⟩ := h; rfl
theorem sc__law_state : FnScope ["_law_session"] ["_law_session"] (defScope s__law_state) := ⟨rfl, rfl, rfl, by decide +kernel, rfl, by decide +kernel, by decide +kernel⟩
theorem ok__law_state (g : GT w K mg) : DefOk P w K mg base 6 (ga K "_law_state") ["_law_session"] (sp__law_state K) := by
  obtain ⟨fd_Session_text, F_Session_text, B_Session_text, K_Session_text⟩ := ok_Session_text (P := P) (w := w) (base := base) g
  obtain ⟨fd_Session_kind, F_Session_kind, B_Session_kind, K_Session_kind⟩ := ok_Session_kind (P := P) (w := w) (base := base) g
  obtain ⟨fd, F⟩ := g.d__law_state
  refine ⟨fd, ?_, F.bindsN fun _ _ _ _ _ _ us hl => match us, hl with | [_], _ => rfl, F.kp⟩
  refine F.ok sc__law_state (fun vs H Q E h => ?_) (fun cdv A outer s H vs Q E hr h => ?_)
  · exact len__law_state h
  · obtain ⟨a, m, u, s0, md, un, rfl, hs, hl, q⟩ := h
    refine ⟨_, (pss_one (ps_ret (pe_lst (pa_cons (pe_meth0 (pv 0) g.k_Session g.e_Session_kind F_Session_kind (hr.mono (by decide)) B_Session_kind .nil pq) (pa_cons (pe_meth0 (pv 0) g.k_Session g.e_Session_text F_Session_text (hr.mono (by decide)) B_Session_text .nil pq) pa_nil))))), ?_⟩
    walk_at "k9"
    obtain ⟨dx, o, h1, h2⟩ := hs.ex
    refine ⟨dx, _, h1, len3 _ (by decide +kernel) (by decide +kernel) (by decide +kernel), a, m, u, s0, md, un, rfl, hs, fun kr hk => ⟨dx, _, h1, len3 _ (by decide +kernel) (by decide +kernel) (by decide +kernel), a, m, u, s0, md, un, rfl, hs, hl, fun tr H2 s2 ht => ⟨by decide, fun p hp => ?_⟩⟩⟩
    exact q p _ (Same.upd s2 hp) (s2.free hp) ⟨kr, tr, upd_same, (hk.same s2).same (sm1 hp), sm1 hp _ _ ht⟩
def sp__law_made (K : PySem.W.Frag) : Sp := fun vs H Q _ => ∃ (r : Addr) (s : Stt), vs = [.ref r] ∧ LsAt K H r s ∧ s.t.length ≤ 100000 ∧ progM s.t = true ∧
  ∀ a m u H', Same H H' → SeAt K H' a m u s [] [] → H a = none → H m = none → H u = none → Q (.ref a) H'
theorem len__law_made {vs : List V} {H : Hp} {Q : VK} {E : XK} (h : (sp__law_made K) vs H Q E) : vs.length = 1 := by
  obtain ⟨_, _, rfl, _⟩ := h; rfl
theorem sc__law_made : FnScope ["_law_state_here"] ["_law_state_here"] (defScope s__law_made) := ⟨rfl, rfl, rfl, by decide +kernel, rfl, by decide +kernel, by decide +kernel⟩
theorem ok__law_made (g : GT w K mg) : DefOk P w K mg base 8 (ga K "_law_made") ["_law_state_here"] (sp__law_made K) := by
  obtain ⟨fd_Session___init__, F_Session___init__, B_Session___init__, K_Session___init__⟩ := ok_Session___init__ (P := P) (w := w) (base := base) g
  obtain ⟨fd_Program___init__, F_Program___init__, B_Program___init__, K_Program___init__⟩ := ok_Program___init__ (P := P) (w := w) (base := base) g
  obtain ⟨fd, F⟩ := g.d__law_made
  refine ⟨fd, ?_, F.bindsN fun _ _ _ _ _ _ us hl => match us, hl with | [_], _ => rfl, F.kp⟩
  refine F.ok sc__law_made (fun vs H Q E h => ?_) (fun cdv A outer s H vs Q E hr h => ?_)
  · exact len__law_made h
  · obtain ⟨r, s, rfl, hls, hl, hp, q⟩ := h
    refine ⟨_, (pss_one (ps_ret (pe_make g.m_Session F_Session___init__ (hr.mono (by decide)) rfl g.g_Session B_Session___init__ .nil pq (pa_cons (pe_ix ix_list (pv 0) pe_int (fun _ _ => rfl)) (pa_cons (pe_make g.m_Program F_Program___init__ (hr.mono (by decide)) rfl g.g_Program B_Program___init__ .nil pq (pa_cons (pe_join pe_str (pe_ix ix_list (pv 0) pe_int (fun _ _ => rfl))) pa_nil)) pa_nil))))), ?_⟩
    obtain ⟨kr, tr, h1, h2, h3⟩ := id hls
    walk_at "k9"
    have l1 : (Str.ofString "\n").length = 1 := by decide +kernel
    have ej : Txt.join (Str.ofString "\n") (Txt.split s.t (Str.ofString "\n")) = s.t := join_split sep_nl s.t
    have hsum := split_sum sep_nl s.t
    have hcnt := split_cnt sep_nl s.t
    refine ⟨_, .of h1, _, at0, _, .of h1, _, at1, tr, rfl, _, .inl (.of h3), by rw [l1]; omega, fun x dx hx hdx hne => ?_⟩
    rw [ej]
    refine ⟨x, s.t, dx, rfl, upd_same, by omega, (fun hf => by rw [hf] at hp; cases hp), fun _ H2 c2 p2 => ⟨rfl, fun a da ha hda hna => ?_⟩⟩
    have s2 := made_same hx hdx c2
    have s3 : Same H2 (upd (upd H2 da (HO.own a)) a (HO.ins (ga K "Session") da [])) := by
      refine Same.upd (sm1 hda) ?_
      rw [upd_ne (Ne.symm hna)]; exact ha
    refine ⟨a, da, kr, x, s, rfl, upd_same, (h2.same s2).same s3, p2.same s3, fun H' m u c4 hs4 hm hu => ⟨rfl, q a m u H' (s2.trans (made_same ha hda c4)) hs4 (s2.free ha) ?_ ?_⟩⟩
    · exact s2.free (s3.free hm)
    · exact s2.free (s3.free hu)
end
end L2.K9
set_option maxHeartbeats 4000000
namespace L2.K9
open PySem PySem.Spec PyProof.Rows He
local macro_rules | `(tactic| walk_at "lf") => `(tactic| ((repeat' split) <;> first | contradiction | rfl | (simp_all; done)))
local macro_rules | `(tactic| walk_at "k9") => `(tactic| simp only [tRet, tRetN, tSeq, tNext, tAsg, gName, tDrop, tIfS, tIf, tVar, tC, tCB, tCons, tNil, tOp, tUn, tTest, tB, tAnd, tOr, tNot, tAndV, tOrV, tNotV, tChain, tCall, tMeth, tMake, tM1, tM0, tBM, tBM0, tSl, tPart, tNoPart, rI0, rI, rU, rEq, rNe, start, List.map_cons, List.map_nil, List.length_cons, List.length_nil, Nat.reduceAdd, Nat.reduceSub, List.replicate_succ, List.replicate_zero, List.cons_append, List.nil_append, List.append_nil, List.getElem?_cons_zero, List.getElem?_cons_succ, List.set_cons_zero, List.set_cons_succ, Option.some.injEq, V.int.injEq, V.bl.injEq, V.str.injEq, V.ref.injEq, exists_eq_left', exists_eq_left, and_true, true_and, exists_and_left, List.cons.injEq, len_s, cxK, cxP, cxW, exists_eq_right, exists_eq', scal_ss, scal_ii, scal_bb, scal_ns, eq_self, ite_nd, rSlS, rIxS, rIxL, rIxT, rSlL, tLc_str, tLc_list, tPar, gTup, tTup, tLst, tDGet1, wipe, List.foldl_cons, List.foldl_nil, sg_inj, and_assoc, exists_eq, decide_eq_true_eq, if_true, if_false, Bool.false_eq_true, Bool.not_true, Bool.not_false, rNeE, rEqE, iEnumk, iZips, gStar, tWGet, rNewStrs, tDIn, sDPut, tDisp, tPairs, sFld, tFld, rAppend, rPop, tFor_list, tFor_enumk, tFor_tup, tFor_or, tProp, gSub, rSetL, rCat])
section
variable {P : Program} {w : World} {K : PySem.W.Frag} {mg : Str → Option Value} {base : Heap}
def sp__law_said (K : PySem.W.Frag) : Sp := fun vs H Q _ => ∃ (a m u : Addr) (s0 : Stt) (md un : List Ent) (l : Str), vs = [.ref a, .str l] ∧ SeAt K H a m u s0 md un ∧ md.length ≤ 1000 ∧ un.length ≤ 1000 ∧
  (Chg l ∧ l.length ≤ 40000 ∧ KOk (cur s0 md).k ∧ (cur s0 md).t.length ≤ 50000 ∧ (∀ s, stepM (cur s0 md) l = some s → KOk s.k ∧ s.t.length ≤ 50000) ∨ l = "undo" ∨ l = "redo") ∧
  (sayM s0 md un l = none → ∀ r H', Same H H' → H r = none → H' r = some (.lst [.str "refused"]) → Q (.ref r) H') ∧
  ∀ md' un', sayM s0 md un l = some (md', un') → ∀ r e u' H', ChgL [a, m, u] H H' → SeAt K H' a m u' s0 md' un' → (u' = u ∨ H u' = none) → H' r = some (.lst [.str "told", .ref e]) → H' e = some (.lst []) → Q (.ref r) H'
theorem len__law_said {vs : List V} {H : Hp} {Q : VK} {E : XK} (h : (sp__law_said K) vs H Q E) : vs.length = 2 := by
  obtain ⟨_, _, _, _, _, _, _, rfl, _⟩ := h; rfl
theorem sc__law_said : FnScope ["_law_session", "_law_line"] ["_law_session", "_law_line"] (defScope s__law_said) := ⟨rfl, rfl, rfl, by decide +kernel, rfl, by decide +kernel, by decide +kernel⟩
theorem ok__law_said (g : GT w K mg) : DefOk P w K mg base 13 (ga K "_law_said") ["_law_session", "_law_line"] (sp__law_said K) := by
  obtain ⟨fd_Session_say, F_Session_say, B_Session_say, K_Session_say⟩ := ok_Session_say (P := P) (w := w) (base := base) g
  obtain ⟨fd, F⟩ := g.d__law_said
  refine ⟨fd, ?_, F.bindsN fun _ _ _ _ _ _ us hl => match us, hl with | [_, _], _ => rfl, F.kp⟩
  refine F.ok sc__law_said (fun vs H Q E h => ?_) (fun cdv A outer s H vs Q E hr h => ?_)
  · exact len__law_said h
  · obtain ⟨a, m, u, s0, md, un, l, rfl, hs, hml, hul, hl, qe, q⟩ := h
    refine ⟨_, (pss_one (ps_try3 rfl rfl ⟨rfl, by decide +kernel, g.g_TimeError⟩ ⟨rfl, by decide +kernel, g.g_MissingError⟩ ⟨rfl, by decide +kernel, g.g_StateError⟩ (fun W pn xe tk po => (pss_one (ps_ret (pe_lst (pa_cons pe_str (pa_cons (pe_meth (pv 0) g.k_Session g.e_Session_say F_Session_say (hr.mono (by decide)) B_Session_say .nil (passes_call (E := fun cls d H => ∀ σ, W cls d σ H) tk (fun _ _ σ _ h => h σ)) (pa_cons (pv 1) pa_nil)) pa_nil)))))) (fun a oe pn => (pss_one (ps_ret (pe_lst (pa_cons pe_str pa_nil))))))), ?_⟩
    walk_at "k9"
    obtain ⟨dx, o, h1, h2⟩ := hs.ex
    refine ⟨dx, _, h1, len3 _ (by decide +kernel) (by decide +kernel) (by decide +kernel), a, m, u, s0, md, un, l, rfl, hs, hml, hul, hl, fun hn cls d H2 he s2 σ => ⟨he, ?_⟩, fun md' un' hm r u' H2 c2 hs2 hu hr => ⟨by decide, fun p hp => ?_⟩⟩
    · show 1 ≤ sizeLine ∧ ∀ p, H2 p = none → Q (V.ref p) (upd H2 p (HO.lst [V.str "refused"]))
      exact ⟨by decide, fun p hp => qe hn p _ (Same.upd s2 hp) (s2.free hp) upd_same⟩
    · exact q md' un' hm p r u' _ (c2.trans (Same.chg (sm1 hp))) (hs2.same g (sm1 hp)) hu upd_same (sm1 hp _ _ hr)
end
end L2.K9
set_option maxHeartbeats 4000000
/-! a program's rows -/
namespace L2.K9
open PySem PySem.Spec PyProof.Rows He
theorem takes_names : ∀ (rs : List (List Str)) (p q : PSt), takesM p rs = some q → p.ans = false → q.ans = true → rs ≠ [] ∧ rs.length + p.n ≤ 9 + (p.n - 8) ∧ ∀ ws ∈ rs.dropLast, isName (ws.headD "") = true
  | [], p, q, h, hp, hq => by
    have : p = q := Option.some.inj h
    rw [this, hq] at hp
    cases hp
  | ws :: r, p, q, h, hp, hq => by
    have h : (takeM p ws).bind (fun q => takesM q r) = some q := h
    cases ht : takeM p ws with
    | none => rw [ht] at h; cases h
    | some p' =>
      rw [ht] at h
      have h : takesM p' r = some q := h
      refine ⟨by simp, ?_⟩
      unfold takeM at ht
      rw [if_neg (by rw [hp]; decide)] at ht
      by_cases c : areAns ws p.kv = true
      · rw [if_pos c] at ht
        cases ht
        cases r with
        | nil => exact ⟨by simp; omega, by simp⟩
        | cons a r =>
          have h : (takeM { p with ans := true } a).bind (fun q => takesM q r) = some q := h
          have : takeM { p with ans := true } a = none := by unfold takeM; rw [if_pos rfl]
          rw [this] at h
          cases h
      · rw [if_neg c] at ht
        split at ht
        · rename_i w e c' r'
          split at ht
          · cases ht
          · rename_i h8
            split at ht
            · cases ht
            · rename_i hn
              split at ht
              · cases ht
              · cases ht
                have h8 : ¬ 8 ≤ p.n := fun z => h8 (.inl z)
                obtain ⟨i1, i2, i3⟩ := takes_names r _ q h rfl hq
                simp only at i2
                refine ⟨by simp only [List.length_cons]; omega, ?_⟩
                rw [List.dropLast_cons_of_ne_nil i1]
                intro ws hws
                rcases List.mem_cons.mp hws with rfl | hws
                · show isName w = true
                  cases e : isName w with
                  | true => rfl
                  | false => exact absurd (.inl e) hn
                · exact i3 ws hws
        · cases ht
theorem name_len {w : Str} (h : isName w = true) : w.length ≤ 8 := by
  unfold isName at h
  show w.cps.size ≤ 8
  rw [← Array.length_toList]
  cases e : w.cps.toList with
  | nil => simp
  | cons c r =>
    rw [e] at h
    simp only [Bool.and_eq_true, decide_eq_true_eq] at h
    simp only [List.length_cons]
    omega
theorem prog_rows {t : Str} (h : progM t = true) : 2 ≤ (Txt.split t "\n").length ∧ (Txt.split t "\n").length ≤ 10 ∧ NmOk (Txt.split t "\n") := by
  unfold progM rowsOf at h
  unfold NmOk
  generalize Txt.split t (Str.ofString "\n") = L at *
  cases L with
  | nil => cases h
  | cons l0 L =>
    simp only [List.map_cons, Bool.and_eq_true] at h
    cases ht : takesM pst0 (L.map fun l => Txt.split l (Str.ofString " ")) with
    | none => rw [ht] at h; cases h.2
    | some p =>
      rw [ht] at h
      obtain ⟨i1, i2, i3⟩ := takes_names _ _ _ ht rfl h.2
      rw [List.length_map] at i2
      have i2 : L.length + 0 ≤ 9 + (0 - 8) := i2
      have i1 : L ≠ [] := fun z => i1 (by rw [z]; rfl)
      have l1 : 1 ≤ L.length := List.length_pos_iff.mpr i1
      refine ⟨by simp only [List.length_cons]; omega, by simp only [List.length_cons]; omega, fun y hy => ?_⟩
      have hy : y ∈ L.dropLast := hy
      refine name_len (i3 (Txt.split y (Str.ofString " ")) ?_)
      rw [← List.map_dropLast]
      exact List.mem_map.mpr ⟨y, hy, rfl⟩
end L2.K9
set_option maxHeartbeats 4000000
/-! what a row makes of a state: bounds, runs -/
namespace L2.K9
open PySem PySem.Spec PyProof.Rows He
theorem insI_len (x : Int) : ∀ l, (insI x l).length = l.length + 1
  | [] => rfl
  | y :: r => by
    unfold insI
    split
    · rfl
    · rw [List.length_cons, List.length_cons, insI_len x r]
theorem srt_len : ∀ l, (srt l).length = l.length
  | [] => rfl
  | x :: r => by
    show (insI x (srt r)).length = _
    rw [insI_len, srt_len r]; rfl
theorem kindM_ok {js : List Int} {ap mo : Int} {k : Knd} (h : kindM js ap mo = some k) : KOk k := by
  unfold kindM at h
  split at h
  · rename_i c
    cases h
    unfold KOk
    simp only [srt_len]
    exact ⟨c.1, c.2.1⟩
  · cases h
def StOk (B : Nat) (s : Stt) : Prop := KOk s.k ∧ s.t.length ≤ B ∧ progM s.t = true
theorem StOk.mono {B C : Nat} {s : Stt} (h : StOk B s) (hb : B ≤ C) : StOk C s := ⟨h.1, Nat.le_trans h.2.1 hb, h.2.2⟩
theorem l1n : (Str.ofString "\n").length = 1 := by decide +kernel
theorem l1s : (Str.ofString " ").length = 1 := by decide +kernel
theorem l1b : (Str.ofString " | ").length = 3 := by decide +kernel
theorem cmd_small {l w : Str} {p : Pts} (h : cmdM l = some (w, p)) :
    (∀ ls, p = .rows ls → (ls.map (·.length)).sum + ls.length ≤ l.length + 1) ∧ ∀ i x, p = .flat [.int i, .str x] → x.length ≤ l.length := by
  unfold cmdM at h
  cases hs : Txt.split l " " with
  | nil => rw [hs] at h; cases h
  | cons w' ws =>
    rw [hs] at h
    simp only at h
    split at h
    · cases hp : partsOf w' ws with
      | none => rw [hp] at h; cases h
      | some pp =>
        rw [hp] at h
        have h : (w', pp) = (w, p) := Option.some.inj h
        obtain ⟨rfl, rfl⟩ := Prod.mk.inj h
        have hsum := split_len sep_sp l
        rw [l1s, hs] at hsum
        simp only [List.map_cons, List.sum_cons, List.length_cons] at hsum
        unfold partsOf at hp
        split at hp
        · unfold textsOf at hp
          split at hp
          · split at hp
            · cases hp
            · cases hp
              refine ⟨fun ls e => ?_, fun i x e => by cases e⟩
              cases e
              have hj := join_len " " ws
              rw [l1s] at hj
              have h1 := split_len sep_bar (Txt.join " " ws)
              rw [l1b] at h1
              have hne := List.length_pos_iff.mpr (split_ne sep_bar (Txt.join " " ws))
              have : Txt.join (Str.ofString " ") ws = Txt.join " " ws := rfl
              omega
          · match ws, hp with
            | [], hp => cases hp
            | [_], hp => cases hp
            | a :: b :: r, hp =>
              cases hi : indexOf a with
              | none => simp only [hi] at hp; cases hp
              | some i =>
                simp only [hi] at hp
                cases hp
                refine ⟨fun ls e => (by cases e), fun j x e => ?_⟩
                cases e
                have hj := join_len " " (b :: r)
                rw [l1s] at hj
                simp only [List.map_cons, List.sum_cons, List.length_cons] at hsum hj
                omega
        · split at hp
          · split at hp
            · cases hp
            · simp only at hp
              split at hp
              · cases hp
              · cases hp
                refine ⟨fun ls e => (by cases e), fun i x e => ?_⟩
                have e := Pts.flat.inj e
                have hm : V.str x ∈ [V.int i, V.str x] := by simp
                rw [← e] at hm
                obtain ⟨n, hn⟩ := List.mem_iff_getElem?.mp hm
                rw [List.getElem?_zipWith] at hn
                split at hn
                · rename_i a b _ _
                  have hn := Option.some.inj hn
                  cases hq : partOf a b with
                  | none => rw [hq] at hn; cases hn
                  | some z => rw [hq] at hn; cases hn
                · cases hn
          · cases hp
    · cases h
theorem withM_ok {s s' : Stt} {ls : List Str} (h : withM s ls = some s') : s'.k = s.k ∧ s'.t = Txt.join "\n" ls ∧ progM s'.t = true := by
  unfold withM at h
  split at h
  · rename_i c
    cases h
    exact ⟨rfl, rfl, c⟩
  · cases h
theorem edit_ok {s s' : Stt} {w : Str} {i : Nat} {mid : List Str} {B C : Nat} (h : editM s w i mid = some s') (hs : StOk B s) (hm : (mid.map (·.length)).sum ≤ C) (hm1 : mid.length ≤ 1) : StOk (B + C + 2) s' := by
  unfold editM at h
  simp only at h
  split at h
  · cases h
  · obtain ⟨h1, h2, h3⟩ := withM_ok h
    refine ⟨by rw [h1]; exact hs.1, ?_, h3⟩
    rw [h2, join_len, l1n]
    have e1 := sum_edit (Txt.split s.t "\n") mid i (if w = "put" then 0 else 1)
    have e2 := split_len sep_nl s.t
    rw [l1n] at e2
    have hb := hs.2.1
    have e3 : ((Txt.split s.t "\n").take i ++ (mid ++ (Txt.split s.t "\n").drop (i + if w = "put" then 0 else 1))).length ≤ (Txt.split s.t "\n").length + 1 := by
      simp only [List.length_append, List.length_take, List.length_drop]
      omega
    generalize ((Txt.split s.t "\n").take i ++ (mid ++ (Txt.split s.t "\n").drop (i + if w = "put" then 0 else 1))) = L at *
    have : Txt.split s.t (Str.ofString "\n") = Txt.split s.t "\n" := rfl
    omega
theorem kd_ok {o : Option Knd} {s s' : Stt} {B : Nat} (hs : StOk B s) (ho : ∀ k, o = some k → KOk k) (h : (o.map fun k => (⟨k, s.t⟩ : Stt)) = some s') : StOk B s' := by
  cases o with
  | none => cases h
  | some k =>
    cases h
    exact ⟨ho k rfl, hs.2.1, hs.2.2⟩
theorem step_ok {s s' : Stt} {l : Str} {B : Nat} (h : stepM s l = some s') (hs : StOk B s) (hl : l.length ≤ 200) : StOk (B + 210) s' := by
  unfold stepM at h
  cases hc : cmdM l with
  | none => rw [hc] at h; cases h
  | some q =>
    obtain ⟨w, p⟩ := q
    rw [hc] at h
    have h : behM s w p = some s' := h
    obtain ⟨c1, c2⟩ := cmd_small hc
    cases p with
    | rows ls =>
      unfold behM at h
      simp only at h
      split at h
      · obtain ⟨h1, h2, h3⟩ := withM_ok h
        refine ⟨by rw [h1]; exact hs.1, ?_, h3⟩
        have := c1 ls rfl
        have hj := join_le ls l1n
        rw [h2]
        have : (Txt.join (Str.ofString "\n") ls).length = (Txt.join "\n" ls).length := rfl
        omega
      · cases h
    | flat ls =>
      unfold behM at h
      simp only at h
      split at h
      · split at h
        · exact (edit_ok (C := 0) h hs (by simp) (by simp)).mono (by omega)
        · cases h
      · split at h
        · split at h
          · rename_i i x
            exact (edit_ok (C := 200) h hs (by have := c2 _ _ rfl; simp; omega) (by simp)).mono (by omega)
          · cases h
        · split at h
          · exact (kd_ok hs (fun k e => kindM_ok e) h).mono (by omega)
          · split at h
            · split at h
              · exact (kd_ok hs (fun k e => kindM_ok e) h).mono (by omega)
              · cases h
            · split at h
              · exact (kd_ok hs (fun k e => kindM_ok e) h).mono (by omega)
              · cases h
theorem run_ok : ∀ {ls : List Str} {s s' : Stt} {B : Nat}, runM s ls = some s' → StOk B s → (∀ l ∈ ls, l.length ≤ 200) → StOk (B + 210 * ls.length) s'
  | [], s, s', B, h, hs, _ => by
    have : s = s' := Option.some.inj h
    exact this ▸ hs
  | l :: r, s, s', B, h, hs, hl => by
    have h : (stepM s l).bind (fun q => runM q r) = some s' := h
    cases hq : stepM s l with
    | none => rw [hq] at h; cases h
    | some q =>
      rw [hq] at h
      have h1 := run_ok (B := B + 210) (show runM q r = some s' from h) (step_ok hq hs (hl l (by simp))) fun x hx => hl x (by simp [hx])
      exact h1.mono (by simp only [List.length_cons]; omega)
theorem cur_snoc {s0 : Stt} {md : List Ent} {e : Ent} : cur s0 (md ++ [e]) = e.1 := by
  unfold cur
  rw [List.getLast?_append]
  rfl
theorem cur_nil {s0 : Stt} : cur s0 [] = s0 := rfl
/-- a session that was told these rows, one by one -/
structure Rn (B : Nat) (s0 : Stt) (md : List Ent) (ls : List Str) : Prop where
  run : runM s0 ls = some (cur s0 md)
  dn : dn md = ls
  len : md.length = ls.length
  ok : StOk (B + 210 * ls.length) (cur s0 md)
  ts : ∀ e ∈ md, e.1.t.length ≤ 50000
theorem Rn.nil {B : Nat} {s0 : Stt} (h : StOk B s0) : Rn B s0 [] [] := ⟨rfl, rfl, rfl, h, fun _ h => nomatch h⟩
theorem Rn.snoc {B : Nat} {s0 s : Stt} {md : List Ent} {ls : List Str} {l : Str} (h : Rn B s0 md ls) (hl : l.length ≤ 200) (hs : stepM (cur s0 md) l = some s) (hb : B + 210 * (ls.length + 1) ≤ 50000) : Rn B s0 (md ++ [(s, [l])]) (ls ++ [l]) := by
  have ok := step_ok hs h.ok hl
  have e : B + 210 * ls.length + 210 = B + 210 * (ls ++ [l]).length := by rw [List.length_append]; simp; omega
  rw [e] at ok
  refine ⟨?_, ?_, by rw [List.length_append, List.length_append, h.len]; rfl, by rw [cur_snoc]; exact ok, fun x hx => ?_⟩
  · rw [runM_app, h.run, cur_snoc]
    show (stepM (cur s0 md) l).bind some = _
    rw [hs]; rfl
  · unfold L2.K9.dn
    rw [List.flatMap_append]
    have := h.dn
    unfold L2.K9.dn at this
    rw [this]; simp
  · rcases List.mem_append.mp hx with hx | hx
    · exact h.ts x hx
    · have : x = (s, [l]) := by simpa using hx
      subst this
      have := ok.2.1
      rw [List.length_append] at this
      simp at this
      show s.t.length ≤ 50000
      omega
theorem Rn.say {B : Nat} {s0 : Stt} {md : List Ent} {ls : List Str} {l : Str} (h : Rn B s0 md ls) (hc : Chg l) (hl : l.length ≤ 200) (hb : B + 210 * (ls.length + 1) ≤ 50000) :
    Chg l ∧ l.length ≤ 40000 ∧ KOk (cur s0 md).k ∧ (cur s0 md).t.length ≤ 50000 ∧ ∀ s, stepM (cur s0 md) l = some s → KOk s.k ∧ s.t.length ≤ 50000 := by
  refine ⟨hc, by omega, h.ok.1, by have := h.ok.2.1; omega, fun s hs => ?_⟩
  have ok := step_ok hs h.ok hl
  exact ⟨ok.1, by have := ok.2.1; omega⟩
theorem say_chg {s0 : Stt} {md un : List Ent} {l : Str} (hc : Chg l) : sayM s0 md un l = (stepM (cur s0 md) l).map fun s => (md ++ [(s, [l])], []) := by
  unfold sayM
  rw [if_neg (chg_ne hc).1, if_neg (chg_ne hc).2]
/-- the next row of a run that comes through -/
theorem run_next {s0 s sE : Stt} {ls : List Str} {i : Nat} (hi : i < ls.length) (h : runM s0 ls = some sE) (hr : runM s0 (ls.take i) = some s) : ∃ s', stepM s ls[i] = some s' ∧ runM s' (ls.drop (i + 1)) = some sE := by
  have ecs : ls = ls.take i ++ (ls[i] :: ls.drop (i + 1)) := by
    rw [← List.drop_eq_getElem_cons hi, List.take_append_drop]
  rw [ecs, runM_app, hr] at h
  have h : (stepM s ls[i]).bind (fun q => runM q (ls.drop (i + 1))) = some sE := h
  cases hq : stepM s ls[i] with
  | none => rw [hq] at h; cases h
  | some q =>
    rw [hq] at h
    exact ⟨q, rfl, h⟩
theorem Rn.rows {B : Nat} {s0 : Stt} {md : List Ent} {ls : List Str} (h : Rn B s0 md ls) : progM (cur s0 md).t = true := h.ok.2.2
/-- many changes: the kinds in between -/
def ap78 (i : Nat) : Str := "apart " ++ Str.ofString (toString ((2000 + i : Nat) : Int))
def mo78 (i : Nat) : Str := "most " ++ Str.ofString (toString ((i % 4 : Nat) : Int))
theorem cmd_ap : ∀ i : Fin 78, cmdM (ap78 i.val) = some (("apart" : Str), Pts.flat [.int ((2000 + i.val : Nat) : Int)]) := by decide +kernel
theorem cmd_mo : ∀ i : Fin 4, cmdM (mo78 i.val) = some (("most" : Str), Pts.flat [.int ((i.val : Nat) : Int)]) := by decide +kernel
end L2.K9
set_option maxHeartbeats 4000000
/-! sessions in the heap, side by side -/
namespace L2.K9
open PySem PySem.Spec PyProof.Rows He
theorem op_neD_K {X : Cx} {K : PySem.W.Frag} (h : X.K = K) (hu : X.A.units + 64 < cLine) : OpR X (compareOp .NotEq) (rNeD K) := h ▸ op_neD hu
theorem say_undo {s0 : Stt} {md un : List Ent} {e : Ent} : sayM s0 (md ++ [e]) un "undo" = some (md, un ++ [e]) := by
  unfold sayM
  rw [if_pos rfl, List.getLast?_append, List.dropLast_concat]
  rfl
theorem say_redo {s0 : Stt} {md un : List Ent} {e : Ent} : sayM s0 md (un ++ [e]) "redo" = some (md ++ [e], un) := by
  unfold sayM
  rw [if_neg (by decide +kernel), if_pos rfl, List.getLast?_append, List.dropLast_concat]
  rfl
theorem say_undo0 {s0 : Stt} {un : List Ent} : sayM s0 [] un "undo" = none := rfl
theorem say_redo0 {s0 : Stt} {md : List Ent} : sayM s0 md [] "redo" = none := by
  unfold sayM
  rw [if_neg (by decide +kernel), if_pos rfl]
  rfl
theorem ChgL.chain {a m u u' : Addr} {H H1 H2 : Hp} (c : ChgL [a, m, u] H H1) (hu : u' = u ∨ H u' = none) (c2 : ChgL [a, m, u'] H1 H2) : ChgL [a, m, u] H H2 := fun b o hb e => by
  refine c2 b o ?_ (c b o hb e)
  simp only [List.mem_cons, List.not_mem_nil, or_false, not_or] at hb ⊢
  refine ⟨hb.1, hb.2.1, fun z => ?_⟩
  rcases hu with rfl | hu
  · exact hb.2.2 z
  · rw [← z, e] at hu; cases hu
def DIt (K : PySem.W.Frag) : Eqv := fun x y H => DIns (ga K "Kind") (KdEq K) x y H ∨ DList DFlat x y H
theorem mon_it {K : PySem.W.Frag} : Mon (DIt K) := Mon.or (mon_ins fun _ _ _ _ e ⟨k, h1, h2⟩ => ⟨k, h1.same e, h2.same e⟩) (mon_list mon_flat)
section
variable {P : Program} {w : World} {K : PySem.W.Frag} {mg : Str → Option Value} {base : Heap}
theorem fresh_back {H1 H' : Hp} {a m u u' u2 : Addr} {s0 : Stt} {md un : List Ent} (hs : SeAt K H' a m u' s0 md un) (c : ChgL [a, m, u] H1 H') (h : H' u2 = none) : u2 = u ∨ H1 u2 = none := by
  by_cases e : u2 = u
  · exact .inl e
  · right
    cases e1 : H1 u2 with
    | none => rfl
    | some o =>
      obtain ⟨⟨_, _, h1, _⟩, ⟨_, h3, _⟩, _, _⟩ := hs
      have := c u2 o (by
        simp only [List.mem_cons, List.not_mem_nil, or_false, not_or]
        exact ⟨Ne.symm (ne_of_none h1 h), Ne.symm (ne_of_none h3 h), e⟩) e1
      rw [h] at this
      cases this
end
section
variable {w : World} {K : PySem.W.Frag} {mg : Str → Option Value} {H H' H1 H2 : Hp} {a m u u' u'' r x : Addr} {s0 s : Stt} {md un md' un' : List Ent} {o : HO} {L : List Addr}
theorem ChgL.at (c : ChgL L H H') (n : x ∉ L) (e : H x = some o) : H' x = some o := c x o n e
theorem n3 (h1 : x ≠ a) (h2 : x ≠ m) (h3 : x ≠ u) : x ∉ [a, m, u] := by
  simp only [List.mem_cons, List.not_mem_nil, or_false, not_or]
  exact ⟨h1, h2, h3⟩
theorem SeAt.stood (h : SeAt K H a m u s0 md un) : (∃ o, H a = some o) ∧ (∃ o, H m = some o) ∧ ∃ o, H u = some o := by
  obtain ⟨⟨_, _, h1, _⟩, ⟨_, h3, _⟩, ⟨_, h5, _⟩, _⟩ := h
  exact ⟨⟨_, h1⟩, ⟨_, h3⟩, ⟨_, h5⟩⟩
theorem Hp_ne (e : H x = some o) (n : H a = none) : x ≠ a := ne_of_none e n
/-- what stood ahead is apart from what is new -/
theorem apart3 (e : H x = some o) (n1 : H a = none) (n2 : H m = none) (n4 : H u = none) : x ∉ [a, m, u] := n3 (ne_of_none e n1) (ne_of_none e n2) (ne_of_none e n4)
theorem SeAt.far (g : GT w K mg) (h : SeAt K H a m u s0 md un) (c : ChgL L H H') (i : SameI K H H') (na : a ∉ L) (nm : m ∉ L) (nu : u ∉ L) : SeAt K H' a m u s0 md un := by
  obtain ⟨⟨dx, o, h1, h2⟩, ⟨ts, h3, h4⟩, ⟨us, h5, h6⟩, h7⟩ := h
  exact ⟨⟨dx, o, c _ _ na h1, h2.i g i⟩, ⟨ts, c _ _ nm h3, h4.i g i⟩, ⟨us, c _ _ nu h5, h6.i g i⟩, h7⟩
theorem strs_im {z : Str} : ImO K (.lst ((Txt.split z "\n").map V.str)) := by
  cases e : Txt.split z "\n" with
  | nil => exact absurd e (split_ne sep_nl z)
  | cons _ _ => exact trivial
theorem LsAt.same (h : LsAt K H r s) (e : Same H H') : LsAt K H' r s := by
  obtain ⟨kr, tr, h1, h2, h3⟩ := h
  exact ⟨kr, tr, e _ _ h1, h2.same e, e _ _ h3⟩
theorem LsAt.far (g : GT w K mg) (h : LsAt K H r s) (c : ChgL L H H') (i : SameI K H H') (n : r ∉ L) : LsAt K H' r s := by
  obtain ⟨kr, tr, h1, h2, h3⟩ := h
  exact ⟨kr, tr, c _ _ n h1, h2.i g i, i _ _ strs_im h3⟩
theorem ls_apart (h : LsAt K H r s) (hs : SeAt K H a m u s0 md un) : r ∉ [a, m, u] := by
  obtain ⟨kr, tr, h1, ⟨_, _, h2, _⟩, _⟩ := h
  obtain ⟨⟨_, _, g1, _⟩, ⟨ts, g3, g4⟩, ⟨us, g5, g6⟩, _⟩ := hs
  have no : ∀ (ts : List Addr) (es : List Ent), Ents K H ts es → ([.ref kr, .ref tr] : List V) = ts.map V.ref → False := fun ts es he e => by
    match ts, es, he, e with
    | t :: ts, e1 :: es, he, e =>
      have e : V.ref kr = V.ref t := (List.cons.inj e).1
      cases e
      obtain ⟨_, _, q, _⟩ := he.1
      rw [h2] at q
      cases q
  refine n3 (fun z => ?_) (fun z => ?_) (fun z => ?_)
  · rw [z, g1] at h1; cases h1
  · rw [z, g3] at h1; exact no ts md g4 (HO.lst.inj (Option.some.inj h1)).symm
  · rw [z, g5] at h1; exact no us un g6 (HO.lst.inj (Option.some.inj h1)).symm
/-- a session's run from a heap -/
def SRun (K : PySem.W.Frag) (H Hc : Hp) (a m u : Addr) (s0 : Stt) (md un : List Ent) : Prop := ∃ u', SeAt K Hc a m u' s0 md un ∧ ChgL [a, m, u] H Hc ∧ (u' = u ∨ H u' = none)
theorem SRun.start (h : SeAt K H a m u s0 md un) : SRun K H H a m u s0 md un := ⟨u, h, fun _ _ _ e => e, .inl rfl⟩
theorem SRun.step (hs : SeAt K H1 a m u' s0 md un) (c : ChgL [a, m, u] H H1) (hu : u' = u ∨ H u' = none) (c2 : ChgL [a, m, u'] H1 H2) (hs2 : SeAt K H2 a m u'' s0 md' un') (hu2 : u'' = u' ∨ H1 u'' = none) : SRun K H H2 a m u s0 md' un' := by
  refine ⟨u'', hs2, c.chain hu c2, ?_⟩
  rcases hu2 with rfl | hu2
  · exact hu
  · exact fresh_back hs c hu2
theorem SRun.same (g : GT w K mg) (h : SRun K H H1 a m u s0 md un) (e : Same H1 H2) : SRun K H H2 a m u s0 md un := by
  obtain ⟨u', h1, c, hu⟩ := h
  exact ⟨u', h1.same g e, c.trans (Same.chg e), hu⟩
theorem SRun.imm (h : SRun K H H1 a m u s0 md un) (h0 : SeAt K H a m u s md' un') : SameI K H H1 := by
  obtain ⟨u', h1, c, hu⟩ := h
  exact h0.imm c
theorem Same.far (s : Same H H1) (c : ChgL L H1 H2) (n : ∀ q ∈ L, H q = none) : Same H H2 := fun b o e => c b o (fun h => by have := n b h; rw [e] at this; cases this) (s b o e)
theorem mem3 {p : Addr → Prop} (h1 : p a) (h2 : p m) (h3 : p u) : ∀ q ∈ [a, m, u], p q := fun q hq => by
  simp only [List.mem_cons, List.not_mem_nil, or_false] at hq
  rcases hq with rfl | rfl | rfl <;> assumption
theorem prs_strs (l : List Str) : Prs DFlat (l.map V.str) (l.map V.str) H := ⟨rfl, fun i x y h1 h2 => by
  rw [h1] at h2
  cases h2
  rw [List.getElem?_map] at h1
  cases e : l[i]? with
  | none => rw [e] at h1; cases h1
  | some z =>
    rw [e] at h1
    cases h1
    exact ⟨rfl, rfl, by simp [eqV]⟩⟩
theorem dl_strs {b c : Addr} {l : List Str} (h1 : H b = some (.lst (l.map V.str))) (h2 : H c = some (.lst (l.map V.str))) : DList DFlat (.ref b) (.ref c) H := ⟨b, c, _, _, rfl, rfl, h1, h2, prs_strs l⟩
theorem dl_state {b c : Addr} (h1 : LsAt K H b s) (h2 : LsAt K H c s) : DList (DIt K) (.ref b) (.ref c) H := by
  obtain ⟨kr, tr, a1, a2, a3⟩ := h1
  obtain ⟨kr2, tr2, b1, b2, b3⟩ := h2
  obtain ⟨dx, jt, c1, c2⟩ := id a2
  obtain ⟨dx2, jt2, d1, d2⟩ := id b2
  exact ⟨b, c, _, _, rfl, rfl, a1, b1, Prs.cons (.inl ⟨kr, kr2, dx, dx2, _, _, rfl, rfl, c1, d1, s.k, a2, b2⟩) (Prs.cons (.inr (dl_strs a3 b3)) Prs.nil)⟩
end
end L2.K9
set_option maxHeartbeats 4000000
namespace L2.K9
open PySem PySem.Spec PyProof.Rows He
local macro_rules | `(tactic| walk_at "lf") => `(tactic| ((repeat' split) <;> first | contradiction | rfl | (simp_all; done)))
local macro_rules | `(tactic| walk_at "k9") => `(tactic| simp only [tRet, tRetN, tSeq, tNext, tAsg, gName, tDrop, tIfS, tIf, tVar, tC, tCB, tCons, tNil, tOp, tUn, tTest, tB, tAnd, tOr, tNot, tAndV, tOrV, tNotV, tChain, tCall, tMeth, tMake, tM1, tM0, tBM, tBM0, tSl, tPart, tNoPart, rI0, rI, rU, rEq, rNe, start, List.map_cons, List.map_nil, List.length_cons, List.length_nil, Nat.reduceAdd, Nat.reduceSub, List.replicate_succ, List.replicate_zero, List.cons_append, List.nil_append, List.append_nil, List.getElem?_cons_zero, List.getElem?_cons_succ, List.set_cons_zero, List.set_cons_succ, Option.some.injEq, V.int.injEq, V.bl.injEq, V.str.injEq, V.ref.injEq, exists_eq_left', exists_eq_left, and_true, true_and, exists_and_left, List.cons.injEq, len_s, cxK, cxP, cxW, exists_eq_right, exists_eq', scal_ss, scal_ii, scal_bb, scal_ns, eq_self, ite_nd, rSlS, rIxS, rIxL, rIxT, rSlL, tLc_str, tLc_list, tPar, gTup, tTup, tLst, tDGet1, wipe, List.foldl_cons, List.foldl_nil, sg_inj, and_assoc, exists_eq, decide_eq_true_eq, if_true, if_false, Bool.false_eq_true, Bool.not_true, Bool.not_false, rNeE, rEqE, iEnumk, iZips, gStar, tWGet, rNewStrs, tDIn, sDPut, tDisp, tPairs, sFld, tFld, rAppend, rPop, tFor_list, tFor_enumk, tFor_tup, tFor_or, tProp, gSub, rSetL, rCat])
section
variable {P : Program} {w : World} {K : PySem.W.Frag} {mg : Str → Option Value} {base : Heap}
theorem tLc_rng1 {g : TG} {tt : TT} {te : TE} {vs : List Nat} {ta : TA} {σ : St} {H : Hp} {Q : VK} : tLc (iRng1 ta) g tt te vs σ H Q = ta σ H fun xs H1 => ∃ j : Int, xs = [.int j] ∧ -(2 ^ 62) ≤ j ∧ j < 2 ^ 62 ∧ LJ (Itr 0 j.toNat) g tt te vs σ H1 Q := rfl
theorem wound_lj (g : GT w K mg) {H1 : Hp} {Q : VK} {a m u : Addr} {s0 : Stt} {c1 c2 c3 c4 : Option V} (F : Nat → List Ent × List Ent) {word : Str} (hw : word = "undo" ∨ word = "redo") {n : Nat} (hn : n ≤ 1000)
    (hF : ∀ i, i < n → sayM s0 (F i).1 (F i).2 word = some (F (i + 1))) (hl : ∀ i, i ≤ n → (F i).1.length ≤ 1000 ∧ (F i).2.length ≤ 1000) (h0 : SeAt K H1 a m u s0 (F 0).1 (F 0).2)
    (q : ∀ (D u' : Addr) (H : Hp), ChgL [a, m, u] H1 H → (u' = u ∨ H1 u' = none) → SeAt K H a m u' s0 (F n).1 (F n).2 → H D = some (.lst []) → H1 D = none → Q (.ref D) H) :
    LJ (Itr 0 n) (gName 4) (tTest (tOp (rNeD K) (tCall (sp__law_said K) [] E0 (tCons (tVar 0) (tCons (tC (.str word)) tNil))) (tLst (tCons (tC (.str "told")) (tCons (tLst tNil) tNil))))) (tC (.int 1)) [4] [some (V.ref a), c1, c2, c3, c4] H1 Q := by
  refine lc_gen walk_range (fun D i acc H => acc = [] ∧ ∃ u', ChgL [a, m, u] H1 H ∧ (u' = u ∨ H1 u' = none) ∧ u' ≠ D ∧ SeAt K H a m u' s0 (F i).1 (F i).2) (by omega) (fun _ _ _ _ _ => trivial) (fun D hD => ?_) (fun D i acc x H H' Qy Qn hD hi la ed ⟨eacc, u', c, hu, nuD, hs⟩ y ky kn => ?_) (fun D acc H hD ed ⟨eacc, u', c, hu, nuD, hs⟩ => ?_)
  · obtain ⟨us, h5, _⟩ := h0.us
    exact ⟨rfl, u, Same.chg (sm1 hD), .inl rfl, ne_of_none h5 hD, h0.same g (sm1 hD)⟩
  · subst eacc
    obtain ⟨eH, ex⟩ := y
    subst eH ex
    obtain ⟨l1, l2⟩ := hl i (Nat.le_of_lt hi)
    have hs2 := hF i hi
    refine ⟨rfl, ?_⟩
    walk_at "k9"
    refine ⟨a, m, u', s0, (F i).1, (F i).2, word, rfl, hs, l1, l2, .inr hw, (fun hn => by rw [hs2] at hn; cases hn), fun md' un' hm r e u2 H2 c2 hs3 hu2 er ee => ⟨by decide, fun p hp => ⟨by decide, fun p1 hp1 => ?_⟩⟩⟩
    rw [hs2] at hm
    have s12 := Same.upd (o := .lst [V.str "told", V.ref p]) (sm1 (o := .lst []) hp) hp1
    have npp : p ≠ p1 := fun z => by rw [← z, upd_same] at hp1; cases hp1
    have er2 := s12 _ _ er
    have ee2 := s12 _ _ ee
    have e1 : (upd (upd H2 p (.lst [])) p1 (.lst [V.str "told", V.ref p])) p = some (.lst []) := by rw [upd_ne npp, upd_same]
    refine ⟨.list [.str "told", .list []], .list [.str "told", .list []], .lst (.of er2) (.cons (.str _) (.cons (.lst (.of ee2) .nil) .nil)), .lst (.of upd_same) (.cons (.str _) (.cons (.lst (.of e1) .nil) .nil)), by decide +kernel, by decide +kernel, _, rfl, ?_⟩
    rw [if_neg (by decide +kernel)]
    have cD : D ∉ [a, m, u'] := by
      obtain ⟨⟨_, _, h1, _⟩, ⟨_, h3, _⟩, _, _⟩ := h0
      simp only [List.mem_cons, List.not_mem_nil, or_false, not_or]
      exact ⟨Ne.symm (ne_of_none h1 hD), Ne.symm (ne_of_none h3 hD), Ne.symm nuD⟩
    have e : F (i + 1) = (md', un') := Option.some.inj hm
    refine kn _ (s12 _ _ (c2 _ _ cD ed)) ⟨rfl, u2, (c.chain hu c2).trans (Same.chg s12), ?_, ?_, ?_⟩
    · rcases hu2 with rfl | hu2
      · exact hu
      · exact fresh_back hs c hu2
    · rcases hu2 with rfl | hu2
      · exact nuD
      · exact Ne.symm (ne_of_none ed hu2)
    · rw [e]; exact hs3.same g s12
  · subst eacc
    exact q D u' H c hu hs ed hD
/-- how far a session is undone -/
def wF (md : List Ent) (i : Nat) : List Ent × List Ent := (md.take i, (md.drop i).reverse)
theorem wF_redo {s0 : Stt} {md : List Ent} {i : Nat} (h : i < md.length) : sayM s0 (wF md i).1 (wF md i).2 "redo" = some (wF md (i + 1)) := by
  unfold wF
  have e1 : md.take (i + 1) = md.take i ++ [md[i]] := List.take_succ_eq_append_getElem h
  have e2 : md.drop i = md[i] :: md.drop (i + 1) := List.drop_eq_getElem_cons h
  show sayM s0 (md.take i) (md.drop i).reverse "redo" = some (md.take (i + 1), (md.drop (i + 1)).reverse)
  rw [e1, e2, List.reverse_cons]
  exact say_redo
theorem wF_undo {s0 : Stt} {md : List Ent} {i : Nat} (h : i < md.length) : sayM s0 (wF md (md.length - i)).1 (wF md (md.length - i)).2 "undo" = some (wF md (md.length - (i + 1))) := by
  have hj : md.length - (i + 1) < md.length := by omega
  have e0 : md.length - i = md.length - (i + 1) + 1 := by omega
  generalize md.length - (i + 1) = j at *
  rw [e0]
  unfold wF
  have e1 : md.take (j + 1) = md.take j ++ [md[j]] := List.take_succ_eq_append_getElem hj
  have e2 : md.drop j = md[j] :: md.drop (j + 1) := List.drop_eq_getElem_cons hj
  show sayM s0 (md.take (j + 1)) (md.drop (j + 1)).reverse "undo" = some (md.take j, (md.drop j).reverse)
  rw [e1, e2, List.reverse_cons]
  exact say_undo
theorem wF_top {md : List Ent} : wF md md.length = (md, []) := by unfold wF; rw [List.take_length, List.drop_length]; rfl
theorem wF_bot {md : List Ent} : wF md 0 = ([], md.reverse) := rfl
theorem wF_len {md : List Ent} {i : Nat} (h : md.length ≤ 100) : (wF md i).1.length ≤ 1000 ∧ (wF md i).2.length ≤ 1000 := by
  unfold wF
  simp only [List.length_take, List.length_reverse, List.length_drop]
  omega
theorem cur_le {s0 : Stt} {md : List Ent} (h : ∀ e ∈ md, e.1.t.length ≤ 50000) (h0 : s0.t.length ≤ 50000) : (cur s0 md).t.length ≤ 50000 := by
  rcases nil_or md with rfl | ⟨md', e, rfl⟩
  · exact h0
  · rw [cur_snoc]; exact h e (by simp)
def sp__law_wound (K : PySem.W.Frag) : Sp := fun vs H Q _ => ∃ (a m u r : Addr) (s0 : Stt) (md : List Ent), vs = [.ref a, .ref r, .int (md.length : Int)] ∧ SeAt K H a m u s0 md [] ∧ LsAt K H r s0 ∧ md.length ≤ 100 ∧ (dn md).length ≤ 1000 ∧
  (∀ e ∈ md, e.1.t.length ≤ 50000) ∧ s0.t.length ≤ 50000 ∧ ∀ H', ChgL [a, m, u] H H' → Q (.bl true) H'
theorem len__law_wound {vs : List V} {H : Hp} {Q : VK} {E : XK} (h : (sp__law_wound K) vs H Q E) : vs.length = 3 := by
  obtain ⟨_, _, _, _, _, _, rfl, _⟩ := h; rfl
theorem sc__law_wound : FnScope ["_law_session", "_law_first", "_law_many", "_law_last", "_law_lap"] ["_law_session", "_law_first", "_law_many"] (defScope s__law_wound) := ⟨rfl, rfl, rfl, by decide +kernel, rfl, by decide +kernel, by decide +kernel⟩
theorem ok__law_wound (g : GT w K mg) : DefOk P w K mg base 14 (ga K "_law_wound") ["_law_session", "_law_first", "_law_many"] (sp__law_wound K) := by
  obtain ⟨fd__law_state, F__law_state, B__law_state, K__law_state⟩ := ok__law_state (P := P) (w := w) (base := base) g
  obtain ⟨fd_Session_done, F_Session_done, B_Session_done, K_Session_done⟩ := ok_Session_done (P := P) (w := w) (base := base) g
  obtain ⟨fd__law_said, F__law_said, B__law_said, K__law_said⟩ := ok__law_said (P := P) (w := w) (base := base) g
  obtain ⟨fd_Kind___eq__, F_Kind___eq__, B_Kind___eq__, K_Kind___eq__⟩ := ok_Kind___eq__ (P := P) (w := w) (base := base) g
  obtain ⟨fd, F⟩ := g.d__law_wound
  refine ⟨fd, ?_, F.bindsN fun _ _ _ _ _ _ us hl => match us, hl with | [_, _, _], _ => rfl, F.kp⟩
  refine F.ok sc__law_wound (fun vs H Q E h => ?_) (fun cdv A outer s H vs Q E hr h => ?_)
  · exact len__law_wound h
  · obtain ⟨a, m, u, r, s0, md, rfl, hs, hr1, hml, hdl, hel, hsl, q⟩ := h
    refine ⟨_, (pss_cons (ps_set (i := 3) sc__law_wound.nd rfl (Or.inl rfl) (pe_op op_cat (pe_call F__law_state (hr.mono (by decide)) rfl g.g__law_state K__law_state B__law_state .nil pq (pa_cons (pv 0) pa_nil)) (pe_lst (pa_cons (pe_meth0 (pv 0) g.k_Session g.e_Session_done F_Session_done (hr.mono (by decide)) B_Session_done .nil pq) pa_nil))))
      (pss_cons (ps_if (pt_cmpR (op_neE hr.units0) (pe_lc (own := [("_law_lap", 4)]) (by rfl) sc__law_wound.nd (pi_range1 rfl g.f_range (pa_cons (pv 2) pa_nil)) (blkOk_by (N := ["_law_session", "_law_first", "_law_many", "_law_last", "_law_lap"]) (own := [("_law_lap", 4)]) (show blkC _ (defScope s__law_wound) _ _ = true by decide +kernel)) (fun _ _ _ _ _ => (pg_name (i := 4) sc__law_wound.nd rfl (Or.inl rfl))) (fun _ _ _ _ _ => (pts_one (pt_cmpR (op_neD_K (K := K) rfl hr.units) (pe_call F__law_said (hr.mono (by decide)) rfl g.g__law_said K__law_said B__law_said .nil passL (pa_cons (pv 0) (pa_cons pe_str pa_nil))) (pe_lst (pa_cons pe_str (pa_cons (pe_lst pa_nil) pa_nil))) (nomark _)))) (fun _ _ _ _ _ => pe_int)) (pe_lst pa_nil) (nomark _)) (pss_one (ps_ret pe_bl)) pss_nil)
      (pss_cons (ps_if (PW.pt (pw_or (pt_cmpR (op_neG mon_it (EqG.or ((eqG_ins F_Kind___eq__ g.fi_Kind___eq__ g.if_Kind___eq__ B_Kind___eq__ pqF).mono (by decide : 2 ≤ 2)) ((eqG_list mon_flat eqG_flat).mono (by decide : 1 ≤ 2))) (hr.mono (by decide))) (pe_call F__law_state (hr.mono (by decide)) rfl g.g__law_state K__law_state B__law_state .nil pq (pa_cons (pv 0) pa_nil)) (pv 1) (nomark _)) (pw_or1 (pt_cmpR (op_neD hr.units) (pe_call F__law_said (hr.mono (by decide)) rfl g.g__law_said K__law_said B__law_said .nil pq (pa_cons (pv 0) (pa_cons pe_str pa_nil))) (pe_lst (pa_cons pe_str pa_nil)) (nomark _))))) (pss_one (ps_ret pe_bl)) pss_nil)
      (pss_cons (ps_if (pt_cmpR (op_neE hr.units0) (pe_lc (own := [("_law_lap", 4)]) (by rfl) sc__law_wound.nd (pi_range1 rfl g.f_range (pa_cons (pv 2) pa_nil)) (blkOk_by (N := ["_law_session", "_law_first", "_law_many", "_law_last", "_law_lap"]) (own := [("_law_lap", 4)]) (show blkC _ (defScope s__law_wound) _ _ = true by decide +kernel)) (fun _ _ _ _ _ => (pg_name (i := 4) sc__law_wound.nd rfl (Or.inl rfl))) (fun _ _ _ _ _ => (pts_one (pt_cmpR (op_neD_K (K := K) rfl hr.units) (pe_call F__law_said (hr.mono (by decide)) rfl g.g__law_said K__law_said B__law_said .nil passL (pa_cons (pv 0) (pa_cons pe_str pa_nil))) (pe_lst (pa_cons pe_str (pa_cons (pe_lst pa_nil) pa_nil))) (nomark _)))) (fun _ _ _ _ _ => pe_int)) (pe_lst pa_nil) (nomark _)) (pss_one (ps_ret pe_bl)) pss_nil)
      (pss_one (ps_ret (pe_and (pe_cmpR (op_eqG (rcG_list mon_it (EqG.or ((eqG_ins F_Kind___eq__ g.fi_Kind___eq__ g.if_Kind___eq__ B_Kind___eq__ pqF).mono (by decide : 2 ≤ 2)) ((eqG_list mon_flat eqG_flat).mono (by decide : 1 ≤ 2)))) (hr.mono (by decide))) (pe_op op_cat (pe_call F__law_state (hr.mono (by decide)) rfl g.g__law_state K__law_state B__law_state .nil pq (pa_cons (pv 0) pa_nil)) (pe_lst (pa_cons (pe_meth0 (pv 0) g.k_Session g.e_Session_done F_Session_done (hr.mono (by decide)) B_Session_done .nil pq) pa_nil))) (pv 3) (nomark _)) (pe_one (pe_cmpR (op_eqD hr.units) (pe_call F__law_said (hr.mono (by decide)) rfl g.g__law_said K__law_said B__law_said .nil pq (pa_cons (pv 0) (pa_cons pe_str pa_nil))) (pe_lst (pa_cons pe_str pa_nil)) (nomark _)))))))))), ?_⟩
    walk_at "k9"
    obtain ⟨⟨dx, o, h1, h2⟩, ⟨ts, h3, h4⟩, ⟨us, h5, h6⟩, hne⟩ := id hs
    have hnm : m ≠ a := fun z => by rw [z, h1] at h3; cases h3
    have hnu : u ≠ a := fun z => by rw [z, h1] at h5; cases h5
    refine ⟨a, m, u, s0, md, [], rfl, hs, by have := cur_le hel hsl; omega, fun l0 H2 s2 hl0 hL0 => ?_⟩
    have hs2 := hs.same g s2
    have h1' := s2 _ _ h1
    refine ⟨dx, _, h1', len3 _ (by decide +kernel) (by decide +kernel) (by decide +kernel), a, m, u, s0, md, [], rfl, hs2, by omega, hdl, fun d0 H3 s3 hd0 hD0 => ⟨by decide, fun p hp => ?_⟩⟩
    obtain ⟨kr, tr, e1, e2, e3⟩ := hL0
    refine ⟨l0, rfl, _, sm1 hp _ _ (s3 _ _ e1), _, upd_same, by simp [sizeLine_eq], fun p1 hp1 => ?_⟩
    rw [tLc_rng1]
    walk_at "k9"
    have s4 := Same.upd (o := .lst [V.ref kr, V.ref tr, V.ref d0]) (sm1 (o := .lst [V.ref d0]) hp) hp1
    have sAll := (s2.trans s3).trans s4
    have ep1 : (upd (upd H3 p (.lst [V.ref d0])) p1 (.lst [V.ref kr, V.ref tr, V.ref d0])) p1 = some (.lst [V.ref kr, V.ref tr, V.ref d0]) := upd_same
    have ekr := (e2.same s3).same s4
    have etr := s4 _ _ (s3 _ _ e3)
    have ed0 := s4 _ _ hD0
    have hsA := hs.same g sAll
    generalize upd (upd H3 p (.lst [V.ref d0])) p1 (.lst [V.ref kr, V.ref tr, V.ref d0]) = H4 at *
    refine ⟨by omega, by omega, ?_⟩
    rw [Int.toNat_natCast]
    have hrA := hr1.same sAll
    have rn := ls_apart hrA hsA
    have ad0 : d0 ∉ [a, m, u] := by
      obtain ⟨⟨_, g1⟩, ⟨_, g2⟩, ⟨_, g3⟩⟩ := hs2.stood
      exact n3 (Ne.symm (ne_of_none g1 hd0)) (Ne.symm (ne_of_none g2 hd0)) (Ne.symm (ne_of_none g3 hd0))
    have ap1 : p1 ∉ [a, m, u] := by
      obtain ⟨⟨_, g1⟩, ⟨_, g2⟩, ⟨_, g3⟩⟩ := ((hs.same g (s2.trans s3)).same g (sm1 (o := .lst [V.ref d0]) hp)).stood
      exact n3 (Ne.symm (ne_of_none g1 hp1)) (Ne.symm (ne_of_none g2 hp1)) (Ne.symm (ne_of_none g3 hp1))
    refine wound_lj g (fun i => wF md (md.length - i)) (.inl rfl) (by omega) (fun i hi => wF_undo hi) (fun i _ => wF_len hml) (by rw [Nat.sub_zero, wF_top]; exact hsA) fun D u1 H5 c5 hu1 hs5 eD hD => ?_
    rw [Nat.sub_self, wF_bot] at hs5
    refine ⟨Nat.zero_le _, fun p2 hp2 => ⟨D, rfl, _, (sm1 hp2).seq (.of eD), newL, ?_⟩⟩
    rw [if_pos rfl]
    have i5 := hsA.imm c5
    have hs5' := hs5.same g (sm1 (o := .lst []) hp2)
    have hr5 := (hrA.far g c5 i5 rn).same (sm1 (o := .lst []) hp2)
    refine ⟨a, m, u1, s0, [], md.reverse, rfl, hs5', by rw [cur_nil]; omega, fun r1 H6 s6 hr1n hL1 => ?_⟩
    refine ⟨dl_state hL1 (hr5.same s6), fun H7 e7 => ⟨_, rfl, ?_⟩⟩
    rw [if_neg (by decide)]
    have s7 := s6.trans e7
    refine ⟨a, m, u1, s0, [], md.reverse, "undo", rfl, hs5'.same g s7, Nat.zero_le _, by rw [List.length_reverse]; omega, .inr (.inl rfl), fun hn r2 H8 s8 hr2 hL2 => ?_, fun md' un' hm => by rw [say_undo0] at hm; cases hm⟩
    refine ⟨by decide, fun p3 hp3 => ⟨.list [.str "refused"], .list [.str "refused"], .lst (.of (sm1 hp3 _ _ hL2)) (.cons (.str _) .nil), .lst (.of upd_same) (.cons (.str _) .nil), by decide +kernel, by decide +kernel, _, rfl, ?_⟩⟩
    rw [if_neg (by decide +kernel)]
    rw [tLc_rng1]
    walk_at "k9"
    have s9 := Same.upd (o := .lst [V.str "refused"]) ((s7.trans s8)) hp3
    have hs9 := hs5'.same g s9
    have c9 : ChgL [a, m, u] H4 (upd H8 p3 (.lst [V.str "refused"])) := (c5.trans (Same.chg (sm1 (o := .lst []) hp2))).trans (Same.chg s9)
    generalize upd H8 p3 (.lst [V.str (Str.ofString "refused")]) = H9 at *
    refine ⟨by omega, by omega, ?_⟩
    rw [Int.toNat_natCast]
    refine wound_lj g (fun i => wF md i) (.inr rfl) (by omega) (fun i hi => wF_redo hi) (fun i _ => wF_len hml) (by rw [wF_bot]; exact hs9) fun D2 u2 H10 c10 hu2 hs10 eD2 hD2 => ?_
    rw [wF_top] at hs10
    refine ⟨Nat.zero_le _, fun p4 hp4 => ⟨D2, rfl, _, (sm1 hp4).seq (.of eD2), newL, ?_⟩⟩
    rw [if_pos rfl]
    have cA := c9.chain hu1 c10
    have iA := hsA.imm cA
    have hs11 := hs10.same g (sm1 (o := .lst []) hp4)
    refine ⟨a, m, u2, s0, md, [], rfl, hs11, by have := cur_le hel hsl; omega, fun r3 H12 s12 hr3 hL3 => ?_⟩
    have hs12 := hs11.same g s12
    obtain ⟨dx2, o2, h12, _⟩ := hs12.ex
    refine ⟨dx2, _, h12, len3 _ (by decide +kernel) (by decide +kernel) (by decide +kernel), a, m, u2, s0, md, [], rfl, hs12, by omega, hdl, fun d1 H13 s13 hd1 hD1 => ⟨by decide, fun p5 hp5 => ?_⟩⟩
    obtain ⟨kr3, tr3, f1, f2, f3⟩ := hL3
    refine ⟨r3, rfl, _, sm1 hp5 _ _ (s13 _ _ f1), _, upd_same, by simp [sizeLine_eq], fun p6 hp6 => ?_⟩
    have s14 : Same H12 (upd (upd H13 p5 (.lst [V.ref d1])) p6 (.lst ([V.ref kr3, V.ref tr3] ++ [V.ref d1]))) := Same.upd (Same.upd s13 hp5) hp6
    have c14 := (cA.trans (Same.chg (sm1 (o := .lst []) hp4))).trans (Same.chg (s12.trans s14))
    have i14 := hsA.imm c14
    have hk0 := ekr.i g i14
    have hk3 := f2.same s14
    obtain ⟨dk, jk, k1, k2⟩ := id hk0
    obtain ⟨dk3, jk3, k3, k4⟩ := id hk3
    refine ⟨⟨p6, p1, _, _, rfl, rfl, upd_same, c14 _ _ ap1 ep1, Prs.cons (.inl ⟨kr3, kr, _, _, _, _, rfl, rfl, k3, k1, (cur s0 md).k, hk3, hk0⟩) (Prs.cons (.inr (dl_strs (s14 _ _ f3) (i14 _ _ strs_im etr))) (Prs.cons (.inr (dl_strs (Same.upd (sm1 hp5) hp6 _ _ hD1) (c14 _ _ ad0 ed0))) Prs.nil))⟩, fun H15 e15 => ⟨_, rfl, ?_⟩⟩
    rw [if_pos rfl]
    refine ⟨a, m, u2, s0, md, [], "redo", rfl, (hs12.same g s14).same g e15, by omega, Nat.zero_le _, .inr (.inr rfl), fun hn r4 H16 s16 hr4 hL4 => ?_, fun md' un' hm => by rw [say_redo0] at hm; cases hm⟩
    refine ⟨by decide, fun p7 hp7 => ⟨.list [.str "refused"], .list [.str "refused"], .lst (.of (sm1 hp7 _ _ hL4)) (.cons (.str _) .nil), .lst (.of upd_same) (.cons (.str _) .nil), by decide +kernel, by decide +kernel, ?_⟩⟩
    rw [show PyData.eqv (.list [.str (Str.ofString "refused")]) (.list [.str (Str.ofString "refused")]) = true by decide +kernel]
    exact q _ ((Same.chg sAll).trans (c14.trans (Same.chg (Same.upd (Same.trans e15 s16) hp7))))
end
end L2.K9
set_option maxHeartbeats 4000000
namespace L2.K9
open PySem PySem.Spec PyProof.Rows He
local macro_rules | `(tactic| walk_at "lf") => `(tactic| ((repeat' split) <;> first | contradiction | rfl | (simp_all; done)))
local macro_rules | `(tactic| walk_at "k9") => `(tactic| simp only [tRet, tRetN, tSeq, tNext, tAsg, gName, tDrop, tIfS, tIf, tVar, tC, tCB, tCons, tNil, tOp, tUn, tTest, tB, tAnd, tOr, tNot, tAndV, tOrV, tNotV, tChain, tCall, tMeth, tMake, tM1, tM0, tBM, tBM0, tSl, tPart, tNoPart, rI0, rI, rU, rEq, rNe, start, List.map_cons, List.map_nil, List.length_cons, List.length_nil, Nat.reduceAdd, Nat.reduceSub, List.replicate_succ, List.replicate_zero, List.cons_append, List.nil_append, List.append_nil, List.getElem?_cons_zero, List.getElem?_cons_succ, List.set_cons_zero, List.set_cons_succ, Option.some.injEq, V.int.injEq, V.bl.injEq, V.str.injEq, V.ref.injEq, exists_eq_left', exists_eq_left, and_true, true_and, exists_and_left, List.cons.injEq, len_s, cxK, cxP, cxW, exists_eq_right, exists_eq', scal_ss, scal_ii, scal_bb, scal_ns, eq_self, ite_nd, rSlS, rIxS, rIxL, rIxT, rSlL, tLc_str, tLc_list, tPar, gTup, tTup, tLst, tDGet1, wipe, List.foldl_cons, List.foldl_nil, sg_inj, and_assoc, exists_eq, decide_eq_true_eq, if_true, if_false, Bool.false_eq_true, Bool.not_true, Bool.not_false, rNeE, rEqE, iEnumk, iZips, gStar, tWGet, rNewStrs, tDIn, sDPut, tDisp, tPairs, sFld, tFld, rAppend, rPop, tFor_list, tFor_enumk, tFor_tup, tFor_or, tProp, gSub, rSetL, rCat])
section
variable {w : World} {K : PySem.W.Frag} {mg : Str → Option Value} {H H' H1 H2 : Hp} {a m u u' u'' r x : Addr} {s0 s : Stt} {md un md' un' : List Ent} {o : HO} {L : List Addr}
theorem SRun.at (h : SRun K H H1 a m u s0 md un) (n : x ∉ [a, m, u]) (e : H x = some o) : H1 x = some o := by
  obtain ⟨_, _, c, _⟩ := h
  exact c x o n e
theorem SeAt.apart (h : SeAt K H a m u s0 md un) (n : H x = none) : x ∉ [a, m, u] := by
  obtain ⟨⟨_, g1⟩, ⟨_, g2⟩, ⟨_, g3⟩⟩ := h.stood
  exact n3 (Ne.symm (ne_of_none g1 n)) (Ne.symm (ne_of_none g2 n)) (Ne.symm (ne_of_none g3 n))
end
section
variable {P : Program} {w : World} {K : PySem.W.Frag} {mg : Str → Option Value} {base : Heap}
def sp__law_replayed (K : PySem.W.Frag) : Sp := fun vs H Q _ => ∃ (r a m u ln hf hr : Addr) (j : Int) (s0 sh : Stt) (md : List Ent) (lines : List Str), vs = [.ref r, .ref a, .ref ln, .ref hf] ∧ LsAt K H r s0 ∧ SeAt K H a m u s0 md [] ∧
  H ln = some (.lst (lines.map V.str)) ∧ H hf = some (.tup [.ref hr, .int j]) ∧ LsAt K H hr sh ∧ 0 ≤ j ∧ lines.length ≤ 10 ∧ (∀ l ∈ lines, Chg l ∧ l.length ≤ 200) ∧ Rn 100 s0 md lines ∧ StOk 100 s0 ∧ StOk 3000 sh ∧
  runM sh (lines.drop j.toNat) = some (cur s0 md) ∧ ∀ H', Same H H' → Q (.bl true) H'
theorem len__law_replayed {vs : List V} {H : Hp} {Q : VK} {E : XK} (h : (sp__law_replayed K) vs H Q E) : vs.length = 4 := by
  obtain ⟨_, _, _, _, _, _, _, _, _, _, _, _, rfl, _⟩ := h; rfl
theorem sc__law_replayed : FnScope ["_law_first", "_law_session", "_law_lines", "_law_half", "_law_line", "_law_other", "_law_two", "_law_three", "_law_four"] ["_law_first", "_law_session", "_law_lines", "_law_half"] (defScope s__law_replayed) := ⟨rfl, rfl, rfl, by decide +kernel, rfl, by decide +kernel, by decide +kernel⟩
theorem ok__law_replayed (g : GT w K mg) : DefOk P w K mg base 15 (ga K "_law_replayed") ["_law_first", "_law_session", "_law_lines", "_law_half"] (sp__law_replayed K) := by
  obtain ⟨fd__law_made, F__law_made, B__law_made, K__law_made⟩ := ok__law_made (P := P) (w := w) (base := base) g
  obtain ⟨fd_Session_say, F_Session_say, B_Session_say, K_Session_say⟩ := ok_Session_say (P := P) (w := w) (base := base) g
  obtain ⟨fd_Session_say_all, F_Session_say_all, B_Session_say_all, K_Session_say_all⟩ := ok_Session_say_all (P := P) (w := w) (base := base) g
  obtain ⟨fd__law_state, F__law_state, B__law_state, K__law_state⟩ := ok__law_state (P := P) (w := w) (base := base) g
  obtain ⟨fd_Session_done, F_Session_done, B_Session_done, K_Session_done⟩ := ok_Session_done (P := P) (w := w) (base := base) g
  obtain ⟨fd__law_wound, F__law_wound, B__law_wound, K__law_wound⟩ := ok__law_wound (P := P) (w := w) (base := base) g
  obtain ⟨fd_Kind___eq__, F_Kind___eq__, B_Kind___eq__, K_Kind___eq__⟩ := ok_Kind___eq__ (P := P) (w := w) (base := base) g
  obtain ⟨fd, F⟩ := g.d__law_replayed
  refine ⟨fd, ?_, F.bindsN fun _ _ _ _ _ _ us hl => match us, hl with | [_, _, _, _], _ => rfl, F.kp⟩
  refine F.ok sc__law_replayed (fun vs H Q E h => ?_) (fun cdv A outer s H vs Q E hr h => ?_)
  · exact len__law_replayed h
  · obtain ⟨r, a, m, u, ln, hf, rh, j, s0, sh, md, lines, rfl, hr0, hs, hln, hhf, hh, hj, hll, hlc, rn, ok0, okh, rnh, q⟩ := h
    refine ⟨_, (pss_cons (ps_par3 (i := 6) (j := 7) (l := 8) (by rfl) sc__law_replayed.nd rfl rfl rfl (by decide) (by decide) (by decide) rfl rfl rfl (pa_cons (pe_call F__law_made (hr.mono (by decide)) rfl g.g__law_made K__law_made B__law_made .nil pq (pa_cons (pv 0) pa_nil)) (pa_cons (pe_call F__law_made (hr.mono (by decide)) rfl g.g__law_made K__law_made B__law_made .nil pq (pa_cons (pv 0) pa_nil)) (pa_cons (pe_call F__law_made (hr.mono (by decide)) rfl g.g__law_made K__law_made B__law_made .nil pq (pa_cons (pe_ix ix_tup (pv 3) pe_int (fun _ _ => rfl)) pa_nil)) pa_nil))) (by rfl))
      (pss_cons (ps_for po_def rfl (pi_list (pv 2)) (pg_name (i := 4) sc__law_replayed.nd rfl (Or.inl rfl)) (pss_one (ps_expr (pe_meth (pv 6) g.k_Session g.e_Session_say F_Session_say (hr.mono (by decide)) B_Session_say .nil pq (pa_cons (pv 4) pa_nil)))))
      (pss_cons (ps_expr (pe_meth (pv 7) g.k_Session g.e_Session_say_all F_Session_say_all (hr.mono (by decide)) B_Session_say_all .nil pq (pa_cons (pv 2) pa_nil)))
      (pss_cons (ps_for po_def rfl (pi_list (pe_slice sl_list (pv 2) (po_some (pe_ix ix_tup (pv 3) pe_int (fun _ _ => rfl))) po_none)) (pg_name (i := 4) sc__law_replayed.nd rfl (Or.inl rfl)) (pss_one (ps_expr (pe_meth (pv 8) g.k_Session g.e_Session_say F_Session_say (hr.mono (by decide)) B_Session_say .nil pq (pa_cons (pv 4) pa_nil)))))
      (pss_cons (ps_for po_def rfl (pi_list (pe_lst (pa_cons (pv 6) (pa_cons (pv 7) (pa_cons (pv 8) pa_nil))))) (pg_name (i := 5) sc__law_replayed.nd rfl (Or.inl rfl)) (pss_one (ps_if (pt_cmpR (op_neG mon_it (EqG.or ((eqG_ins F_Kind___eq__ g.fi_Kind___eq__ g.if_Kind___eq__ B_Kind___eq__ pqF).mono (by decide : 2 ≤ 2)) ((eqG_list mon_flat eqG_flat).mono (by decide : 1 ≤ 2))) (hr.mono (by decide))) (pe_call F__law_state (hr.mono (by decide)) rfl g.g__law_state K__law_state B__law_state .nil pq (pa_cons (pv 5) pa_nil)) (pe_call F__law_state (hr.mono (by decide)) rfl g.g__law_state K__law_state B__law_state .nil pq (pa_cons (pv 1) pa_nil)) (nomark _)) (pss_one (ps_ret pe_bl)) pss_nil)))
      (pss_cons (ps_if (PW.pt (pw_or (pt_cmpR (op_neG mon_flat eqG_flat (hr.mono (by decide))) (pe_meth0 (pv 6) g.k_Session g.e_Session_done F_Session_done (hr.mono (by decide)) B_Session_done .nil pq) (pv 2) (nomark _)) (pw_or (pt_cmpR (op_neG mon_flat eqG_flat (hr.mono (by decide))) (pe_meth0 (pv 7) g.k_Session g.e_Session_done F_Session_done (hr.mono (by decide)) B_Session_done .nil pq) (pv 2) (nomark _)) (pw_or1 (pt_cmpR (op_neG mon_flat eqG_flat (hr.mono (by decide))) (pe_meth0 (pv 8) g.k_Session g.e_Session_done F_Session_done (hr.mono (by decide)) B_Session_done .nil pq) (pe_slice sl_list (pv 2) (po_some (pe_ix ix_tup (pv 3) pe_int (fun _ _ => rfl))) po_none) (nomark _)))))) (pss_one (ps_ret pe_bl)) pss_nil)
      (pss_one (ps_ret (pe_and (pe_call F__law_wound (hr.mono (by decide)) rfl g.g__law_wound K__law_wound B__law_wound .nil pq (pa_cons (pv 6) (pa_cons (pv 0) (pa_cons (pe_callB call_len (by rfl) g.f_len (by decide +kernel) (pa_cons (pv 2) pa_nil)) pa_nil)))) (pe_one (pe_call F__law_wound (hr.mono (by decide)) rfl g.g__law_wound K__law_wound B__law_wound .nil pq (pa_cons (pv 7) (pa_cons (pv 0) (pa_cons (pe_callTy call_int1 (by rfl) g.f_int (by decide +kernel) (pa_cons (pe_cmpR (op_neE hr.units0) (pv 2) (pe_lst pa_nil) (nomark _)) pa_nil)) pa_nil)))))))))))))), ?_⟩
    walk_at "k9"
    simp only [tPar3]
    walk_at "k9"
    refine ⟨r, s0, rfl, hr0, by have := ok0.2.1; omega, ok0.2.2, fun a2 m2 u2 H1 s1 hs2 na2 nm2 nu2 => ?_⟩
    refine ⟨r, s0, rfl, hr0.same s1, by have := ok0.2.1; omega, ok0.2.2, fun a3 m3 u3 H2 s2 hs3 na3 nm3 nu3 => ?_⟩
    have s12 := s1.trans s2
    refine ⟨_, .of (s12 _ _ hhf), _, at0, rh, sh, rfl, hh.same s12, by have := okh.2.1; omega, okh.2.2, fun a4 m4 u4 H3 s3 hs4 na4 nm4 nu4 => ?_⟩
    have s13 := s12.trans s3
    have h2 := (hs2.same g s2).same g s3
    have h3 := hs3.same g s3
    have eln := s13 _ _ hln
    have n1 : ∀ {x : Addr} {o : HO}, H x = some o → x ∉ [a2, m2, u2] ∧ x ∉ [a3, m3, u3] ∧ x ∉ [a4, m4, u4] := fun {x o} e =>
      ⟨apart3 e na2 nm2 nu2, apart3 (s1 _ _ e) na3 nm3 nu3, apart3 (s12 _ _ e) na4 nm4 nu4⟩
    have lnn := n1 hln
    refine ⟨⟨_, .of eln⟩, ?_⟩
    have wk : Walk (Itl K ln) (lines.map V.str).length (fun Hc => SqL K Hc ln (lines.map V.str)) (YAt (lines.map V.str)) := walk_list
    rw [List.length_map] at wk
    refine fj wk (fun i σ Hc => ∃ a4' md2, σ = [some (V.ref r), some (V.ref a), some (V.ref ln), some (V.ref hf), a4', none, some (V.ref a2), some (V.ref a3), some (V.ref a4)] ∧ SRun K H3 Hc a2 m2 u2 s0 md2 [] ∧ Rn 100 s0 md2 (lines.take i))
      ⟨none, [], rfl, .start h2, .nil ok0⟩ (fun i σ Hc hi ⟨_, _, _, c, _⟩ => .of (c.at lnn.1 eln)) (fun i v σ Hc H' hi ⟨a4', md2, eσ, hr2, rn2⟩ ⟨eH, ev⟩ => ?_) (fun σ Hc ⟨a4', md2, eσ, hr2, rn2⟩ => ?_)
    · subst eH eσ
      have ev : v = V.str lines[i] := by
        rw [List.getElem?_map, List.getElem?_eq_getElem hi] at ev
        exact (Option.some.inj ev).symm
      subst ev
      walk_at "k9"
      obtain ⟨u2', g2, c2, hu2⟩ := hr2
      obtain ⟨dx, o, e1, _⟩ := g2.ex
      obtain ⟨s', hst, _⟩ := run_next hi rn.run rn2.run
      have lc := hlc lines[i] (List.getElem_mem hi)
      have ltk : (lines.take i).length ≤ 10 := by rw [List.length_take]; omega
      refine ⟨dx, _, e1, len3 _ (by decide +kernel) (by decide +kernel) (by decide +kernel), a2, m2, u2', s0, md2, [], lines[i], rfl, g2, by rw [rn2.len]; omega, Nat.zero_le _, .inl (rn2.say lc.1 lc.2 (by omega)), (fun hn => by rw [say_chg lc.1, hst] at hn; cases hn), fun md' un' hm r' u'' H2' cc hs' hu hr' => ?_⟩
      rw [say_chg lc.1, hst] at hm
      cases hm
      have et : lines.take (i + 1) = lines.take i ++ [lines[i]] := List.take_succ_eq_append_getElem hi
      refine ⟨_, SRun.step g2 c2 hu2 cc hs' hu, ?_⟩
      rw [et]
      exact rn2.snoc lc.2 hst (by omega)
    · subst eσ
      walk_at "k9"
      rw [List.take_length] at rn2
      obtain ⟨u2', g2, c2, hu2⟩ := hr2
      have i2 := h2.imm c2
      have far2 : ∀ {x : Addr}, H1 x = none → x ∉ [a2, m2, u2] := fun n => hs2.apart n
      have h3' := h3.far g c2 i2 (far2 na3) (far2 nm3) (far2 nu3)
      have h4' := hs4.far g c2 i2 (far2 (s2.free na4)) (far2 (s2.free nm4)) (far2 (s2.free nu4))
      have eln2 := c2 _ _ lnn.1 eln
      obtain ⟨dx, o, e1, _⟩ := h3'.ex
      refine ⟨dx, _, e1, len3 _ (by decide +kernel) (by decide +kernel) (by decide +kernel), a3, m3, u3, ln, s0, [], [], lines, rfl, h3', eln2, (fun l hl => ⟨(hlc l hl).1, by have := (hlc l hl).2; omega⟩), by omega, Nat.zero_le _, (fun i s hi => ?_), (fun hn => by rw [cur_nil, rn.run] at hn; cases hn), fun s' hs' r' u3' H5 c3 g3 hu3 => ?_⟩
      · have h := run_ok hi (by rw [cur_nil]; exact ok0) fun l hl => (hlc l (List.mem_of_mem_take hl)).2
        refine ⟨h.1, ?_⟩
        have h2 := h.2.1
        have : (lines.take i).length ≤ 10 := by rw [List.length_take]; omega
        omega
      · have hfn := n1 hhf
        have hf5 := c3 _ _ hfn.2.1 (c2 _ _ hfn.1 (s13 _ _ hhf))
        have eln5 := c3 _ _ lnn.2.1 eln2
        have sC : Same H Hc := Same.far s13 c2 (mem3 na2 nm2 nu2)
        have s5 : Same H H5 := Same.far sC c3 (mem3 (s1.free na3) (s1.free nm3) (s1.free nu3))
        refine ⟨_, .of hf5, _, at1, j, rfl, _, .of eln5, fun p hp => ⟨⟨_, newL⟩, ?_⟩⟩
        rw [cut_drop hj]
        have xsl : (lines.drop j.toNat).length ≤ 10 := by rw [List.length_drop]; omega
        have xsc : ∀ l ∈ lines.drop j.toNat, Chg l ∧ l.length ≤ 200 := fun l hl => hlc l (List.mem_of_mem_drop hl)
        generalize hXS : lines.drop j.toNat = XS at *
        have h5 := h4'.far g c3 (h3'.imm c3) (hs3.apart na4) (hs3.apart nm4) (hs3.apart nu4)
        have h6 := h5.same g (sm1 (o := .lst (XS.map V.str)) hp)
        have s6 : Same H (upd H5 p (.lst (XS.map V.str))) := s5.trans (sm1 hp)
        have ep : (upd H5 p (.lst (XS.map V.str))) p = some (.lst (XS.map V.str)) := upd_same
        have g3' := g3.same g (sm1 (o := .lst (XS.map V.str)) hp)
        have n23 : ∀ {x : Addr} {o : HO}, H1 x = some o → x ∉ [a3, m3, u3] := fun e => apart3 e na3 nm3 nu3
        have n24 : ∀ {x : Addr} {o : HO}, H2 x = some o → x ∉ [a4, m4, u4] := fun e => apart3 e na4 nm4 nu4
        obtain ⟨⟨_, z1⟩, ⟨_, z2⟩, ⟨_, z3⟩⟩ := hs2.stood
        obtain ⟨⟨_, y1⟩, ⟨_, y2⟩, ⟨_, y3⟩⟩ := hs3.stood
        have u23 : u2' ∉ [a3, m3, u3] := by
          rcases hu2 with e | e
          · rw [e]; exact n23 z3
          · exact h3.apart e
        have u24 : u2' ∉ [a4, m4, u4] := by
          rcases hu2 with e | e
          · rw [e]; exact n24 (s2 _ _ z3)
          · exact hs4.apart e
        have u34 : u3' ∉ [a4, m4, u4] := by
          rcases hu3 with e | e
          · rw [e]; exact n24 y3
          · exact h4'.apart e
        have v32 : u3' ∉ [a2, m2, u2'] := by
          rcases hu3 with e | e
          · rw [e]
            exact n3 (fun z => n23 z1 (by simp [z])) (fun z => n23 z2 (by simp [z])) (fun z => u23 (by simp [z]))
          · exact g2.apart e
        have b32 : a3 ∉ [a2, m2, u2'] ∧ m3 ∉ [a2, m2, u2'] :=
          ⟨n3 (fun z => n23 z1 (by simp [z])) (fun z => n23 z2 (by simp [z])) (fun z => u23 (by simp [z])), n3 (fun z => n23 z1 (by simp [z])) (fun z => n23 z2 (by simp [z])) (fun z => u23 (by simp [z]))⟩
        have fu2 : H u2' = none := by
          rcases hu2 with e | e
          · rw [e]; exact nu2
          · exact s13.free e
        have fu3 : H u3' = none := by
          rcases hu3 with e | e
          · rw [e]; exact s1.free nu3
          · exact sC.free e
        have g2' := (g2.far g c3 (h3'.imm c3) (n23 z1) (n23 z2) u23).same g (sm1 (o := .lst (XS.map V.str)) hp)
        have pn := h5.apart hp
        generalize upd H5 p (.lst (XS.map V.str)) = H6 at *
        have wk4 : Walk (Itl K p) (XS.map V.str).length (fun Hc => SqL K Hc p (XS.map V.str)) (YAt (XS.map V.str)) := walk_list
        rw [List.length_map] at wk4
        refine fj wk4 (fun i σ Hc => ∃ a4' md4, σ = [some (V.ref r), some (V.ref a), some (V.ref ln), some (V.ref hf), a4', none, some (V.ref a2), some (V.ref a3), some (V.ref a4)] ∧ SRun K H6 Hc a4 m4 u4 sh md4 [] ∧ Rn 3000 sh md4 (XS.take i))
          ⟨a4', [], rfl, .start h6, .nil okh⟩ (fun i σ Hc hi ⟨_, _, _, c, _⟩ => .of (c.at pn ep)) (fun i v σ Hc H' hi ⟨a4', md4, eσ, hr4, rn4⟩ ⟨eH, ev⟩ => ?_) (fun σ Hd ⟨a4', md4, eσ, hr4, rn4⟩ => ?_)
        · subst eH eσ
          have ev : v = V.str XS[i] := by
            rw [List.getElem?_map, List.getElem?_eq_getElem hi] at ev
            exact (Option.some.inj ev).symm
          subst ev
          walk_at "k9"
          obtain ⟨u4', g4, c4, hu4⟩ := hr4
          obtain ⟨dx, o, e1, _⟩ := g4.ex
          obtain ⟨s', hst, _⟩ := run_next hi rnh rn4.run
          have lc := xsc XS[i] (List.getElem_mem hi)
          have ltk : (XS.take i).length ≤ 10 := by rw [List.length_take]; omega
          refine ⟨dx, _, e1, len3 _ (by decide +kernel) (by decide +kernel) (by decide +kernel), a4, m4, u4', sh, md4, [], XS[i], rfl, g4, by rw [rn4.len]; omega, Nat.zero_le _, .inl (rn4.say lc.1 lc.2 (by omega)), (fun hn => by rw [say_chg lc.1, hst] at hn; cases hn), fun md' un' hm r' u'' H2' cc hs' hu hr' => ?_⟩
          rw [say_chg lc.1, hst] at hm
          cases hm
          have et : XS.take (i + 1) = XS.take i ++ [XS[i]] := List.take_succ_eq_append_getElem hi
          refine ⟨_, SRun.step g4 c4 hu4 cc hs' hu, ?_⟩
          rw [et]
          exact rn4.snoc lc.2 hst (by omega)
        · subst eσ
          walk_at "k9"
          rw [List.take_length] at rn4
          obtain ⟨u4', g4, c4, hu4⟩ := hr4
          have i4 := h6.imm c4
          have g2d := g2'.far g c4 i4 (n24 (s2 _ _ z1)) (n24 (s2 _ _ z2)) u24
          have g3d := g3'.far g c4 i4 (n24 y1) (n24 y2) u34
          have sD : Same H Hd := Same.far s6 c4 (mem3 (s12.free na4) (s12.free nm4) (s12.free nu4))
          have hend : runM sh XS = some (cur s0 md) := rnh
          have ecur2 : cur s0 md2 = cur s0 md := Option.some.inj (rn2.run.symm.trans rn.run)
          have ecur4 : cur sh md4 = cur s0 md := Option.some.inj (rn4.run.symm.trans rnh)
          have es' : s' = cur s0 md := by rw [cur_nil, rn.run] at hs'; exact (Option.some.inj hs').symm
          obtain ⟨md3, emd3, e3a, e3b, e3c, e3d, e3e⟩ : ∃ md3 : List Ent, (if lines = [] then [] else [] ++ [(s', lines)]) = md3 ∧ (if lines = [] then ([] : List Ent) else []) = [] ∧ cur s0 md3 = cur s0 md ∧ dn md3 = lines ∧ ((md3.length : Int) = if lines = [] then 0 else 1) ∧ ∀ e ∈ md3, e.1 = cur s0 md := by
            refine ⟨_, rfl, by split <;> rfl, ?_, ?_, ?_, ?_⟩
            · by_cases hl0 : lines = []
              · rw [if_pos hl0, cur_nil]
                have := rn.run
                rw [hl0] at this
                exact Option.some.inj this
              · rw [if_neg hl0, cur_snoc, es']
            · by_cases hl0 : lines = []
              · rw [if_pos hl0, hl0]; rfl
              · rw [if_neg hl0]; simp [dn]
            · by_cases hl0 : lines = []
              · rw [if_pos hl0, if_pos hl0]; rfl
              · rw [if_neg hl0, if_neg hl0]; rfl
            · intro e he
              by_cases hl0 : lines = []
              · rw [if_pos hl0] at he; cases he
              · rw [if_neg hl0] at he
                have : e = (s', lines) := by simpa using he
                rw [this]; exact es'
          rw [emd3, e3a] at g3d
          refine ⟨by decide, fun p2 hp2 => ⟨⟨_, newL⟩, ?_⟩⟩
          have sE := Same.upd (o := .lst [V.ref a2, V.ref a3, V.ref a4]) sD hp2
          have nw := sm1 (o := .lst [V.ref a2, V.ref a3, V.ref a4]) hp2
          have t2 := g2d.same g nw
          have t3 := g3d.same g nw
          have t4 := g4.same g nw
          have tm := hs.same g sE
          have eln7 := sE _ _ hln
          have hf7 := sE _ _ hhf
          have hr7 := hr0.same sE
          have tb : (cur s0 md).t.length ≤ 50000 := by have := rn.ok.2.1; omega
          have ep2 : (upd Hd p2 (.lst [V.ref a2, V.ref a3, V.ref a4])) p2 = some (.lst [V.ref a2, V.ref a3, V.ref a4]) := upd_same
          generalize upd Hd p2 (.lst [V.ref a2, V.ref a3, V.ref a4]) = H7 at *
          have all3 : ∀ (i : Nat) (v : V), [V.ref a2, V.ref a3, V.ref a4][i]? = some v → ∃ a' m' u' s' md', v = V.ref a' ∧ SeAt K H7 a' m' u' s' md' [] ∧ cur s' md' = cur s0 md := fun i v e => by
            match i, e with
            | 0, e => exact ⟨a2, m2, u2', s0, md2, (Option.some.inj e).symm, t2, ecur2⟩
            | 1, e => exact ⟨a3, m3, u3', s0, md3, (Option.some.inj e).symm, t3, e3b⟩
            | 2, e => exact ⟨a4, m4, u4', sh, md4, (Option.some.inj e).symm, t4, ecur4⟩
          have wk3 : Walk (Itl K p2) 3 (fun Hc => SqL K Hc p2 [V.ref a2, V.ref a3, V.ref a4]) (YAt [V.ref a2, V.ref a3, V.ref a4]) := walk_list (xs := [V.ref a2, V.ref a3, V.ref a4])
          refine fj wk3 (fun i σ Hc => ∃ b4 b5, σ = [some (V.ref r), some (V.ref a), some (V.ref ln), some (V.ref hf), b4, b5, some (V.ref a2), some (V.ref a3), some (V.ref a4)] ∧ Same H7 Hc)
            ⟨_, none, rfl, Same.refl _⟩ (fun i σ Hc hi ⟨_, _, _, c⟩ => .of (c _ _ ep2)) (fun i v σ Hc H' hi ⟨b4, b5, eσ, sc⟩ ⟨eH, ev⟩ => ?_) (fun σ Hc ⟨b4, b5, eσ, sc⟩ => ?_)
          · subst eH eσ
            obtain ⟨a', m', u', s'', md', rfl, gS, ec⟩ := all3 i v ev
            walk_at "k9"
            refine ⟨a', m', u', s'', md', [], rfl, gS.same g sc, by rw [ec]; omega, fun r1 Ha sa hn1 L1 => ⟨a, m, u, s0, md, [], rfl, (tm.same g sc).same g sa, by omega, fun r2 Hb sb hn2 L2 => ?_⟩⟩
            rw [ec] at L1
            refine ⟨dl_state (L1.same sb) L2, fun Hx ex => ⟨_, rfl, ?_⟩⟩
            rw [if_neg (by decide)]
            exact ((sc.trans sa).trans sb).trans ex
          · subst eσ
            walk_at "k9"
            have v2 := t2.same g sc
            have v3 := t3.same g sc
            have v4 := t4.same g sc
            obtain ⟨dx2, o2, e2, _⟩ := v2.ex
            refine ⟨dx2, _, e2, len3 _ (by decide +kernel) (by decide +kernel) (by decide +kernel), a2, m2, u2', s0, md2, [], rfl, v2, by rw [rn2.len]; omega, by rw [rn2.dn]; omega, fun q1 G1 w1 hq1 hd1 => ?_⟩
            have fl1 := (sc.trans w1) _ _ eln7
            rw [rn2.dn] at hd1
            refine ⟨dl_strs hd1 fl1, fun G2 x2 => ⟨_, rfl, ?_⟩⟩
            rw [if_neg (by decide)]
            have w2 : Same Hc G2 := w1.trans x2
            have v3a := v3.same g w2
            obtain ⟨dx3, o3, e3, _⟩ := v3a.ex
            refine ⟨dx3, _, e3, len3 _ (by decide +kernel) (by decide +kernel) (by decide +kernel), a3, m3, u3', s0, md3, [], rfl, v3a, by by_cases hz : lines = [] <;> simp only [hz, if_true, if_false] at e3d <;> omega, by rw [e3c]; omega, fun q2 G3 w3 hq2 hd2 => ?_⟩
            rw [e3c] at hd2
            have w23 := w2.trans w3
            refine ⟨dl_strs hd2 ((sc.trans w23) _ _ eln7), fun G4 x4 => ⟨_, rfl, ?_⟩⟩
            rw [if_neg (by decide)]
            have w4 : Same Hc G4 := w23.trans x4
            have v4a := v4.same g w4
            obtain ⟨dx4, o4, e4, _⟩ := v4a.ex
            refine ⟨dx4, _, e4, len3 _ (by decide +kernel) (by decide +kernel) (by decide +kernel), a4, m4, u4', sh, md4, [], rfl, v4a, by rw [rn4.len]; omega, by rw [rn4.dn]; omega, fun q3 G5 w5 hq3 hd3 => ?_⟩
            rw [rn4.dn] at hd3
            have w45 := w4.trans w5
            refine ⟨_, .of ((sc.trans w45) _ _ hf7), _, at1, j, rfl, _, .of ((sc.trans w45) _ _ eln7), fun p3 hp3 => ?_⟩
            rw [cut_drop hj, hXS]
            refine ⟨dl_strs (sm1 hp3 _ _ hd3) upd_same, fun G6 x6 => ⟨_, rfl, ?_⟩⟩
            rw [if_neg (by decide)]
            have w6 : Same Hc G6 := (Same.upd w45 hp3).trans x6
            have w7 : Same H7 G6 := sc.trans w6
            refine ⟨_, .inl ⟨_, .of (w7 _ _ eln7), rfl⟩, ?_⟩
            rw [List.length_map, ← rn2.len]
            have wt2 := t2.same g w7
            have wr := hr7.same w7
            refine ⟨a2, m2, u2', r, s0, md2, rfl, wt2, wr, by rw [rn2.len]; omega, by rw [rn2.dn]; omega, rn2.ts, by have := ok0.2.1; omega, fun G7 c7 => ⟨_, rfl, ?_⟩⟩
            rw [if_pos rfl]
            have i7 := wt2.imm c7
            have f3 := (t3.same g w7).far g c7 i7 b32.1 b32.2 v32
            have fr := wr.far g c7 i7 (ls_apart wr wt2)
            have sG : Same H G7 := Same.far (sE.trans w7) c7 (mem3 na2 nm2 fu2)
            refine ⟨Nat.zero_le _, fun p8 hp8 => ⟨_, .of (sm1 hp8 _ _ (sG _ _ hln)), newL, .inr ?_⟩⟩
            refine ⟨a3, m3, u3', r, s0, md3, ?_, f3.same g (sm1 hp8), fr.same (sm1 hp8), ?_, by rw [e3c]; omega, fun e he => by rw [e3e e he]; exact tb, by have := ok0.2.1; omega, fun G8 c8 => q _ (Same.far (sG.trans (sm1 hp8)) c8 (mem3 (s1.free na3) (s1.free nm3) fu3))⟩
            · rw [e3d]
              by_cases hz : lines = []
              · rw [if_pos hz, hz]; rfl
              · rw [if_neg hz, if_neg (by simpa using hz)]
            · by_cases hz : lines = []
              · rw [if_pos hz] at e3d; omega
              · rw [if_neg hz] at e3d; omega
end
end L2.K9
set_option maxHeartbeats 4000000
namespace L2.K9
open PySem PySem.Spec PyProof.Rows He
local macro_rules | `(tactic| walk_at "lf") => `(tactic| ((repeat' split) <;> first | contradiction | rfl | (simp_all; done)))
local macro_rules | `(tactic| walk_at "k9") => `(tactic| simp only [tRet, tRetN, tSeq, tNext, tAsg, gName, tDrop, tIfS, tIf, tVar, tC, tCB, tCons, tNil, tOp, tUn, tTest, tB, tAnd, tOr, tNot, tAndV, tOrV, tNotV, tChain, tCall, tMeth, tMake, tM1, tM0, tBM, tBM0, tSl, tPart, tNoPart, rI0, rI, rU, rEq, rNe, start, List.map_cons, List.map_nil, List.length_cons, List.length_nil, Nat.reduceAdd, Nat.reduceSub, List.replicate_succ, List.replicate_zero, List.cons_append, List.nil_append, List.append_nil, List.getElem?_cons_zero, List.getElem?_cons_succ, List.set_cons_zero, List.set_cons_succ, Option.some.injEq, V.int.injEq, V.bl.injEq, V.str.injEq, V.ref.injEq, exists_eq_left', exists_eq_left, and_true, true_and, exists_and_left, List.cons.injEq, len_s, cxK, cxP, cxW, exists_eq_right, exists_eq', scal_ss, scal_ii, scal_bb, scal_ns, eq_self, ite_nd, rSlS, rIxS, rIxL, rIxT, rSlL, tLc_str, tLc_list, tPar, gTup, tTup, tLst, tDGet1, wipe, List.foldl_cons, List.foldl_nil, sg_inj, and_assoc, exists_eq, decide_eq_true_eq, if_true, if_false, Bool.false_eq_true, Bool.not_true, Bool.not_false, rNeE, rEqE, iEnumk, iZips, gStar, tWGet, rNewStrs, tDIn, sDPut, tDisp, tPairs, sFld, tFld, rAppend, rPop, tFor_list, tFor_enumk, tFor_tup, tFor_or, tProp, gSub, rSetL, rCat])
theorem tFor_rng1 {g : TG} {tb : TS} {D : Ends} {σ : St} {H : Hp} {ta : TA} : tFor (iRng1 ta) g tb D σ H = ta σ H fun xs H1 => ∃ j : Int, xs = [.int j] ∧ -(2 ^ 62) ≤ j ∧ j < 2 ^ 62 ∧ FJ (Itr 0 j.toNat) g tb D σ H1 := rfl
theorem ChgL.far {L M : List Addr} {H H1 H2 : Hp} (c : ChgL M H H1) (c2 : ChgL L H1 H2) (n : ∀ q ∈ L, H q = none) : ChgL M H H2 := fun b o hb e => c2 b o (fun h => by have := n b h; rw [e] at this; cases this) (c b o hb e)
theorem bx_imm {K : PySem.W.Frag} {H H' : Hp} {b : Addr} {x y z : Int} (h : H b = some (bx x y z)) (c : ChgL [b] H H') : SameI K H H' := fun q o i e => c q o (by
  simp only [List.mem_singleton]
  intro e2
  rw [e2, h] at e
  cases e
  exact i) e
def KI (s : Stt) : Prop := s.k.js = [60] ∧ 2000 ≤ s.k.ap ∧ 0 ≤ s.k.mo ∧ s.k.mo ≤ 3
theorem kind60 {ap mo : Int} (h1 : 2000 ≤ ap) (h2 : 0 ≤ mo) (h3 : mo ≤ 3) : kindM [60] ap mo = some ⟨[60], ap, mo⟩ := by
  have h : ∀ j ∈ ([60] : List Int), 2 * absI j < ap := fun j hj => by
    have : j = 60 := by simpa using hj
    subst this
    have : absI 60 = 60 := by decide
    omega
  unfold kindM
  exact if_pos ⟨by decide, by decide, by decide +kernel, h, h2, h3⟩
theorem nb_log2 {d : Int} (h0 : 0 ≤ d) (h1 : d < 4096) : d.natAbs.log2 < 1920 :=
  Nat.lt_of_lt_of_le (PySem.Flt.log2_lt_of (n := d.natAbs) (k := 12) (by decide) (by omega)) (by decide)
theorem mo_step {s : Stt} {i : Nat} (h : KI s) : stepM s (mo78 i) = some ⟨⟨[60], s.k.ap, ((i % 4 : Nat) : Int)⟩, s.t⟩ := by
  have e : mo78 i = mo78 (i % 4) := by unfold mo78; rw [Nat.mod_mod]
  unfold stepM
  rw [e, cmd_mo ⟨i % 4, Nat.mod_lt _ (by decide)⟩]
  show behM s "most" (.flat [.int ((i % 4 : Nat) : Int)]) = _
  have hb : behM s "most" (.flat [.int ((i % 4 : Nat) : Int)]) = (kindM s.k.js s.k.ap ((i % 4 : Nat) : Int)).map fun k => ⟨k, s.t⟩ := by
    simp only [behM]
    rw [if_neg (by decide +kernel), if_neg (by decide +kernel), if_neg (by decide +kernel), if_neg (by decide +kernel)]
  rw [hb, h.1, kind60 h.2.1 (by omega) (by omega)]
  rfl
theorem ap_step {s : Stt} {i : Nat} (hi : i < 78) (h : KI s) : stepM s (ap78 i) = some ⟨⟨[60], ((2000 + i : Nat) : Int), s.k.mo⟩, s.t⟩ := by
  unfold stepM
  rw [cmd_ap ⟨i, hi⟩]
  show behM s "apart" (.flat [.int ((2000 + i : Nat) : Int)]) = _
  have hb : behM s "apart" (.flat [.int ((2000 + i : Nat) : Int)]) = (kindM s.k.js ((2000 + i : Nat) : Int) s.k.mo).map fun k => ⟨k, s.t⟩ := by
    simp only [behM]
    rw [if_neg (by decide +kernel), if_neg (by decide +kernel), if_neg (by decide +kernel), if_pos (by decide +kernel)]
  rw [hb, h.1, kind60 (by omega) h.2.2.1 h.2.2.2]
  rfl
theorem ap_chg (i : Nat) : Chg (ap78 i) := chg_of (h := "apart ") (w := "apart") (by decide +kernel) (by decide +kernel) (by decide +kernel) rfl
theorem mo_chg (i : Nat) : Chg (mo78 i) := chg_of (h := "most ") (w := "most") (by decide +kernel) (by decide +kernel) (by decide +kernel) rfl
theorem ap_len {i : Nat} (hi : i < 78) : (ap78 i).length ≤ 200 := (show ∀ i : Fin 78, (ap78 i.val).length ≤ 200 by decide +kernel) ⟨i, hi⟩
theorem mo_len {i : Nat} : (mo78 i).length ≤ 200 := by
  have e : mo78 i = mo78 (i % 4) := by unfold mo78; rw [Nat.mod_mod]
  rw [e]
  exact (show ∀ i : Fin 4, (mo78 i.val).length ≤ 200 by decide +kernel) ⟨i % 4, Nat.mod_lt _ (by decide)⟩
section
variable {P : Program} {w : World} {K : PySem.W.Frag} {mg : Str → Option Value} {base : Heap}
def sp__law_long_right (K : PySem.W.Frag) : Sp := fun vs H Q _ => ∃ (b r : Addr) (x y z n : Int) (d : Int) (t : Str), vs = [.ref b, .ref r] ∧ H b = some (bx x y z) ∧ BoxOk x y z n ∧ n ≤ 90000 ∧ 0 ≤ d ∧ d ≤ 3 ∧ LsAt K H r ⟨⟨[60], 2000, d⟩, t⟩ ∧ StOk 100 ⟨⟨[60], 2000, d⟩, t⟩ ∧
  ∀ H', ChgL [b] H H' → Q (.bl true) H'
theorem len__law_long_right {vs : List V} {H : Hp} {Q : VK} {E : XK} (h : (sp__law_long_right K) vs H Q E) : vs.length = 2 := by
  obtain ⟨_, _, _, _, _, _, _, _, rfl, _⟩ := h; rfl
theorem sc__law_long_right : FnScope ["_law_box_here", "_law_first", "_law_lap", "_law_session", "_law_many"] ["_law_box_here", "_law_first"] (defScope s__law_long_right) := ⟨rfl, rfl, rfl, by decide +kernel, rfl, by decide +kernel, by decide +kernel⟩
theorem ok__law_long_right (g : GT w K mg) : DefOk P w K mg base 15 (ga K "_law_long_right") ["_law_box_here", "_law_first"] (sp__law_long_right K) := by
  obtain ⟨fd__law_take, F__law_take, B__law_take, K__law_take⟩ := ok__law_take (P := P) (w := w) (base := base) g
  obtain ⟨fd__law_made, F__law_made, B__law_made, K__law_made⟩ := ok__law_made (P := P) (w := w) (base := base) g
  obtain ⟨fd_Session_say, F_Session_say, B_Session_say, K_Session_say⟩ := ok_Session_say (P := P) (w := w) (base := base) g
  obtain ⟨fd__law_wound, F__law_wound, B__law_wound, K__law_wound⟩ := ok__law_wound (P := P) (w := w) (base := base) g
  obtain ⟨fd_Session___len__, F_Session___len__, B_Session___len__, K_Session___len__⟩ := ok_Session___len__ (P := P) (w := w) (base := base) g
  obtain ⟨fd, F⟩ := g.d__law_long_right
  refine ⟨fd, ?_, F.bindsN fun _ _ _ _ _ _ us hl => match us, hl with | [_, _], _ => rfl, F.kp⟩
  refine F.ok sc__law_long_right (fun vs H Q E h => ?_) (fun cdv A outer s H vs Q E hr h => ?_)
  · exact len__law_long_right h
  · obtain ⟨b, r, x, y, z, n, d, t, rfl, hb, hx, hn, hd0, hd3, hr0, ok0, q⟩ := h
    refine ⟨_, (pss_cons (ps_par (i := 3) (j := 4) (by rfl) sc__law_long_right.nd rfl rfl (by decide) rfl rfl (pa_cons (pe_call F__law_made (hr.mono (by decide)) rfl g.g__law_made K__law_made B__law_made .nil pq (pa_cons (pv 1) pa_nil)) (pa_cons (pe_op op_add pe_int (pe_op op_mul pe_int (pe_call F__law_take (hr.mono (by decide)) rfl g.g__law_take K__law_take B__law_take .nil pq (pa_cons (pv 0) (pa_cons pe_int pa_nil))))) pa_nil)) (by rfl))
      (pss_cons (ps_for po_def rfl (pi_range1 rfl g.f_range (pa_cons (pv 4) pa_nil)) (pg_name (i := 2) sc__law_long_right.nd rfl (Or.inl rfl)) (pss_one (ps_expr (pe_meth (pv 3) g.k_Session g.e_Session_say F_Session_say (hr.mono (by decide)) B_Session_say .nil pq (pa_cons (pe_ifExp (pt_cmpR op_eq (pe_op op_mod (pv 2) pe_int) pe_int (nomark _)) (pe_op op_add_str pe_str (pe_callTy call_str_int (by rfl) g.f_str (by decide +kernel) (pa_cons (pe_op op_mod (pv 2) pe_int) pa_nil))) (pe_op op_add_str pe_str (pe_callTy call_str_int (by rfl) g.f_str (by decide +kernel) (pa_cons (pe_op op_add pe_int (pv 2)) pa_nil)))) pa_nil)))))
      (pss_one (ps_ret (pe_and (pe_cmpR op_eq (pe_callB (call_len_own F_Session___len__ g.fi_Session___len__ g.if_Session___len__ B_Session___len__ pq (hr.mono (by decide))) (by rfl) g.f_len (by decide +kernel) (pa_cons (pv 3) pa_nil)) (pv 4) (nomark _)) (pe_one (pe_call F__law_wound (hr.mono (by decide)) rfl g.g__law_wound K__law_wound B__law_wound .nil pq (pa_cons (pv 3) (pa_cons (pv 1) (pa_cons (pv 4) pa_nil)))))))))), ?_⟩
    walk_at "k9"
    refine ⟨r, _, rfl, hr0, by have := ok0.2.1; omega, ok0.2.2, fun a m u H1 s1 hs1 na nm nu => ?_⟩
    have nb : b ∉ [a, m, u] := apart3 hb na nm nu
    have hb1 := s1 _ _ hb
    refine ⟨b, x, y, z, n, 2, rfl, hb1, hx, by omega, by decide, by decide, fun e2 x' z' he0 he2 hx' => ⟨e2, rfl, .inl ⟨by decide, by decide⟩, ?_⟩⟩
    rw [tFor_rng1]
    walk_at "k9"
    have cb : ChgL [b] H1 (upd H1 b (bx x' y z')) := .upd (by simp)
    have ib := bx_imm (K := K) hb1 cb
    have nn : ∀ {q : Addr}, q ∈ [a, m, u] → q ∉ [b] := fun {q} hq h => nb (by rw [← List.mem_singleton.mp h]; exact hq)
    have h2 := hs1.far g cb ib (nn (by simp)) (nn (by simp)) (nn (by simp))
    have rb : r ∉ [b] := by
      intro h
      obtain ⟨kr, tr, q1, _⟩ := hr0
      rw [List.mem_singleton.mp h, hb] at q1
      cases q1
    have hr2' := (hr0.same s1).far g cb ib rb
    have c02 : ChgL [b] H (upd H1 b (bx x' y z')) := (Same.chg s1).trans cb
    have many : ∃ k : Nat, 8 + 70 * e2 = (k : Int) ∧ k ≤ 78 := ⟨(8 + 70 * e2).toNat, by omega, by omega⟩
    obtain ⟨k, ek, hk⟩ := many
    rw [ek]
    have hb2 : (upd H1 b (bx x' y z')) b = some (bx x' y z') := upd_same
    generalize upd H1 b (bx x' y z') = H2 at *
    refine ⟨by omega, by omega, ?_⟩
    rw [Int.toNat_natCast]
    refine fj walk_range (fun i σ Hc => ∃ c2 md2 ls, σ = [some (V.ref b), some (V.ref r), c2, some (V.ref a), some (V.int (k : Int))] ∧ SRun K H2 Hc a m u ⟨⟨[60], 2000, d⟩, t⟩ md2 [] ∧ Rn 100 ⟨⟨[60], 2000, d⟩, t⟩ md2 ls ∧ ls.length = i ∧ KI (cur ⟨⟨[60], 2000, d⟩, t⟩ md2))
      ⟨none, [], [], rfl, .start h2, .nil ok0, rfl, rfl, Int.le_refl 2000, hd0, hd3⟩ (fun _ _ _ _ _ => trivial) (fun i v σ Hc H' hi ⟨c2, md2, ls, eσ, hr2, rn2, hll, hki⟩ ⟨eH, ev⟩ => ?_) (fun σ Hc ⟨c2, md2, ls, eσ, hr2, rn2, hll, hki⟩ => ?_)
    · subst eH eσ ev
      walk_at "k9"
      simp only [Int.zero_add]
      obtain ⟨u', g2, c2, hu2⟩ := hr2
      obtain ⟨dx, o, e1, _⟩ := g2.ex
      have core : ∀ (l : Str) (s' : Stt), Chg l → l.length ≤ 200 → stepM (cur ⟨⟨[60], 2000, d⟩, t⟩ md2) l = some s' → KI s' → sp_Session_say K [V.ref a, V.str l] H' (fun v H1 => ∃ mx, SRun K H2 H1 a m u ⟨⟨[60], 2000, d⟩, t⟩ mx [] ∧ ∃ lx, Rn 100 ⟨⟨[60], 2000, d⟩, t⟩ mx lx ∧ lx.length = i + 1 ∧ KI (cur ⟨⟨[60], 2000, d⟩, t⟩ mx)) E := fun l s' lc ll hst hk' => by
        refine ⟨a, m, u', ⟨⟨[60], 2000, d⟩, t⟩, md2, [], l, rfl, g2, by rw [rn2.len]; omega, Nat.zero_le _, .inl (rn2.say lc ll (by omega)), (fun hn => by rw [say_chg lc, hst] at hn; cases hn), fun md' un' hm r' u'' H2' cc hs' hu hr' => ?_⟩
        rw [say_chg lc, hst] at hm
        cases hm
        exact ⟨_, SRun.step g2 c2 hu2 cc hs' hu, _, rn2.snoc ll hst (by omega), by rw [List.length_append, hll]; rfl, by rw [cur_snoc]; exact hk'⟩
      have sl : ∀ (p q : Str), (p ++ q).length ≤ 200 → p.length + q.length ≤ sizeLine := fun p q h => by
        rw [Str.length_append] at h
        rw [sizeLine_eq]
        omega
      refine ⟨dx, _, e1, len3 _ (by decide +kernel) (by decide +kernel) (by decide +kernel), by decide, ?_⟩
      by_cases c : (i : Int) % 2 = 0
      · rw [if_pos c]
        have e4 : (i : Int) % 4 = ((i % 4 : Nat) : Int) := by omega
        refine ⟨by decide, nb_log2 (by omega) (by omega), ?_, ?_⟩
        · rw [e4]
          exact sl _ _ mo_len
        · rw [e4]
          exact core (mo78 i) _ (mo_chg i) mo_len (mo_step hki) ⟨rfl, hki.2.1, by show (0 : Int) ≤ ((i % 4 : Nat) : Int); omega, by show ((i % 4 : Nat) : Int) ≤ 3; omega⟩
      · rw [if_neg c]
        have e4 : (2000 : Int) + (i : Int) = ((2000 + i : Nat) : Int) := by omega
        refine ⟨nb_log2 (by omega) (by omega), ?_, ?_⟩
        · rw [e4]
          exact sl _ _ (ap_len (by omega))
        · rw [e4]
          exact core (ap78 i) _ (ap_chg i) (ap_len (by omega)) (ap_step (by omega) hki) ⟨rfl, by show (2000 : Int) ≤ ((2000 + i : Nat) : Int); omega, hki.2.2⟩
    · subst eσ
      walk_at "k9"
      obtain ⟨u', g2, c3, hu2⟩ := hr2
      obtain ⟨dx, o, e1, _⟩ := g2.ex
      have hlen : md2.length = k := by rw [rn2.len, hll]
      refine ⟨dx, _, e1, a, m, u', _, md2, [], rfl, g2, by omega, by rw [rn2.dn, hll]; omega, fun H' s' => ⟨_, rfl, by omega, by rw [rn2.dn, hll]; omega, ?_⟩⟩
      rw [if_pos (by rw [rn2.dn, hll])]
      have i3 := h2.imm c3
      have hrc := (hr2'.far g c3 i3 (ls_apart hr2' h2)).same s'
      refine ⟨a, m, u', r, _, md2, by rw [hlen], g2.same g s', hrc, by omega, by rw [rn2.dn, hll]; omega, rn2.ts, by have := ok0.2.1; omega, fun Hx cx => q _ ?_⟩
      have nu' : H u' = none := by
        rcases hu2 with e | e
        · rw [e]; exact nu
        · cases q0 : H u' with
          | none => rfl
          | some o =>
            have nub : u' ∉ [b] := fun h => by rw [List.mem_singleton.mp h, hb2] at e; cases e
            have := c02 u' o nub q0
            rw [e] at this
            cases this
      exact ((c02.far c3 (mem3 na nm nu)).trans (Same.chg s')).far cx (mem3 na nm nu')
end
end L2.K9
set_option maxHeartbeats 8000000
namespace L2.K9
open PySem PySem.Spec PyProof.Rows He
local macro_rules | `(tactic| walk_at "lf") => `(tactic| ((repeat' split) <;> first | contradiction | rfl | (simp_all; done)))
local macro_rules | `(tactic| walk_at "k9") => `(tactic| simp only [tRet, tRetN, tSeq, tNext, tAsg, gName, tDrop, tIfS, tIf, tVar, tC, tCB, tCons, tNil, tOp, tUn, tTest, tB, tAnd, tOr, tNot, tAndV, tOrV, tNotV, tChain, tCall, tMeth, tMake, tM1, tM0, tBM, tBM0, tSl, tPart, tNoPart, rI0, rI, rU, rEq, rNe, start, List.map_cons, List.map_nil, List.length_cons, List.length_nil, Nat.reduceAdd, Nat.reduceSub, List.replicate_succ, List.replicate_zero, List.cons_append, List.nil_append, List.append_nil, List.getElem?_cons_zero, List.getElem?_cons_succ, List.set_cons_zero, List.set_cons_succ, Option.some.injEq, V.int.injEq, V.bl.injEq, V.str.injEq, V.ref.injEq, exists_eq_left', exists_eq_left, and_true, true_and, exists_and_left, List.cons.injEq, len_s, cxK, cxP, cxW, exists_eq_right, exists_eq', scal_ss, scal_ii, scal_bb, scal_ns, eq_self, ite_nd, rSlS, rIxS, rIxL, rIxT, rSlL, tLc_str, tLc_list, tPar, gTup, tTup, tLst, tDGet1, wipe, List.foldl_cons, List.foldl_nil, sg_inj, and_assoc, exists_eq, decide_eq_true_eq, if_true, if_false, Bool.false_eq_true, Bool.not_true, Bool.not_false, rNeE, rEqE, iEnumk, iZips, gStar, tWGet, rNewStrs, tDIn, sDPut, tDisp, tPairs, sFld, tFld, rAppend, rPop, tFor_list, tFor_enumk, tFor_tup, tFor_or, tProp, gSub, rSetL, rCat])
section
variable {w : World} {K : PySem.W.Frag} {mg : Str → Option Value} {H H' Hk Hc : Hp} {a m u b r x ln hf : Addr} {s0 s : Stt} {md un : List Ent} {x y z x' z' n : Int} {L : List Addr} {i i' : Nat}
theorem bx_ses (h : H b = some (bx x y z)) (hs : SeAt K H a m u s0 md un) : a ∉ [b] ∧ m ∉ [b] ∧ u ∉ [b] := by
  obtain ⟨⟨_, _, g1, _⟩, ⟨ts, g3, _⟩, ⟨us, g5, _⟩, _⟩ := hs
  have no : ∀ (ts : List Addr), (HO.lst (ts.map V.ref)) = bx x y z → False := fun ts e => by
    have e := HO.lst.inj e
    match ts, e with
    | t :: ts, e =>
      have := (List.cons.inj e).1
      cases this
  refine ⟨fun q => ?_, fun q => ?_, fun q => ?_⟩
  · rw [List.mem_singleton.mp q, h] at g1; cases g1
  · rw [List.mem_singleton.mp q, h] at g3; exact no ts (Option.some.inj g3).symm
  · rw [List.mem_singleton.mp q, h] at g5; exact no us (Option.some.inj g5).symm
theorem bx_ls (h : H b = some (bx x y z)) (hl : LsAt K H r s) : r ∉ [b] := fun q => by
  obtain ⟨kr, tr, q1, _⟩ := hl
  rw [List.mem_singleton.mp q, h] at q1
  cases q1
theorem bx_str {l : List Str} (h : H b = some (bx x y z)) (hl : H r = some (.lst (l.map V.str))) : r ∉ [b] := fun q => by
  rw [List.mem_singleton.mp q, h] at hl
  have e := HO.lst.inj (Option.some.inj hl)
  match l, e with
  | t :: ts, e =>
    have := (List.cons.inj e).1
    cases this
def LI (K : PySem.W.Frag) (Hk Hc : Hp) (b r a m : Addr) (y : Int) (s0 : Stt) (i : Nat) (ln hf : Addr) : Prop := ∃ (rh u : Addr) (j x z : Int) (sh : Stt) (md : List Ent) (lines : List Str), Same Hk Hc ∧ Hc b = some (bx x y z) ∧ BoxOk x y z (10 + 20 * (i : Int)) ∧ LsAt K Hc r s0 ∧
  SeAt K Hc a m u s0 md [] ∧ Hc ln = some (.lst (lines.map V.str)) ∧ ln ∉ [a, m, u] ∧ Hc hf = some (.tup [.ref rh, .int j]) ∧ LsAt K Hc rh sh ∧ 0 ≤ j ∧ j.toNat ≤ lines.length ∧ lines.length ≤ i ∧ (∀ l ∈ lines, Chg l ∧ l.length ≤ 200) ∧ Rn 100 s0 md lines ∧
  StOk 3000 sh ∧ runM sh (lines.drop j.toNat) = some (cur s0 md) ∧ Hk u = none
theorem Same.of_chg (s : Same Hk H) (c : ChgL L H H') (n : ∀ q ∈ L, Hk q = none) : Same Hk H' := Same.far s c n
end
section
variable {P : Program} {w : World} {K : PySem.W.Frag} {mg : Str → Option Value} {base : Heap}
def sp_law (K : PySem.W.Frag) : Sp := fun vs H Q _ => ∃ (a : Addr) (ns : List Int), vs = [.ref a] ∧ SqL K H a (ns.map V.int) ∧ ns.length ≤ 63 ∧ ∀ H', Q (.bl true) H'
theorem len_law {vs : List V} {H : Hp} {Q : VK} {E : XK} (h : (sp_law K) vs H Q E) : vs.length = 1 := by
  obtain ⟨_, _, rfl, _⟩ := h; rfl
theorem sc_law : FnScope ["_law_script", "_law_k", "_law_box_here", "_law_rows", "_law_lap", "_law_first", "_law_lines", "_law_session", "_law_half", "_law_before", "_law_line"] ["_law_script"] (defScope s_law) := ⟨rfl, rfl, rfl, by decide +kernel, rfl, by decide +kernel, by decide +kernel⟩
theorem ok_law (g : GT w K mg) {fd : FuncData} (F : FnP K "law" "law" s_law [] (ga K "law") fd) : FnOk P w K mg base (L2.CX P w) 16 (ga K "law") fd ["_law_script"] (sp_law K) ∧ Binds K fd ["_law_script"] [] ∧ PySem.W.keepIn K (.ref (ga K "law")) = true := by
  obtain ⟨fd__law_box, F__law_box, B__law_box, K__law_box⟩ := ok__law_box (P := P) (w := w) (base := base) g
  obtain ⟨fd__law_cell, F__law_cell, B__law_cell, K__law_cell⟩ := ok__law_cell (P := P) (w := w) (base := base) g
  obtain ⟨fd_Kind___init__, F_Kind___init__, B_Kind___init__, K_Kind___init__⟩ := ok_Kind___init__ (P := P) (w := w) (base := base) g
  obtain ⟨fd__law_take, F__law_take, B__law_take, K__law_take⟩ := ok__law_take (P := P) (w := w) (base := base) g
  obtain ⟨fd__law_made, F__law_made, B__law_made, K__law_made⟩ := ok__law_made (P := P) (w := w) (base := base) g
  obtain ⟨fd__law_state, F__law_state, B__law_state, K__law_state⟩ := ok__law_state (P := P) (w := w) (base := base) g
  obtain ⟨fd__law_change, F__law_change, B__law_change, K__law_change⟩ := ok__law_change (P := P) (w := w) (base := base) g
  obtain ⟨fd__law_said, F__law_said, B__law_said, K__law_said⟩ := ok__law_said (P := P) (w := w) (base := base) g
  obtain ⟨fd__law_replayed, F__law_replayed, B__law_replayed, K__law_replayed⟩ := ok__law_replayed (P := P) (w := w) (base := base) g
  obtain ⟨fd_Session_done, F_Session_done, B_Session_done, K_Session_done⟩ := ok_Session_done (P := P) (w := w) (base := base) g
  obtain ⟨fd__law_long_right, F__law_long_right, B__law_long_right, K__law_long_right⟩ := ok__law_long_right (P := P) (w := w) (base := base) g
  obtain ⟨fd_Kind___eq__, F_Kind___eq__, B_Kind___eq__, K_Kind___eq__⟩ := ok_Kind___eq__ (P := P) (w := w) (base := base) g
  refine ⟨?_, F.bindsN fun _ _ _ _ _ _ us hl => match us, hl with | [_], _ => rfl, F.kp⟩
  refine F.ok sc_law (fun vs H Q E h => ?_) (fun cdv A outer s H vs Q E hr h => ?_)
  · exact len_law h
  · obtain ⟨sa, ns, rfl, hsl, hns, q⟩ := h
    refine ⟨_, (pss_cons (ps_for po_def rfl (pi_range1 rfl g.f_range (pa_cons (pe_callB (call_max2 rfl) (by rfl) g.f_max (by decide +kernel) (pa_cons pe_int (pa_cons (pe_callB (call_min2 rfl) (by rfl) g.f_min (by decide +kernel) (pa_cons pe_int (pa_cons (pe_callB call_len (by rfl) g.f_len (by decide +kernel) (pa_cons (pv 0) pa_nil)) pa_nil))) pa_nil))) pa_nil)) (pg_name (i := 1) sc_law.nd rfl (Or.inl rfl)) (pss_cons (ps_set (i := 2) sc_law.nd rfl (Or.inl rfl) (pe_call F__law_box (hr.mono (by decide)) rfl g.g__law_box K__law_box B__law_box .nil pq (pa_cons (pe_call F__law_cell (hr.mono (by decide)) rfl g.g__law_cell K__law_cell B__law_cell .nil pq (pa_cons (pv 0) (pa_cons (pv 1) pa_nil))) pa_nil)))
      (pss_cons (ps_set (i := 3) sc_law.nd rfl (Or.inl rfl) (pe_lst (pa_cons pe_str (pa_cons pe_str (pa_cons pe_str (pa_cons pe_str pa_nil))))))
      (pss_cons (ps_par (i := 5) (j := 6) (by rfl) sc_law.nd rfl rfl (by decide) rfl rfl (pa_cons (pe_lst (pa_cons (pe_make g.m_Kind F_Kind___init__ (hr.mono (by decide)) rfl g.g_Kind B_Kind___init__ .nil pq (pa_cons (pe_lst (pa_cons pe_int pa_nil)) (pa_cons pe_int (pa_cons (pe_call F__law_take (hr.mono (by decide)) rfl g.g__law_take K__law_take B__law_take .nil pq (pa_cons (pv 2) (pa_cons pe_int pa_nil))) pa_nil)))) (pa_cons (pv 3) pa_nil))) (pa_cons (pe_lst pa_nil) pa_nil)) (by rfl))
      (pss_cons (ps_par (i := 7) (j := 8) (by rfl) sc_law.nd rfl rfl (by decide) rfl rfl (pa_cons (pe_call F__law_made (hr.mono (by decide)) rfl g.g__law_made K__law_made B__law_made .nil pq (pa_cons (pv 5) pa_nil)) (pa_cons (pe_tup (pa_cons (pv 5) (pa_cons pe_int pa_nil))) pa_nil)) (by rfl))
      (pss_cons (ps_for po_def rfl (pi_range1 rfl g.f_range (pa_cons (pe_call F__law_take (hr.mono (by decide)) rfl g.g__law_take K__law_take B__law_take .nil pq (pa_cons (pv 2) (pa_cons pe_int pa_nil))) pa_nil)) (pg_name (i := 4) sc_law.nd rfl (Or.inl rfl)) (pss_cons (ps_set (i := 9) sc_law.nd rfl (Or.inl rfl) (pe_call F__law_state (hr.mono (by decide)) rfl g.g__law_state K__law_state B__law_state .nil pq (pa_cons (pv 7) pa_nil)))
      (pss_cons (ps_set (i := 10) sc_law.nd rfl (Or.inl rfl) (pe_call F__law_change (hr.mono (by decide)) rfl g.g__law_change K__law_change B__law_change .nil pq (pa_cons (pv 2) (pa_cons (pe_ix ix_list (pv 9) pe_int (fun _ _ => rfl)) pa_nil))))
      (pss_one (ps_if (pt_cmpR op_eq (pe_ix ix_list (pe_call F__law_said (hr.mono (by decide)) rfl g.g__law_said K__law_said B__law_said .nil pq (pa_cons (pv 7) (pa_cons (pv 10) pa_nil))) pe_int (fun _ _ => rfl)) pe_str (nomark _)) (pss_cons (ps_set (i := 6) sc_law.nd rfl (Or.inl rfl) (pe_op op_cat (pv 6) (pe_lst (pa_cons (pv 10) pa_nil))))
      (pss_one (ps_if (pt_cmpR op_eq (pe_call F__law_take (hr.mono (by decide)) rfl g.g__law_take K__law_take B__law_take .nil pq (pa_cons (pv 2) (pa_cons pe_int pa_nil))) pe_int (nomark _)) (pss_one (ps_set (i := 8) sc_law.nd rfl (Or.inl rfl) (pe_tup (pa_cons (pe_call F__law_state (hr.mono (by decide)) rfl g.g__law_state K__law_state B__law_state .nil pq (pa_cons (pv 7) pa_nil)) (pa_cons (pe_callB call_len (by rfl) g.f_len (by decide +kernel) (pa_cons (pv 6) pa_nil)) pa_nil))))) pss_nil))) (pss_one (ps_if (pt_cmpR (op_neG mon_it (EqG.or ((eqG_ins F_Kind___eq__ g.fi_Kind___eq__ g.if_Kind___eq__ B_Kind___eq__ pqF).mono (by decide : 2 ≤ 2)) ((eqG_list mon_flat eqG_flat).mono (by decide : 1 ≤ 2))) (hr.mono (by decide))) (pe_call F__law_state (hr.mono (by decide)) rfl g.g__law_state K__law_state B__law_state .nil pq (pa_cons (pv 7) pa_nil)) (pv 9) (nomark _)) (pss_one (ps_ret pe_bl)) pss_nil)))))))
      (pss_cons (ps_if (PW.pt (pw_or (pt_cmpR (op_neG mon_flat eqG_flat (hr.mono (by decide))) (pe_meth0 (pv 7) g.k_Session g.e_Session_done F_Session_done (hr.mono (by decide)) B_Session_done .nil pq) (pv 6) (nomark _)) (pw_or1 (pt_not (pt_val (pe_call F__law_replayed (hr.mono (by decide)) rfl g.g__law_replayed K__law_replayed B__law_replayed .nil pq (pa_cons (pv 5) (pa_cons (pv 7) (pa_cons (pv 6) (pa_cons (pv 8) pa_nil)))))))))) (pss_one (ps_ret pe_bl)) pss_nil)
      (pss_one (ps_if (pt_not (pt_val (pe_call F__law_long_right (hr.mono (by decide)) rfl g.g__law_long_right K__law_long_right B__law_long_right .nil pq (pa_cons (pv 2) (pa_cons (pv 5) pa_nil))))) (pss_one (ps_ret pe_bl)) pss_nil)))))))))
      (pss_one (ps_ret pe_bl))), ?_⟩
    walk_at "k9"
    rw [tFor_rng1]
    walk_at "k9"
    refine ⟨_, .inl ⟨_, hsl, rfl⟩, ?_⟩
    rw [List.length_map]
    have hmany : ∃ k : Nat, (if (if (ns.length : Int) < 2 then (ns.length : Int) else 2) > 1 then (if (ns.length : Int) < 2 then (ns.length : Int) else 2) else 1) = (k : Int) ∧ k ≤ 2 :=
      ⟨(if (if (ns.length : Int) < 2 then (ns.length : Int) else 2) > 1 then (if (ns.length : Int) < 2 then (ns.length : Int) else 2) else 1).toNat, by split <;> split <;> omega, by split <;> split <;> omega⟩
    obtain ⟨k, ek, hk⟩ := hmany
    rw [ek]
    refine ⟨by omega, by omega, ?_⟩
    rw [Int.toNat_natCast]
    refine fj walk_range (fun i σ Hc => ∃ c1 c2 c3 c4 c5 c6 c7 c8 c9 c10, σ = [some (V.ref sa), c1, c2, c3, c4, c5, c6, c7, c8, c9, c10] ∧ Same H Hc) ⟨_, _, _, _, _, _, _, _, _, _, rfl, Same.refl _⟩ (fun _ _ _ _ _ => trivial)
      (fun i v σ Hk H' hi ⟨c1, c2, c3, c4, c5, c6, c7, c8, c9, c10, eσ, sk⟩ ⟨eH, ev⟩ => ?_) (fun σ Hc ⟨c1, c2, c3, c4, c5, c6, c7, c8, c9, c10, eσ, sk⟩ => ?_)
    · subst eH eσ ev
      walk_at "k9"
      simp only [Int.zero_add]
      refine ⟨sa, i, ns, rfl, sk.seq hsl, by omega, by omega, fun jv => ?_⟩
      refine ⟨jv, rfl, fun x0 y b hx0 hbn => ⟨by decide, fun rw hrw => ⟨by decide, fun p1 hp1 => ?_⟩⟩⟩
      have s1 : Same H' (upd H' b (bx x0 y 0)) := sm1 hbn
      change (upd (upd H' b (bx x0 y 0)) rw (.lst (row0.map V.str))) p1 = none at hp1
      have s13 := Same.upd (o := .lst [V.int 60]) (sm1 (o := .lst (row0.map V.str)) hrw) hp1
      have b3 := s13 _ _ (upd_same (H := H') (a := b) (o := bx x0 y 0))
      have rw3 := sm1 (o := .lst [V.int 60]) hp1 _ _ (upd_same (a := rw) (o := .lst (row0.map V.str)))
      have p3 : (upd (upd (upd H' b (bx x0 y 0)) rw (.lst (row0.map V.str))) p1 (.lst [V.int 60])) p1 = some (.lst [V.int 60]) := upd_same
      have s3 := s1.trans s13
      show sp__law_take K [V.ref b, V.int 4] (upd (upd (upd H' b (bx x0 y 0)) rw (.lst (row0.map V.str))) p1 (.lst [V.int 60])) _ _
      generalize upd (upd (upd H' b (bx x0 y 0)) rw (.lst (row0.map V.str))) p1 (.lst [V.int 60]) = H3 at *
      refine ⟨b, x0, y, 0, 0, 4, rfl, b3, hx0, by decide, by decide, by decide, fun d x1 z1 hd0 hd4 hx1 => fun x5 dx5 hx5 hdx5 hne5 => ?_⟩
      have n1b : ∀ q ∈ [b], H' q = none := fun q hq => by rw [List.mem_singleton.mp hq]; exact hbn
      have c4 : ChgL [b] H3 (upd H3 b (bx x1 y z1)) := .upd (by simp)
      have s4 := Same.far s3 c4 n1b
      have rw4 := c4 _ _ (bx_str b3 rw3) rw3
      have p4 : (upd H3 b (bx x1 y z1)) p1 = some (.lst [V.int 60]) := c4 _ _ (fun q => by rw [List.mem_singleton.mp q, b3] at p3; cases p3) p3
      have b4 : (upd H3 b (bx x1 y z1)) b = some (bx x1 y z1) := upd_same
      generalize upd H3 b (bx x1 y z1) = H4 at *
      refine ⟨x5, dx5, p1, [60], 2000, d, rfl, upd_same, .inl (made_same hx5 hdx5 (fun _ _ _ e => e) _ _ p4), by decide, by decide, (fun hn => by rw [kind60 (by decide) hd0 (by omega)] at hn; cases hn), fun kk hkk H5 c5 k5 => ⟨rfl, by decide, fun r hr => ⟨Nat.zero_le _, fun ln hln => ?_⟩⟩⟩
      rw [kind60 (by decide) hd0 (by omega)] at hkk
      cases hkk
      have s45 := made_same hx5 hdx5 c5
      have s57 := Same.upd (o := .lst []) (sm1 (o := .lst [V.ref x5, V.ref rw]) hr) hln
      have r7 := sm1 (o := .lst []) hln _ _ (upd_same (H := H5) (a := r) (o := .lst [V.ref x5, V.ref rw]))
      have k7 := k5.same s57
      have rw7 := (s45.trans s57) _ _ rw4
      have b7 := (s45.trans s57) _ _ b4
      have s7 := s4.trans (s45.trans s57)
      have ln7 : (upd (upd H5 r (.lst [V.ref x5, V.ref rw])) ln (.lst [])) ln = some (.lst (([] : List Str).map V.str)) := upd_same
      generalize upd (upd H5 r (.lst [V.ref x5, V.ref rw])) ln (.lst []) = H7 at *
      have ok0 : StOk 100 ⟨⟨[60], 2000, d⟩, Txt.join "\n" row0⟩ := ⟨(show (1 : Nat) ≤ 1 ∧ (1 : Nat) ≤ 4 from ⟨by decide, by decide⟩), (by show (Txt.join "\n" row0).length ≤ 100; decide +kernel), prog0⟩
      have ls7 : LsAt K H7 r ⟨⟨[60], 2000, d⟩, Txt.join "\n" row0⟩ := ⟨x5, rw, r7, k7, by show H7 rw = some (.lst ((Txt.split (Txt.join "\n" row0) "\n").map V.str)); rw [split0]; exact rw7⟩
      refine ⟨r, ⟨⟨[60], 2000, d⟩, Txt.join "\n" row0⟩, rfl, ls7, Nat.le_trans ok0.2.1 (by decide), prog0, fun a m u H8 s8 hs8 na nm nu => ⟨by decide, fun hf hhf => ?_⟩⟩
      generalize hs0 : (⟨⟨[60], 2000, d⟩, Txt.join "\n" row0⟩ : Stt) = s0 at *
      have s79 := Same.upd (o := .tup [V.ref r, V.int 0]) s8 hhf
      have b9 := s79 _ _ b7
      have hs9 := hs8.same g (sm1 (o := .tup [V.ref r, V.int 0]) hhf)
      have ls9 := ls7.same s79
      have ln9 := s79 _ _ ln7
      have hf9 : (upd H8 hf (.tup [V.ref r, V.int 0])) hf = some (.tup [V.ref r, V.int 0]) := upd_same
      have s9 := s7.trans s79
      have lnn : ln ∉ [a, m, u] := apart3 ln7 na nm nu
      generalize upd H8 hf (.tup [V.ref r, V.int 0]) = H9 at *
      rw [tFor_rng1]
      walk_at "k9"
      refine ⟨b, x1, y, z1, 0 + 1, 11, rfl, b9, hx1, by decide, by decide, by decide, fun laps x2 z2 hl0 hl11 hx2 => ⟨laps, rfl, by omega, by omega, ?_⟩⟩
      have c10 : ChgL [b] H9 (upd H9 b (bx x2 y z2)) := .upd (by simp)
      have i10 := bx_imm (K := K) b9 c10
      have nbs := bx_ses b9 hs9
      have li0 : LI K H' (upd H9 b (bx x2 y z2)) b r a m y s0 0 ln hf := by
        refine ⟨r, u, 0, x2, z2, s0, [], [], Same.far s9 c10 n1b, upd_same, ?_, ls9.far g c10 i10 (bx_ls b9 ls9), hs9.far g c10 i10 nbs.1 nbs.2.1 nbs.2.2, c10 _ _ (bx_str b9 ln9) ln9, lnn, i10 _ _ trivial hf9, ls9.far g c10 i10 (bx_ls b9 ls9), by decide, Nat.zero_le _, Nat.zero_le _, (fun _ h => nomatch h), .nil ok0, ok0.mono (by decide), rfl, s7.free nu⟩
        obtain ⟨e1, e2, e3, e4, e5⟩ := hx2
        exact ⟨e1, e2, e3, e4, by omega⟩
      have fa : H' a = none := s7.free na
      have fm : H' m = none := s7.free nm
      generalize upd H9 b (bx x2 y z2) = H10 at *
      refine fj walk_range (fun e σ Hc => ∃ c4 ln hf c9 c10, σ = [some (V.ref sa), some (V.int i), some (V.ref b), some (V.ref rw), c4, some (V.ref r), some (V.ref ln), some (V.ref a), some (V.ref hf), c9, c10] ∧ LI K H' Hc b r a m y s0 e ln hf)
        ⟨_, ln, hf, _, _, rfl, li0⟩ (fun _ _ _ _ _ => trivial) (fun e v σ Hc Hn hi ⟨c4, ln, hf, c9, c10, eσ, li⟩ ⟨eH, ev⟩ => ?_) (fun σ Hc ⟨c4, ln, hf, c9, c10, eσ, li⟩ => ?_)
      · subst eH eσ ev
        obtain ⟨rh, u, j, x, z, sh, md, lines, skc, eb, hx, lr, hs, eln, nln, ehf, lh, hj, hjl, hll, hlc, rn, okh, rnh, fu⟩ := li
        have he10 : e < 10 := by omega
        have tb : (cur s0 md).t.length ≤ 3000 := by have := rn.ok.2.1; omega
        walk_at "k9"
        refine ⟨a, m, u, s0, md, [], rfl, hs, by omega, fun p9 G1 w1 hp9 L9 => ?_⟩
        obtain ⟨kr, tr, q1, q2, q3⟩ := id L9
        have pr := prog_rows rn.rows
        refine ⟨p9, rfl, _, .of q1, _, at1, b, x, y, z, _, tr, Txt.split (cur s0 md).t "\n", rfl, w1 _ _ eb, hx, by omega, q3, pr.1, by have := pr.2.1; omega, (fun r' hr' => by have := split_mem sep_nl hr'; omega), pr.2.2, fun x' z' l G2 hx' eb2 c2 hl hcl => ?_⟩
        have eb1 := w1 _ _ eb
        have i2 := bx_imm (K := K) eb1 c2
        have hs1 := hs.same g w1
        have nbs1 := bx_ses eb1 hs1
        have hs2 := hs1.far g c2 i2 nbs1.1 nbs1.2.1 nbs1.2.2
        have lr1 := lr.same w1
        have lr2 := lr1.far g c2 i2 (bx_ls eb1 lr1)
        have lh1 := lh.same w1
        have lh2 := lh1.far g c2 i2 (bx_ls eb1 lh1)
        have eln1 := w1 _ _ eln
        have eln2 := c2 _ _ (bx_str eb1 eln1) eln1
        have ehf2 : G2 hf = some (.tup [V.ref rh, V.int j]) := i2 _ (.tup [V.ref rh, V.int j]) trivial (w1 _ _ ehf)
        have sk2 := Same.far (skc.trans w1) c2 n1b
        have L92 := L9.far g c2 i2 (bx_ls eb1 L9)
        have nbl : b ∉ [a, m, u] := n3 (fun q => nbs1.1 (by simp [q])) (fun q => nbs1.2.1 (by simp [q])) (fun q => nbs1.2.2 (by simp [q]))
        have sy := rn.say hcl hl (by omega)
        cases hst : stepM (cur s0 md) l with
        | none =>
          refine ⟨a, m, u, s0, md, [], l, rfl, hs2, by rw [rn.len]; omega, Nat.zero_le _, .inl sy, fun hn r3 G3 w3 hr3 er3 => ?_, fun md' un' hm => by rw [say_chg hcl, hst] at hm; cases hm⟩
          refine ⟨r3, rfl, _, .of er3, _, at0, rfl, ?_⟩
          rw [if_neg (by decide +kernel)]
          have hs3 := hs2.same g w3
          refine ⟨a, m, u, s0, md, [], rfl, hs3, by omega, fun p5 G5 w5 hp5 L5 => ⟨dl_state L5 ((L92.same w3).same w5), fun G6 e6 => ⟨_, rfl, ?_⟩⟩⟩
          rw [if_neg (by decide)]
          have w36 : Same G2 G6 := (w3.trans w5).trans e6
          refine ⟨rh, u, j, x', z', sh, md, lines, sk2.trans w36, w36 _ _ eb2, ?_, lr2.same w36, hs2.same g w36, w36 _ _ eln2, nln, w36 _ _ ehf2, lh2.same w36, hj, hjl, by omega, hlc, rn, okh, rnh, fu⟩
          obtain ⟨k1, k2, k3, k4, k5⟩ := hx'
          exact ⟨k1, k2, k3, k4, by omega⟩
        | some s' =>
          refine ⟨a, m, u, s0, md, [], l, rfl, hs2, by rw [rn.len]; omega, Nat.zero_le _, .inl sy, (fun hn => by rw [say_chg hcl, hst] at hn; cases hn), fun md' un' hm r3 e3 u' G3 c3 hs3 hu3 er3 ee3 => ?_⟩
          rw [say_chg hcl, hst] at hm
          cases hm
          have i3 := hs2.imm c3
          have eb3 := c3 _ _ nbl eb2
          have sk3 := Same.far sk2 c3 (mem3 fa fm fu)
          have fu' : H' u' = none := by
            rcases hu3 with q | q
            · rw [q]; exact fu
            · exact sk2.free q
          have lr3 := lr2.far g c3 i3 (ls_apart lr2 hs2)
          have lh3 := lh2.far g c3 i3 (ls_apart lh2 hs2)
          have eln3 := c3 _ _ nln eln2
          have ehf3 : G3 hf = some (.tup [V.ref rh, V.int j]) := i3 _ (.tup [V.ref rh, V.int j]) trivial ehf2
          have rn3 := rn.snoc hl hst (by omega)
          have ecur : cur s0 (md ++ [(s', [l])]) = s' := cur_snoc
          have rnh3 : runM sh ((lines ++ [l]).drop j.toNat) = some (cur s0 (md ++ [(s', [l])])) := by
            rw [List.drop_append_of_le_length hjl, runM_app, rnh, ecur]
            show (stepM (cur s0 md) l).bind some = _
            rw [hst]; rfl
          refine ⟨r3, rfl, _, .of er3, _, at0, rfl, ?_⟩
          rw [if_pos rfl]
          refine ⟨by decide, fun p1 hp1 => ⟨_, sm1 hp1 _ _ eln3, _, upd_same, by rw [sizeLine_eq, List.length_map]; simp; omega, fun p2 hp2 => ?_⟩⟩
          have el : lines.map V.str ++ [V.str l] = (lines ++ [l]).map V.str := by rw [List.map_append]; rfl
          rw [el]
          have w5 := Same.upd (o := .lst ((lines ++ [l]).map V.str)) (sm1 (o := .lst [V.str l]) hp1) hp2
          have ln5 : (upd (upd G3 p1 (.lst [V.str l])) p2 (.lst ((lines ++ [l]).map V.str))) p2 = some (.lst ((lines ++ [l]).map V.str)) := upd_same
          have nln5 : p2 ∉ [a, m, u'] := (hs3.same g (sm1 (o := .lst [V.str l]) hp1)).apart hp2
          have eb5 := w5 _ _ eb3
          generalize upd (upd G3 p1 (.lst [V.str l])) p2 (.lst ((lines ++ [l]).map V.str)) = G5 at *
          have hs5 := hs3.same g w5
          refine ⟨b, x', y, z', _, 3, rfl, eb5, hx', by omega, by decide, by decide, fun d3 x2 z2 hd0' hd3' hx2 => ⟨rfl, ?_⟩⟩
          have c6 : ChgL [b] G5 (upd G5 b (bx x2 y z2)) := .upd (by simp)
          have i6 := bx_imm (K := K) eb5 c6
          have nbs5 := bx_ses eb5 hs5
          have hs6 := hs5.far g c6 i6 nbs5.1 nbs5.2.1 nbs5.2.2
          have eb6 : (upd G5 b (bx x2 y z2)) b = some (bx x2 y z2) := upd_same
          have lr5 := lr3.same w5
          have lr6 := lr5.far g c6 i6 (bx_ls eb5 lr5)
          have lh5 := lh3.same w5
          have lh6 := lh5.far g c6 i6 (bx_ls eb5 lh5)
          have ln6 := c6 _ _ (bx_str eb5 ln5) ln5
          have hf6 : (upd G5 b (bx x2 y z2)) hf = some (.tup [V.ref rh, V.int j]) := i6 _ (.tup [V.ref rh, V.int j]) trivial (w5 _ _ ehf3)
          have sk6 := Same.far (sk3.trans w5) c6 n1b
          have bk6 : BoxOk x2 y z2 (10 + 20 * ((e + 1 : Nat) : Int)) := by
            obtain ⟨k1, k2, k3, k4, k5⟩ := hx2
            exact ⟨k1, k2, k3, k4, by omega⟩
          have ll3 : (lines ++ [l]).length ≤ e + 1 := by rw [List.length_append]; simp; omega
          have lc3 : ∀ q ∈ lines ++ [l], Chg q ∧ q.length ≤ 200 := fun q hq => by
            rcases List.mem_append.mp hq with hq | hq
            · exact hlc q hq
            · rw [List.mem_singleton.mp hq]; exact ⟨hcl, hl⟩
          generalize upd G5 b (bx x2 y z2) = G6 at *
          by_cases cd : V.int d3 = V.int 0
          · rw [if_pos cd]
            have tb3 : (cur s0 (md ++ [(s', [l])])).t.length ≤ 3000 := by have := rn3.ok.2.1; omega
            refine ⟨a, m, u', s0, _, [], rfl, hs6, by omega, fun p7 G7 w7 hp7 L7 => ⟨_, .inl ⟨_, .of (w7 _ _ ln6), rfl⟩, by decide, fun p8 hp8 => ?_⟩⟩
            have w8 := Same.upd (o := .tup [V.ref p7, V.int (((lines ++ [l]).map V.str).length : Int)]) w7 hp8
            refine ⟨p7, u', ((lines ++ [l]).map V.str).length, x2, z2, cur s0 (md ++ [(s', [l])]), _, lines ++ [l], sk6.trans w8, w8 _ _ eb6, bk6, lr6.same w8, hs6.same g w8, w8 _ _ ln6, nln5, upd_same, L7.same (sm1 hp8), by omega, by rw [List.length_map]; omega, ll3, lc3, rn3, rn3.ok.mono (by omega), ?_, fu'⟩
            rw [List.length_map, Int.toNat_natCast, List.drop_length]
            rfl
          · rw [if_neg cd]
            exact ⟨rh, u', j, x2, z2, sh, _, lines ++ [l], sk6, eb6, bk6, lr6, hs6, ln6, nln5, hf6, lh6, hj, by rw [List.length_append]; omega, ll3, lc3, rn3, okh, rnh3, fu'⟩
      · subst eσ
        walk_at "k9"
        obtain ⟨rh, u, j, x, z, sh, md, lines, skc, eb, hx, lr, hs, eln, nln, ehf, lh, hj, hjl, hll, hlc, rn, okh, rnh, fu⟩ := li
        have l10 : lines.length ≤ 10 := by omega
        obtain ⟨dx, o, e1, _⟩ := hs.ex
        refine ⟨dx, _, e1, len3 _ (by decide +kernel) (by decide +kernel) (by decide +kernel), a, m, u, s0, md, [], rfl, hs, by rw [rn.len]; omega, by rw [rn.dn]; omega, fun r1 G1 w1 hr1 er1 => ?_⟩
        rw [rn.dn] at er1
        refine ⟨dl_strs er1 (w1 _ _ eln), fun G2 e2 => ⟨_, rfl, ?_⟩⟩
        rw [if_neg (by decide)]
        have w2 : Same Hc G2 := w1.trans e2
        refine ⟨r, a, m, u, ln, hf, rh, j, s0, sh, md, lines, rfl, lr.same w2, hs.same g w2, w2 _ _ eln, w2 _ _ ehf, lh.same w2, hj, l10, hlc, rn, ok0, okh, rnh, fun G3 w3 => ⟨_, rfl, ?_⟩⟩
        rw [if_neg (by decide)]
        have w23 := w2.trans w3
        refine ⟨b, r, x, y, z, _, d, Txt.join "\n" row0, rfl, w23 _ _ eb, hx, by omega, hd0, by omega, by rw [hs0]; exact lr.same w23, by rw [hs0]; exact ok0, fun G4 c4 => ⟨_, rfl, ?_⟩⟩
        rw [if_neg (by decide)]
        exact sk.trans (Same.far (skc.trans w23) c4 n1b)
    · subst eσ
      walk_at "k9"
      exact q _
end
end L2.K9
set_option maxHeartbeats 0
namespace L2.K9
open PySem PySem.Spec PyProof.Rows He
/-- the law at what the top has left -/
theorem law_at (w : World) (mg : Str → Option Value) (fa : Addr) (h : Heap) (Y : hk9.says w h) (G : h.Ns mainGlobals mg) (hmg : mg ("law" : Str) = some (.ref fa)) :
    ∃ K : PySem.W.Frag, K.In h ∧ LamX.LawAtS PySem.Challenge.rw_everyzone_k99_whole_sessions_replayed w K (L2.CX PySem.Challenge.rw_everyzone_k99_whole_sessions_replayed.prog w) 16 63 "_law_script" mg fa h := by
  obtain ⟨K, KX, c⟩ := Y
  have g := gt_of KX G c
  have efa : fa = ga K "law" := by
    have e := hmg.symm.trans g.g_law
    cases e
    rfl
  subst efa
  obtain ⟨fd, F⟩ := g.d_law
  have b := FunD.bindsA (ps := ["_law_script"]) F fun _ _ _ _ _ _ us hl => match us, hl with | [_], _ => rfl
  exact ⟨K, KX, fd, [], sp_law K, (fun p hp => nomatch hp), (fun p hp => nomatch hp), (fun p hp => nomatch hp), (fun s u => b s [u] rfl), (fun H a ns hl hb _ hS => ⟨a, ns, rfl, hS, hl, fun _ => rfl⟩), fun base _ _ _ => (ok_law g F).1⟩
theorem no_cx (w : World) (H : Hp) (s : Shared) (e : Value) (s' : Shared) (h : L2.CX PySem.Challenge.rw_everyzone_k99_whole_sessions_replayed.prog w [] H s (fun _ _ _ => False) e s') : False := by
  obtain ⟨_, _, _, _, _, _, _, _, _, _, _, _, z⟩ := h
  exact z
end L2.K9
namespace HS
open PySem PySem.W PySem.Calls PyProof.Rows HandSHeadRun K99
theorem run_of {w : World} (a : ∀ os : OsState, (endS (denQ tabQ) 20000 R.prog w os).map (fun s => (looksF R.prog (boot_heap w.params) s.abs, seenQ qv names (importedModules R.prog.main.body) (fun s => xlAt qv [] s && recOk R.toRowW.records s) s.abs)) = some (true, openGood qv names))
    (b : ∀ os : OsState, (endS (denQ tabQ) 20000 R.prog w os).map L2.K9.ob9 = some (L2.K9.val9 w)) : RunEq R qv L2.K9.hk9 L2.K9.ob9 20000 names w := by
  intro os
  obtain ⟨s, hs, ha⟩ := Option.map_eq_some_iff.mp (a os)
  have hb := b os
  rw [hs] at hb
  have hb : L2.K9.ob9 s = L2.K9.val9 w := Option.some.inj hb
  rw [endS_ok hs]
  obtain ⟨h1, h2⟩ := Prod.mk.inj ha
  exact congrArg some (Prod.ext h1 (Prod.ext h2 hb))
theorem run (w : World) : RunEq R qv L2.K9.hk9 L2.K9.ob9 20000 names w :=
  byRow2 "special-get-raises" (P := fun w => RunEq R qv L2.K9.hk9 L2.K9.ob9 20000 names w) (fun w => run_of (rA_false w) (rB_false w)) (fun w => run_of (rA_true w) (rB_true w)) w
end HS
open PySem PySem.W PySem.Calls PyProof.Rows
theorem PySem.Challenge.cw_everyzone_k99_whole_sessions_replayed_holds : PySem.Challenge.rw_everyzone_k99_whole_sessions_replayed.Holds := by
  refine HS.t_pre fun said => ?_
  refine HandSHeadRun.head_any (r := OpenLaw.row PySem.Challenge.rw_everyzone_k99_whole_sessions_replayed) (q := K99.qv) (H := L2.K9.hk9) (ob := L2.K9.ob9) (M := 20000) (loose := K99.names) (d := HandSHeadRun.topDef (OpenLaw.row PySem.Challenge.rw_everyzone_k99_whole_sessions_replayed).prog 167) (kwd := []) L2.K9.ob9_eq
    HS.t_open HS.t_fence HS.run HS.t_def HS.t_the HS.t_kw (by rfl) said HS.t_ok HS.t_bare HS.t_wit ?hc
  case hc =>
    refine LamX.walk_ofTsE (l := PySem.Challenge.rw_everyzone_k99_whole_sessions_replayed) (n := 63) (k := 16) (x := "_law_script") (CX := fun w => L2.CX PySem.Challenge.rw_everyzone_k99_whole_sessions_replayed.prog w) rfl (by decide) HS.t_dfl ⟨rfl, by decide, by decide⟩ ?F ?X
    case X => exact L2.K9.no_cx
    case F =>
      intro w mg fa h Y G hmg0
      refine L2.K9.law_at w mg fa h Y G ?_
      rw [← HS.t_name]
      exact hmg0
