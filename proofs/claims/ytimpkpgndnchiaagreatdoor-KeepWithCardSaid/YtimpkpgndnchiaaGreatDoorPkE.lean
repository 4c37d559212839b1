/- The abstract run of the model, proved right (part 5 of 7). For every program. -/
import Derived.Test.YtimpkpgndnchiaaGreatDoorPkD
import Derived.Calls
set_option linter.unusedSectionVars false
set_option linter.unusedSimpArgs false
set_option linter.unusedVariables false
/- The abstract run is sound: frames and their steps. -/
namespace Pk
open Go Go.RowKit

/-- A frame that runs. -/
def mkF (fn : FuncId) (kd : CallKind) (rnd : Option Nat) (tmps : Array Value) (ds : List Deferred) (todo : List Item) : Frame :=
  { fn, tmps, todo, defers := ds, mode := .run, kind := kd, roundOf := rnd }

section
variable {P : Program} {fn : FuncId} {kd : CallKind} {rnd : Option Nat} {tmps : Array Value} {ds : List Deferred} {k : List Item} {cs : List Frame} {w : World}

theorem mkF_eval (todo : List Item) : (mkF fn kd rnd tmps ds todo).eval = Act.eval ⟨tmps, ds⟩ := by
  funext x; cases x <;> rfl

theorem st_skip : step P (lone (mkF fn kd rnd tmps ds (.code .skip :: k)) cs w) = .next (lone (mkF fn kd rnd tmps ds k) cs w) :=
  step_lone_go (by simp [stepG, stepG.exec, mkF])
theorem st_label {l : Nat} : step P (lone (mkF fn kd rnd tmps ds (.code (.label l) :: k)) cs w) = .next (lone (mkF fn kd rnd tmps ds k) cs w) :=
  step_lone_go (by simp [stepG, stepG.exec, mkF])
theorem st_inBlock {id : Nat} : step P (lone (mkF fn kd rnd tmps ds (.inBlock id :: k)) cs w) = .next (lone (mkF fn kd rnd tmps ds k) cs w) :=
  step_lone_go (by simp [stepG, stepG.exec, mkF])
theorem st_inScope {c : Code} : step P (lone (mkF fn kd rnd tmps ds (.inScope c :: k)) cs w) = .next (lone (mkF fn kd rnd tmps ds k) cs w) :=
  step_lone_go (by simp [stepG, stepG.exec, mkF])
theorem st_seq {x y : Code} : step P (lone (mkF fn kd rnd tmps ds (.code (.seq x y) :: k)) cs w) = .next (lone (mkF fn kd rnd tmps ds (.code x :: .code y :: k)) cs w) :=
  step_lone_go (by simp [stepG, stepG.exec, mkF])
theorem st_cond {c : Operand} {x y : Code} {t : Bool} (h : Act.eval ⟨tmps, ds⟩ c = .bool t) :
    step P (lone (mkF fn kd rnd tmps ds (.code (.cond c x y) :: k)) cs w) = .next (lone (mkF fn kd rnd tmps ds (.code (if t then x else y) :: k)) cs w) :=
  step_lone_go (by
    have := congrFun (mkF_eval (fn := fn) (kd := kd) (rnd := rnd) (tmps := tmps) (ds := ds) (.code (.cond c x y) :: k)) c
    simp only [mkF] at this
    simp [stepG, stepG.exec, mkF, this, h])
theorem st_block {id : Nat} {c : Code} : step P (lone (mkF fn kd rnd tmps ds (.code (.block id c) :: k)) cs w) = .next (lone (mkF fn kd rnd tmps ds (.code c :: .inBlock id :: k)) cs w) :=
  step_lone_go (by simp [stepG, stepG.exec, mkF])
theorem st_loop {c : Code} : step P (lone (mkF fn kd rnd tmps ds (.code (.loop c) :: k)) cs w) = .next (lone (mkF fn kd rnd tmps ds (.code c :: .inLoop c :: k)) cs w) :=
  step_lone_go (by simp [stepG, stepG.exec, mkF])
theorem st_inLoop {c : Code} : step P (lone (mkF fn kd rnd tmps ds (.inLoop c :: k)) cs w) = .next (lone (mkF fn kd rnd tmps ds (.code c :: .inLoop c :: k)) cs w) :=
  step_lone_go (by simp [stepG, stepG.exec, mkF])
theorem st_scope {c : Code} : step P (lone (mkF fn kd rnd tmps ds (.code (.scope c) :: k)) cs w) = .next (lone (mkF fn kd rnd tmps ds (.code c :: .inScope c :: k)) cs w) :=
  step_lone_go (by simp [stepG, stepG.exec, mkF])
theorem st_exit {id : Nat} {k' : List Item} (h : exitTo id k = some k') :
    step P (lone (mkF fn kd rnd tmps ds (.code (.exit id) :: k)) cs w) = .next (lone (mkF fn kd rnd tmps ds k') cs w) :=
  step_lone_go (by simp [stepG, stepG.exec, mkF, h])
theorem st_goto {l : Nat} {k' : List Item} (h : gotoIn l k = some k') :
    step P (lone (mkF fn kd rnd tmps ds (.code (.goto l) :: k)) cs w) = .next (lone (mkF fn kd rnd tmps ds k') cs w) :=
  step_lone_go (by simp [stepG, stepG.exec, mkF, h])
theorem st_region {id : Nat} {ops : Array Oper} :
    step P (lone (mkF fn kd rnd tmps ds (.code (.region id ops false) :: k)) cs w) = .next (lone (mkF fn kd rnd tmps ds (.inRegion ops (List.range ops.size) :: k)) cs w) :=
  step_lone_go (by simp [stepG, stepG.exec, mkF])
theorem st_region_draw {id : Nat} {ops : Array Oper} :
    step P (lone (mkF fn kd rnd tmps ds (.code (.region id ops true) :: k)) cs w) =
      .next (lone (mkF fn kd rnd tmps ds (.inRegion ops (Region.schedule (P.follows .mixedOrders) ops (w.tape w.drawn (.order fn id))) :: k)) cs { w with drawn := w.drawn + 1 }) :=
  step_lone_go (by simp [stepG, stepG.exec, mkF, choose, Sem.run, Question.forced, Question.cut])
theorem st_region_end {ops : Array Oper} : step P (lone (mkF fn kd rnd tmps ds (.inRegion ops [] :: k)) cs w) = .next (lone (mkF fn kd rnd tmps ds k) cs w) :=
  step_lone_go (by simp [stepG, stepG.exec, mkF])

/-- A slot set, where there is one. -/
def putD (tmps : Array Value) (dst : Option Tmp) (v : Value) : Array Value := match dst with
  | some d => tmps.setIfInBounds d v
  | none => tmps

theorem finish_mkF {ops : Array Oper} {i : Nat} {rest : List Nat} {o : Oper} (ho : ops[i]? = some o) (v : Value) :
    (mkF fn kd rnd tmps ds (.inRegion ops (i :: rest) :: k)).finish v = mkF fn kd rnd (putD tmps o.dst v) ds (.inRegion ops rest :: k) := by
  cases h : o.dst <;> simp [Frame.finish, mkF, putD, ho, h]

theorem st_op_skip {ops : Array Oper} {i : Nat} {rest : List Nat} {o : Oper} (ho : ops[i]? = some o) (hw : Region.wanted o (yielded ops tmps) = false) :
    step P (lone (mkF fn kd rnd tmps ds (.inRegion ops (i :: rest) :: k)) cs w) = .next (lone (mkF fn kd rnd (putD tmps o.dst undef) ds (.inRegion ops rest :: k)) cs w) := by
  rw [← finish_mkF ho]
  exact step_lone_go (by
    simp only [mkF]
    simp [stepG, stepG.exec, ho, hw])

theorem stepG_mkF {ops : Array Oper} {i : Nat} {rest : List Nat} {o : Oper} (ho : ops[i]? = some o) (hw : Region.wanted o (yielded ops tmps) = true) (hr : rnd = none ∨ ∀ c, o.op ≠ .defer c) :
    stepG P true { frame := mkF fn kd rnd tmps ds (.inRegion ops (i :: rest) :: k), callers := cs, status := .running, dying := none } w =
      stepG.apply P true (mkF fn kd rnd tmps ds (.inRegion ops (i :: rest) :: k)) cs none (execOp (Act.eval ⟨tmps, ds⟩) o) w := by
  have he := mkF_eval (fn := fn) (kd := kd) (rnd := rnd) (tmps := tmps) (ds := ds) (.inRegion ops (i :: rest) :: k)
  simp only [mkF] at he
  rcases hr with rfl | hr
  · simp [stepG, stepG.exec, stepG.oper, Frame.oper?, mkF, ho, hw, he]
  · cases hop : o.op <;> first
      | exact absurd hop (hr _)
      | (cases rnd <;> simp [stepG, stepG.exec, stepG.oper, Frame.oper?, mkF, ho, hw, he, hop])

/-- An operation that gives a value (or nothing), stepped. -/
theorem st_op_val {ops : Array Oper} {i : Nat} {rest : List Nat} {o : Oper} {n : Next} {v : Value} {w' : World} (ho : ops[i]? = some o) (hw : Region.wanted o (yielded ops tmps) = true)
    (hr : rnd = none ∨ ∀ c, o.op ≠ .defer c) (h : (execOp (Act.eval ⟨tmps, ds⟩) o).run P w = .ok n w') (hn : NextIs n v) :
    step P (lone (mkF fn kd rnd tmps ds (.inRegion ops (i :: rest) :: k)) cs w) = .next (lone (mkF fn kd rnd (putD tmps o.dst v) ds (.inRegion ops rest :: k)) cs w') := by
  refine step_lone_go ?_
  rw [stepG_mkF ho hw hr, ← finish_mkF ho]
  rcases hn with rfl | ⟨rfl, rfl⟩ <;> simp [stepG.apply, h]

/-- An operation that panics, stepped. -/
theorem st_op_pan {ops : Array Oper} {i : Nat} {rest : List Nat} {o : Oper} {v : Value} {w' : World} (ho : ops[i]? = some o) (hw : Region.wanted o (yielded ops tmps) = true)
    (hr : rnd = none ∨ ∀ c, o.op ≠ .defer c) (h : (execOp (Act.eval ⟨tmps, ds⟩) o).run P w = .halt (.panic v) w') :
    step P (lone (mkF fn kd rnd tmps ds (.inRegion ops (i :: rest) :: k)) cs w) =
      .next (lone { mkF fn kd rnd tmps ds (.inRegion ops (i :: rest) :: k) with mode := .panicking [{ v, recovered := false }] } cs w') := by
  refine step_lone_go ?_
  rw [stepG_mkF ho hw hr]
  simp [stepG.apply, h, Frame.raise, mkF]

end
end Pk
/- The abstract run is sound: steps of calls, deferred calls, recover, loops over functions, unwinding. -/
namespace Pk
open Go Go.RowKit

section
variable {P : Program} {fn : FuncId} {kd : CallKind} {rnd : Option Nat} {tmps : Array Value} {ds : List Deferred} {k : List Item} {cs : List Frame} {w : World}

/-- A call entered. -/
theorem st_op_enter {ops : Array Oper} {i : Nat} {rest : List Nat} {o : Oper} {f : FuncId} {args : Array Value} {w' : World} (ho : ops[i]? = some o) (hw : Region.wanted o (yielded ops tmps) = true)
    (hr : rnd = none ∨ ∀ c, o.op ≠ .defer c) (h : (execOp (Act.eval ⟨tmps, ds⟩) o).run P w = .ok (.enter f args) w') :
    step P (lone (mkF fn kd rnd tmps ds (.inRegion ops (i :: rest) :: k)) cs w) =
      .next (lone (Frame.enter P f args .normal) (mkF fn kd rnd tmps ds (.inRegion ops (i :: rest) :: k) :: cs) w') := by
  refine step_lone_go ?_
  rw [stepG_mkF ho hw hr]
  simp [stepG.apply, h, mkF]

/-- A round entered. -/
theorem st_op_round {ops : Array Oper} {i : Nat} {rest : List Nat} {o : Oper} {l : Nat} {f : FuncId} {ts : Array Value} {asg body : Code} {w' : World} (ho : ops[i]? = some o) (hw : Region.wanted o (yielded ops tmps) = true)
    (hr : rnd = none ∨ ∀ c, o.op ≠ .defer c) (h : (execOp (Act.eval ⟨tmps, ds⟩) o).run P w = .ok (.round l f ts asg body) w') :
    step P (lone (mkF fn kd rnd tmps ds (.inRegion ops (i :: rest) :: k)) cs w) =
      .next (lone (Frame.round l f ts asg body .normal) (mkF fn kd rnd tmps ds (.inRegion ops (i :: rest) :: k) :: cs) w') := by
  refine step_lone_go ?_
  rw [stepG_mkF ho hw hr]
  simp [stepG.apply, h, mkF]

/-- A call deferred. -/
theorem st_op_defer {ops : Array Oper} {i : Nat} {rest : List Nat} {o : Oper} {d : Deferred} {w' : World} (ho : ops[i]? = some o) (hw : Region.wanted o (yielded ops tmps) = true)
    (h : (execOp (Act.eval ⟨tmps, ds⟩) o).run P w = .ok (.defer d) w') :
    step P (lone (mkF fn kd none tmps ds (.inRegion ops (i :: rest) :: k)) cs w) =
      .next (lone (mkF fn kd none (putD tmps o.dst undef) (d :: ds) (.inRegion ops rest :: k)) cs w') := by
  refine step_lone_go ?_
  rw [stepG_mkF ho hw (.inl rfl), ← finish_mkF ho]
  simp only [stepG.apply, Sem.runT_eq, h, GStep.bare_after]
  simp [mkF]

/-- Recover. -/
theorem st_op_recover_no {ops : Array Oper} {i : Nat} {rest : List Nat} {o : Oper} {w' : World} (ho : ops[i]? = some o) (hw : Region.wanted o (yielded ops tmps) = true)
    (h : (execOp (Act.eval ⟨tmps, ds⟩) o).run P w = .ok .recover w') (hn : tryRecover (mkF fn kd none tmps ds (.inRegion ops (i :: rest) :: k)) cs = none) :
    step P (lone (mkF fn kd none tmps ds (.inRegion ops (i :: rest) :: k)) cs w) =
      .next (lone (mkF fn kd none (putD tmps o.dst .nilIface) ds (.inRegion ops rest :: k)) cs w') := by
  refine step_lone_go ?_
  rw [stepG_mkF ho hw (.inl rfl), ← finish_mkF ho]
  have hr : (mkF fn kd none tmps ds (.inRegion ops (i :: rest) :: k)).roundOf = none := rfl
  simp [stepG.apply, h, hr, hn]

theorem st_op_recover {ops : Array Oper} {i : Nat} {rest : List Nat} {o : Oper} {w' : World} {v : Value} {cs' : List Frame} (ho : ops[i]? = some o) (hw : Region.wanted o (yielded ops tmps) = true)
    (h : (execOp (Act.eval ⟨tmps, ds⟩) o).run P w = .ok .recover w') (hn : tryRecover (mkF fn kd none tmps ds (.inRegion ops (i :: rest) :: k)) cs = some (v, cs')) :
    step P (lone (mkF fn kd none tmps ds (.inRegion ops (i :: rest) :: k)) cs w) =
      .next (lone (mkF fn kd none (putD tmps o.dst v) ds (.inRegion ops rest :: k)) cs' w') := by
  refine step_lone_go ?_
  rw [stepG_mkF ho hw (.inl rfl), ← finish_mkF ho]
  have hr : (mkF fn kd none tmps ds (.inRegion ops (i :: rest) :: k)).roundOf = none := rfl
  simp [stepG.apply, h, hr, hn]

/-- The function leaves. -/
theorem st_ret : step P (lone (mkF fn kd none tmps ds (.code .ret :: k)) cs w) = .next (lone { mkF fn kd none tmps ds (.code .ret :: k) with mode := .returning } cs w) :=
  step_lone_go (by simp [stepG, stepG.exec, mkF])
theorem st_end : step P (lone (mkF fn kd none tmps ds []) cs w) = .next (lone { mkF fn kd none tmps ds [] with mode := .returning } cs w) :=
  step_lone_go (by simp [stepG, stepG.exec, mkF])

/-! Unwinding. -/
theorem st_unw_coll {fr : Frame} {r : Nat} {args : Array Value} {ds2 : List Deferred} (hm : fr.mode ≠ .run) (hd : fr.defers = { target := .collected r, args := args } :: ds2) (hb : w.heap[r]? = some (.deferred (some []))) :
    step P (lone fr cs w) = .next (lone { fr with defers := ds2 } cs { w with heap := w.heap.setIfInBounds r (.deferred none) }) := by
  obtain ⟨f, t, td, dd, m, kk, rr⟩ := fr
  cases m <;> first | exact absurd rfl hm | skip
  all_goals
    simp only at hd
    subst hd
    refine step_lone_go ?_
    simp [stepG, unwind, Instr.takeDeferred, getObj, setObj, Sem.run, hb]

theorem st_unw_enter {fr : Frame} {d : Deferred} {ds2 : List Deferred} {f : FuncId} {args : Array Value} {w' : World} (hm : fr.mode ≠ .run) (hd : fr.defers = d :: ds2) (ht : ∃ f c, d.target = .fn (.func f) c)
    (h : (invoke d.target d.args).run P w = .ok (.enter f args) w') :
    step P (lone fr cs w) = .next (lone (Frame.enter P f args .deferred) ({ fr with defers := ds2 } :: cs) w') := by
  obtain ⟨ff, t, td, dd, m, kk, rr⟩ := fr
  obtain ⟨g, c, hg⟩ := ht
  obtain ⟨tg, ag⟩ := d
  simp only at hg
  subst hg
  cases m <;> first | exact absurd rfl hm | skip
  all_goals
    simp only at hd h
    subst hd
    refine step_lone_go ?_
    simp [stepG, unwind, callDeferred, h]

end
end Pk
/- The abstract run is sound: steps of leaving a frame; loops over functions. -/
namespace Pk
open Go Go.RowKit

/-- The caller of a deferred call, as that returns. -/
def retTo (c : Frame) : Frame := match c.mode with
  | .panicking ({ recovered := true, .. } :: older) => match older.dropWhile (!·.goexit) with
    | [] => { c with mode := .returning }
    | rest => { c with mode := .panicking rest }
  | _ => c

section
variable {P : Program} {fn : FuncId} {kd : CallKind} {rnd : Option Nat} {tmps : Array Value} {ds : List Deferred} {k : List Item} {cs : List Frame} {w : World}

theorem st_leave {fr c : Frame} {v : Value} {f : Func} (hm : fr.mode = .returning) (hd : fr.defers = []) (hk : fr.kind = .normal) (hf : P.funcs[fr.fn]? = some f) (hr : (results f fr.tmps).run P w = .ok v w) :
    step P (lone fr (c :: cs) w) = .next (lone (c.finish v) cs w) :=
  step_lone_go (by simp [stepG, unwind, doReturn, hm, hd, hk, hf, hr])

theorem st_leave_def {fr c : Frame} {v : Value} {f : Func} (hm : fr.mode = .returning) (hd : fr.defers = []) (hk : fr.kind = .deferred) (hf : P.funcs[fr.fn]? = some f) (hr : (results f fr.tmps).run P w = .ok v w) :
    step P (lone fr (c :: cs) w) = .next (lone (retTo c) cs w) :=
  step_lone_go (by
    simp only [stepG, unwind, doReturn, hm, hd, hk, hf, Sem.runT_eq, hr, GStep.bare_after]
    rfl)

theorem st_leave_pan {fr c : Frame} {ch : List PanicEntry} {f : Func} (hm : fr.mode = .panicking ch) (hd : fr.defers = []) (hf : P.funcs[fr.fn]? = some f) :
    step P (lone fr (c :: cs) w) = .next (lone (c.raise ch) cs w) :=
  step_lone_go (by simp [stepG, unwind, Frame.catches, hm, hd, hf])

/-! Loops over functions. -/
theorem st_rangeFunc {f : Operand} {ps : Array Tmp} {asg body : Code} {l : Nat} {mark : List Deferred} {w1 w2 : World} {g : FuncId} {args : Array Value}
    (h1 : (Instr.enterLoop fn tmps ps asg body rnd).run P w = .ok (l, mark) w1)
    (h2 : (do let d ← resolve (Act.eval ⟨tmps, ds⟩) { callee := .value f, args := #[.const (.func (.yield l) #[] #[])], argTypes := #[] } 0; invoke d.target d.args : Sem Next).run P w1 = .ok (.enter g args) w2) :
    step P (lone (mkF fn kd rnd tmps ds (.code (.rangeFunc f ps asg body) :: k)) cs w) =
      .next (lone (Frame.enter P g args .normal) (mkF fn kd rnd tmps (mark ++ ds) (.inRangeFunc l :: k) :: cs) w2) := by
  refine step_lone_go ?_
  have he : ∀ todo ds', (mkF fn kd rnd tmps ds' todo).eval = Act.eval ⟨tmps, ds⟩ := fun todo ds' => by funext x; cases x <;> rfl
  have he' := he (.inRangeFunc l :: k) (mark ++ ds)
  simp only [mkF] at he'
  simp only [stepG, stepG.exec, mkF, Sem.runT_eq, h1, GStep.bare_after, stepG.apply, he', h2]
  rfl

theorem st_endRange {l : Nat} {jump : Option Code} {w1 : World} (h : (Instr.endLoop l).run P w = .ok jump w1) :
    step P (lone (mkF fn kd rnd tmps ds (.endRangeFunc l :: k)) cs w) = .next (lone (mkF fn kd rnd tmps ds ((jump.map Item.code).toList ++ k)) cs w1) := by
  refine step_lone_go ?_
  simp only [stepG, stepG.exec, mkF, Sem.runT_eq, h, GStep.bare_after]
  rfl

theorem st_beginRound {l : Nat} {w1 : World} (h : (Instr.beginRound l).run P w = .ok () w1) :
    step P (lone (mkF fn kd (some l) tmps ds (.beginRound :: k)) cs w) = .next (lone (mkF fn kd (some l) tmps ds k) cs w1) := by
  refine step_lone_go ?_
  simp [stepG, stepG.exec, mkF, stepG.apply, h, Frame.finish]

/-- A round ends, by a jump or not. -/
theorem st_endRound {l : Nat} {c : Frame} {v : Value} {w1 : World} (h : (Instr.endRound l none).run P w = .ok v w1) :
    step P (lone (mkF fn .normal (some l) tmps ds []) (c :: cs) w) = .next (lone (c.finish v) cs w1) := by
  refine step_lone_go ?_
  simp only [stepG, stepG.exec, mkF, Sem.runT_eq, h, GStep.bare_after, doReturn]
  rfl

theorem st_endRound_ret {l : Nat} {c : Frame} {v : Value} {w1 : World} (h : (Instr.endRound l (some .ret)).run P w = .ok v w1) :
    step P (lone (mkF fn .normal (some l) tmps ds (.code .ret :: k)) (c :: cs) w) = .next (lone (c.finish v) cs w1) := by
  refine step_lone_go ?_
  simp only [stepG, stepG.exec, mkF, Sem.runT_eq, h, GStep.bare_after, doReturn]
  rfl

theorem st_endRound_exit {l id : Nat} {c : Frame} {v : Value} {w1 : World} (hk : exitTo id k = none) (h : (Instr.endRound l (some (.exit id))).run P w = .ok v w1) :
    step P (lone (mkF fn .normal (some l) tmps ds (.code (.exit id) :: k)) (c :: cs) w) = .next (lone (c.finish v) cs w1) := by
  refine step_lone_go ?_
  simp only [stepG, stepG.exec, mkF, hk, Option.elim_none, Sem.runT_eq, h, GStep.bare_after, doReturn]
  rfl

theorem st_endRound_goto {l id : Nat} {c : Frame} {v : Value} {w1 : World} (hk : gotoIn id k = none) (h : (Instr.endRound l (some (.goto id))).run P w = .ok v w1) :
    step P (lone (mkF fn .normal (some l) tmps ds (.code (.goto id) :: k)) (c :: cs) w) = .next (lone (c.finish v) cs w1) := by
  refine step_lone_go ?_
  simp only [stepG, stepG.exec, mkF, hk, Option.elim_none, Sem.runT_eq, h, GStep.bare_after, doReturn]
  rfl

theorem finish_inRange {l : Nat} (v : Value) : (mkF fn kd rnd tmps ds (.inRangeFunc l :: k)).finish v = mkF fn kd rnd tmps ds (.endRangeFunc l :: k) := rfl

end
end Pk
/- The abstract run is sound: the judgement. -/
namespace Pk
open Go Go.RowKit

/-- A frame's round, and its number here. -/
def RdR (ρ : Rho) : Option Nat → Option Nat → Prop
  | none, r => r = none
  | some l, r => ∃ b, AtR ρ l b ∧ r = some b

theorem RdR.mono {ρ ρ' : Rho} (h : Ext ρ ρ') {a b : Option Nat} (k : RdR ρ a b) : RdR ρ' a b := by
  cases a with
  | none => exact k
  | some l => obtain ⟨b, x, y⟩ := k; exact ⟨b, x.mono h, y⟩

/-- A frame's state stands for what runs. -/
structure FS (N : Nat) (ν : Nat → Int) (w0 : World) (ρ : Rho) (sz : Nat) (s : St) (kd : CallKind) (tmps : Array Value) (ds : List Deferred) (cs : List Frame) (w : World) : Prop where
  tr : TR ν ρ s.tm tmps
  hr : HR N ν w0 ρ s.hp s.nx w
  sz : sz ≤ tmps.size
  df : DfRs ν ρ s.ds ds
  cm : CmR ν ρ kd cs s.cm

/-- Where the work at the head of what is to do ends. -/
def Ends (P : Program) (ν : Nat → Int) (ρ : Rho) (m : Machine) (fn : FuncId) (kd : CallKind) (rnd : Option Nat) (tmps : Array Value) (ds : List Deferred) (k : List Item) (cs : List Frame) (w : World) : Ex → Prop
  | .nrm => Steps P m (lone (mkF fn kd rnd tmps ds k) cs w)
  | .ret => ∃ k', Steps P m (lone (mkF fn kd rnd tmps ds (.code .ret :: k')) cs w)
  | .exit id => ∃ k', exitTo id k' = exitTo id k ∧ Steps P m (lone (mkF fn kd rnd tmps ds (.code (.exit id) :: k')) cs w)
  | .goto l => ∃ k', gotoIn l k' = gotoIn l k ∧ Steps P m (lone (mkF fn kd rnd tmps ds (.code (.goto l) :: k')) cs w)
  | .pan ch => ∃ k' ch', PnR ν ρ ch ch' ∧ Frame.catches P { mkF fn kd rnd tmps ds k' with mode := .panicking ch' } = false ∧
      Steps P m (lone { mkF fn kd rnd tmps ds k' with mode := .panicking ch' } cs w)

/-- The work 'hd', from state s, ends so, in state s'. -/
def XOK (E : Env) (N : Nat) (ν : Nat → Int) (w0 : World) (fn : FuncId) (sz : Nat) (hd : List Item) (rnd : Option Nat) (s : St) (ex : Ex) (s' : St) : Prop :=
  ∀ (ρ : Rho) (kd : CallKind) (rr : Option Nat) (tmps : Array Value) (ds : List Deferred) (k : List Item) (cs : List Frame) (w : World),
    RdR ρ rnd rr → FS N ν w0 ρ sz s kd tmps ds cs w →
    ∃ ρ' w' tmps' ds' cs', Grow s.nx ρ ρ' s'.nx ∧ FS N ν w0 ρ' sz s' kd tmps' ds' cs' w' ∧ CsUp kd cs cs' ∧ tmps'.size = tmps.size ∧
      Ends E.P ν ρ' (lone (mkF fn kd rr tmps ds (hd ++ k)) cs w) fn kd rr tmps' ds' k cs' w' ex

theorem Ends.of_steps {P : Program} {ν : Nat → Int} {ρ : Rho} {m m1 : Machine} {fn : FuncId} {kd : CallKind} {rnd : Option Nat} {tmps : Array Value} {ds : List Deferred} {k : List Item} {cs : List Frame} {w : World} {e : Ex}
    (h : Steps P m m1) (h' : Ends P ν ρ m1 fn kd rnd tmps ds k cs w e) : Ends P ν ρ m fn kd rnd tmps ds k cs w e := by
  cases e with
  | nrm => exact h.trans h'
  | ret => obtain ⟨k', a⟩ := h'; exact ⟨k', h.trans a⟩
  | exit id => obtain ⟨k', a, b⟩ := h'; exact ⟨k', a, h.trans b⟩
  | goto l => obtain ⟨k', a, b⟩ := h'; exact ⟨k', a, h.trans b⟩
  | pan ch => obtain ⟨k', ch', a, c, b⟩ := h'; exact ⟨k', ch', a, c, h.trans b⟩

end Pk
/- The abstract run is sound: code out of code. -/
namespace Pk
open Go Go.RowKit

theorem Ends.pass {P : Program} {ν : Nat → Int} {ρ : Rho} {m : Machine} {fn : FuncId} {kd : CallKind} {rnd : Option Nat} {tmps : Array Value} {ds : List Deferred} {x : Item} {k : List Item} {cs : List Frame} {w : World} {e : Ex}
    (hx : x.plain = true) (he : e ≠ .nrm) (h : Ends P ν ρ m fn kd rnd tmps ds (x :: k) cs w e) : Ends P ν ρ m fn kd rnd tmps ds k cs w e := by
  cases e with
  | nrm => exact absurd rfl he
  | ret => exact h
  | exit id =>
    obtain ⟨k', a, b⟩ := h
    exact ⟨k', by rw [a]; cases x <;> simp_all [exitTo, Item.plain], b⟩
  | goto l =>
    obtain ⟨k', a, b⟩ := h
    exact ⟨k', by rw [a]; cases x <;> simp_all [gotoIn, Item.plain], b⟩
  | pan ch => exact h

section
variable {E : Env} {N : Nat} {ν : Nat → Int} {w0 : World} {fn : FuncId} {sz : Nat} {rnd : Option Nat} {s s1 s2 : St} {ex : Ex}

/-- One step ahead. -/
theorem XOK.step {hd hd' : List Item} (h : XOK E N ν w0 fn sz hd' rnd s ex s2)
    (hs : ∀ kd rr tmps ds k cs w, step E.P (lone (mkF fn kd rr tmps ds (hd ++ k)) cs w) = .next (lone (mkF fn kd rr tmps ds (hd' ++ k)) cs w)) : XOK E N ν w0 fn sz hd rnd s ex s2 := by
  intro ρ kd rr tmps ds k cs w h1 h2
  obtain ⟨ρ', w', tmps', ds', cs', a, b, c, d, e⟩ := h ρ kd rr tmps ds k cs w h1 h2
  exact ⟨ρ', w', tmps', ds', cs', a, b, c, d, .of_steps (.one (hs ..)) e⟩

theorem XOK.nil (s : St) : XOK E N ν w0 fn sz [] rnd s .nrm s := by
  intro ρ kd rr tmps ds k cs w h1 h2
  exact ⟨ρ, w, tmps, ds, cs, Grow.refl _ _, h2, CsUp.refl _ _, rfl, Steps.refl _ _⟩

/-- One work behind another. -/
theorem XOK.append {x : Item} {hd2 : List Item} (h1 : XOK E N ν w0 fn sz [x] rnd s .nrm s1) (h2 : XOK E N ν w0 fn sz hd2 rnd s1 ex s2) : XOK E N ν w0 fn sz (x :: hd2) rnd s ex s2 := by
  intro ρ kd rr tmps ds k cs w hr hf
  obtain ⟨ρ1, w1, tmps1, ds1, cs1, a1, b1, c1, d1, e1⟩ := h1 ρ kd rr tmps ds (hd2 ++ k) cs w hr hf
  obtain ⟨ρ2, w2, tmps2, ds2, cs2, a2, b2, c2, d2, e2⟩ := h2 ρ1 kd rr tmps1 ds1 k cs1 w1 (hr.mono (a1.ext hf.hr)) b1
  exact ⟨ρ2, w2, tmps2, ds2, cs2, a1.trans a2, b2, c1.trans c2, d2.trans d1, .of_steps e1 e2⟩

theorem XOK.leave {x y : Item} (hy : y.plain = true) (he : ex ≠ .nrm) (h1 : XOK E N ν w0 fn sz [x] rnd s ex s1) : XOK E N ν w0 fn sz [x, y] rnd s ex s1 := by
  intro ρ kd rr tmps ds k cs w hr hf
  obtain ⟨ρ1, w1, tmps1, ds1, cs1, a1, b1, c1, d1, e1⟩ := h1 ρ kd rr tmps ds (y :: k) cs w hr hf
  exact ⟨ρ1, w1, tmps1, ds1, cs1, a1, b1, c1, d1, .pass hy he e1⟩

end
end Pk
/- The abstract run is sound: what is run deeper. -/
namespace Pk
open Go Go.RowKit

/-- The machine behind the step that calls. -/
def entryM (P : Program) (n : Next) (c : Frame) (cs : List Frame) (w : World) : Option Machine := match n with
  | .value v => some (lone (c.finish v) cs w)
  | .enter f a => some (lone (Frame.enter P f a .normal) (c :: cs) w)
  | .round l f ts asg body => some (lone (Frame.round l f ts asg body .normal) (c :: cs) w)
  | _ => none

/-- A call comes to this. -/
def CallOK (E : Env) (N : Nat) (ν : Nat → Int) (w0 : World) (fn : AFn) (args : List AV) (hp : Tr AObj) (nx : Nat) (r : CR) : Prop :=
  ∀ (ρ : Rho) (fn' : Fn) (a cap : Array Value) (w : World), FnR ρ fn fn' → (∀ l, fn = .yield l → cap = #[]) → VRs ν ρ args (a ++ cap).toList → HR N ν w0 ρ hp nx w →
    ∃ n w1, (invoke (.fn fn' cap) a).run E.P w = .ok n w1 ∧ ∀ (c : Frame) (cs : List Frame), ∃ m, entryM E.P n c cs w1 = some m ∧
      ∃ ρ' w', Grow nx ρ ρ' r.nx ∧ HR N ν w0 ρ' r.hp r.nx w' ∧ match r.co with
        | .ret v => ∃ v', VR ν ρ' v v' ∧ Steps E.P m (lone (c.finish v') cs w')
        | .pan ch => ∃ ch', PnR ν ρ' ch ch' ∧ Steps E.P m (lone (c.raise ch') cs w')

/-- A deferred call comes to this. -/
def DCallOK (E : Env) (N : Nat) (ν : Nat → Int) (w0 : World) (fn : AFn) (args : List AV) (cm : ACM) (hp : Tr AObj) (nx : Nat) (r : DR) : Prop :=
  ∀ (ρ : Rho) (fn' : Fn) (a cap : Array Value) (w : World) (c : Frame) (cs : List Frame), FnR ρ fn fn' → VRs ν ρ args (a ++ cap).toList → HR N ν w0 ρ hp nx w → CmR ν ρ .deferred (c :: cs) cm →
    ∃ f a', fn' = .func f ∧ (invoke (.fn fn' cap) a).run E.P w = .ok (.enter f a') w ∧
      ∃ ρ' w' md, Grow nx ρ ρ' r.nx ∧ HR N ν w0 ρ' r.hp r.nx w' ∧ CmR ν ρ' .deferred ({ c with mode := md } :: cs) r.cm ∧ match r.co with
        | .ret _ => Steps E.P (lone (Frame.enter E.P f a' .deferred) (c :: cs) w) (lone (retTo { c with mode := md }) cs w')
        | .pan ch => ∃ ch', PnR ν ρ' ch ch' ∧ Steps E.P (lone (Frame.enter E.P f a' .deferred) (c :: cs) w) (lone (({ c with mode := md } : Frame).raise ch') cs w')

end Pk
/- The abstract run is sound: slots set, guards. -/
namespace Pk
open Go Go.RowKit

/-- The slots, one set. -/
noncomputable def putS (tm : Tr AV) (dst : Option Tmp) (v : AV) : Tr AV := match dst with
  | some d => putT (some v) (path d) tm
  | none => tm

theorem setF_ok {sz : Nat} {dst : Option Tmp} {v : AV} {s : St} {k : St → Option (Ex × St)} {r : Ex × St} (h : (setF sz dst).run v s k = some r) :
    k ⟨putS s.tm dst v, s.hp, s.nx, s.ds, s.cm⟩ = some r ∧ ∀ d, dst = some d → d < sz := by
  cases dst with
  | none => exact ⟨h, fun d e => by cases e⟩
  | some d =>
    simp only [setF] at h
    cases hb : Nat.ble sz d with
    | true => rw [hb] at h; cases h
    | false =>
      rw [hb] at h
      cases s
      simp only [putP_eq] at h
      exact ⟨h, fun d' e => by cases e; exact ble_false hb⟩

theorem TR.put {ν : Nat → Int} {ρ : Rho} {tm : Tr AV} {ts : Array Value} (k : TR ν ρ tm ts) {dst : Option Tmp} {a : AV} {v : Value} (h : VR ν ρ a v) {sz : Nat} (hd : ∀ d, dst = some d → d < sz) (hs : sz ≤ ts.size) :
    TR ν ρ (putS tm dst a) (putD ts dst v) := by
  cases dst with
  | none => exact k
  | some d => exact k.set h (Nat.lt_of_lt_of_le (hd d rfl) hs)

theorem putD_size (ts : Array Value) (dst : Option Tmp) (v : Value) : (putD ts dst v).size = ts.size := by
  cases dst <;> simp [putD]

end Pk
/- The abstract run is sound: one operation of a region, as the machine steps. -/
namespace Pk
open Go Go.RowKit

section
variable {N : Nat} {ν : Nat → Int} {ρ : Rho} {E : Env} {w0 w w' : World} {hp : Tr AObj} {nx : Nat}

theorem getD_some {tmps : Array Value} {d : Nat} {v : Value} (h : tmps.getD d undef = v) (hv : v ≠ undef) : tmps[d]? = some v := by
  rw [Array.getD_eq_getD_getElem?] at h
  cases e : tmps[d]? with
  | none => rw [e] at h; exact absurd h.symm hv
  | some x => rw [e] at h; exact congrArg some h

/-- Is the operation wanted? As the frame's slots say. -/
theorem wantF_ok {tm : Tr AV} {tmps : Array Value} (ht : TR ν ρ tm tmps) {ops : Array Oper} {o : Oper} {b : Bool} (h : (wantF ops.toList o.guard).run tm = some b) :
    Region.wanted o (yielded ops tmps) = b := by
  unfold Region.wanted
  cases hg : o.guard with
  | none => rw [hg] at h; cases h; rfl
  | some p =>
    obtain ⟨j, want⟩ := p
    rw [hg] at h
    simp only [wantF] at h
    dsimp only
    split at h
    · rename_i oj hoj
      rw [nth_eq, Array.getElem?_toList] at hoj
      split at h
      · rename_i d hd
        simp only at h
        split at h
        · rename_i x hx
          have hv := VR_bool.1 (ht d _ hx)
          have hs := getD_some hv (by simp [undef])
          have hy : yielded ops tmps j = some x := by simp [yielded, hoj, hd, hs]
          rw [hy]
          cases want <;> cases x <;> simp at h <;> subst h <;> rfl
        · rename_i l hx
          cases h
          obtain ⟨cs, _, hv⟩ := VR_tup.1 (ht d _ hx)
          have hy : yielded ops tmps j = none := by
            rw [Array.getD_eq_getD_getElem?] at hv
            cases e : tmps[d]? with
            | none => simp [yielded, hoj, hd, e]
            | some x =>
              rw [e] at hv
              simp only [Option.getD_some] at hv
              subst hv
              simp [yielded, hoj, hd, e]
          rw [hy]; rfl
        · cases h
      · cases h
    · cases h

/-- A block more that nobody knows. -/
theorem HR.push {ob : Obj} (h : HR N ν w0 ρ hp nx w) (hw : NewW w w' ob) : HR N ν w0 ρ hp nx w' := by
  have hsz : w'.heap.size = w.heap.size + 1 := by rw [hw.heap]; simp
  have hold : ∀ k, k < w.heap.size → w'.heap[k]? = w.heap[k]? := fun k hk => by rw [hw.heap, Array.getElem?_push_lt hk, Array.getElem?_eq_getElem hk]
  refine ⟨?_, ?_, h.inj, h.fresh, ?_, ?_⟩
  · intro id o r c h1 h2
    obtain ⟨ob', h3, h4⟩ := h.live id o r c h1 h2
    exact ⟨ob', by rw [hold r (h.lt id r c h2)]; exact h3, h4⟩
  · intro id r c h2; rw [hsz]; have := h.lt id r c h2; omega
  · exact h.below.trans ⟨hw.os, hw.tape, hw.output, by omega, fun k hk => hold k (by have := h.base; omega)⟩
  · have := h.base; omega

/-- A block more in the abstract memory alone. -/
theorem HR.ghost (h : HR N ν w0 ρ hp nx w) (o : AObj) : HR N ν w0 ρ (putT (some o) (path nx) hp) (nx + 1) w := by
  have k : ∀ i o' r c, getP (path i) (putT (some o) (path nx) hp) = some o' → ρ i = some (r, c) → getP (path i) hp = some o' := by
    intro i o' r c h1 h2
    rw [get_putN] at h1
    by_cases hi : i = nx
    · subst hi; rw [h.fresh i (Nat.le_refl _)] at h2; cases h2
    · rwa [if_neg hi] at h1
  exact ⟨fun id o' r c h1 h2 => h.live id o' r c (k id o' r c h1 h2) h2, h.lt, fun i j o1 o2 r c c' h1 h2 h3 h4 => h.inj i j o1 o2 r c c' (k i _ _ _ h1 h3) (k j _ _ _ h2 h4) h3 h4,
    fun i hi => h.fresh i (by omega), h.below, h.base⟩

/-- What a quiet operation leaves, its slot set. -/
noncomputable def qState (d : Tmp) (q : QR) (s : St) : St := match q with
  | .val v => ⟨putT (some v) (path d) s.tm, s.hp, s.nx, s.ds, s.cm⟩
  | .mrk v _ => ⟨putT (some v) (path d) s.tm, s.hp, s.nx, s.ds, s.cm⟩
  | .ptr o => ⟨putT (some (.ptr s.nx 0)) (path d) s.tm, putT (some o) (path s.nx) s.hp, s.nx + 1, s.ds, s.cm⟩
  | .slc o len cap ex => ⟨putT (some (.slice s.nx 0 len cap ex)) (path d) s.tm, putT (some o) (path s.nx) s.hp, s.nx + 1, s.ds, s.cm⟩
  | .mp o => ⟨putT (some (.map s.nx)) (path d) s.tm, putT (some o) (path s.nx) s.hp, s.nx + 1, s.ds, s.cm⟩

theorem quietX_some {sz : Nat} {o : Oper} {rest : XF} {I : IH} {rnd : Option Nat} {s : St} {r : Ex × St} (h : (quietX E sz o rest).run I rnd s = some r) :
    ∃ q, (qop E o.op).run s.tm s.hp = some q ∧ (∀ d, o.dst = some d → d < sz ∧ rest.run I rnd (qState d q s) = some r) ∧ (o.dst = none → rest.run I rnd s = some r) := by
  cases ho : o.dst with
  | none =>
    simp only [quietX, ho] at h
    split at h
    · rename_i q hq
      exact ⟨q, hq, fun d e => (by cases e), fun _ => h⟩
    · cases h
  | some d =>
    simp only [quietX, ho] at h
    cases hb : Nat.ble sz d with
    | true => rw [hb] at h; cases h
    | false =>
      rw [hb] at h
      obtain ⟨tm, hp, nx, ds, cm⟩ := s
      simp only at h
      split at h
      · rename_i q hq
        refine ⟨q, hq, fun d' e => ?_, fun e => (by cases e)⟩
        cases e
        refine ⟨ble_false hb, ?_⟩
        cases q <;> simp only [makeX, putP_eq, frc_eq] at h <;> exact h
      · cases h

/-- The value that a quiet operation sets, and memory as it has come to be. -/
theorem quiet_mem {s : St} {v' : Value} {q : QR} (hh : HR N ν w0 ρ s.hp s.nx w) (h : QRes N ν ρ s.hp w w' v' q) (d : Tmp) :
    ∃ ρ', Grow s.nx ρ ρ' (qState d q s).nx ∧ HR N ν w0 ρ' (qState d q s).hp (qState d q s).nx w' ∧ ∃ v, (qState d q s).tm = putT (some v) (path d) s.tm ∧ VR ν ρ' v v' := by
  cases q with
  | val v => obtain ⟨h1, rfl⟩ := h; exact ⟨ρ, Grow.refl _ _, hh, v, rfl, h1⟩
  | mrk v id =>
    obtain ⟨h1, r, l, e, g, cs, fz, ⟨c, hc⟩, h2, h3, rfl⟩ := h
    exact ⟨ρ, Grow.refl _ _, hh.mark hc h2 h3, v, rfl, h1⟩
  | ptr o =>
    obtain ⟨rfl, ob, c, h1, h2⟩ := h
    exact ⟨extR ρ s.nx w.heap.size c, Grow.new hh _ _, hh.new h1 h2, _, rfl, VR_ptr.2 ⟨w.heap.size, ⟨c, by simp [extR]⟩, rfl⟩⟩
  | slc o len cap ex =>
    obtain ⟨ob, c, cap', rfl, hs, h1, h2⟩ := h
    exact ⟨extR ρ s.nx w.heap.size c, Grow.new hh _ _, hh.new h1 h2, _, rfl, VR_slice.2 ⟨w.heap.size, c, 0, cap', by simp [extR], hs, rfl⟩⟩
  | mp o =>
    obtain ⟨rfl, ob, c, h1, h2⟩ := h
    exact ⟨extR ρ s.nx w.heap.size c, Grow.new hh _ _, hh.new h1 h2, _, rfl, VR_map.2 ⟨w.heap.size, ⟨c, by simp [extR]⟩, rfl⟩⟩

theorem quiet_drop {v' : Value} {q : QR} (hh : HR N ν w0 ρ hp nx w) (h : QRes N ν ρ hp w w' v' q) : HR N ν w0 ρ hp nx w' := by
  cases q with
  | val v => obtain ⟨h1, rfl⟩ := h; exact hh
  | mrk v id =>
    obtain ⟨h1, r, l, e, g, cs, fz, ⟨c, hc⟩, h2, h3, rfl⟩ := h
    exact hh.mark hc h2 h3
  | ptr o => obtain ⟨rfl, ob, c, h1, h2⟩ := h; exact hh.push h1
  | slc o len cap ex => obtain ⟨ob, c, cap', rfl, hs, h1, h2⟩ := h; exact hh.push h1
  | mp o => obtain ⟨rfl, ob, c, h1, h2⟩ := h; exact hh.push h1

theorem qState_ds (d : Tmp) (q : QR) (s : St) : (qState d q s).ds = s.ds ∧ (qState d q s).cm = s.cm := by cases q <;> exact ⟨rfl, rfl⟩

end

/-! Operations that act. -/
section
variable {P : Program} {fn : FuncId} {kd : CallKind} {rnd : Option Nat} {tmps : Array Value} {ds : List Deferred} {k : List Item} {cs : List Frame} {w : World}

/-- An operation that calls, or gives its value at once. -/
theorem st_op_next {ops : Array Oper} {i : Nat} {rest : List Nat} {o : Oper} {n : Next} {m : Machine} {w' : World} (ho : ops[i]? = some o) (hw : Region.wanted o (yielded ops tmps) = true)
    (hr : rnd = none ∨ ∀ c, o.op ≠ .defer c) (h : (execOp (Act.eval ⟨tmps, ds⟩) o).run P w = .ok n w')
    (hm : entryM P n (mkF fn kd rnd tmps ds (.inRegion ops (i :: rest) :: k)) cs w' = some m) :
    step P (lone (mkF fn kd rnd tmps ds (.inRegion ops (i :: rest) :: k)) cs w) = .next m := by
  cases n with
  | value v =>
    cases hm
    rw [finish_mkF ho]
    exact st_op_val ho hw hr h (.inl rfl)
  | enter f args => cases hm; exact st_op_enter ho hw hr h
  | round l f ts asg body => cases hm; exact st_op_round ho hw hr h
  | _ => cases hm

theorem raise_mkF (todo : List Item) (ch : List PanicEntry) : (mkF fn kd rnd tmps ds todo).raise ch = { mkF fn kd rnd tmps ds todo with mode := .panicking ch } := rfl

theorem catches_region {ops : Array Oper} {l : List Nat} {m : FrameMode} : Frame.catches P { mkF fn kd rnd tmps ds (.inRegion ops l :: k) with mode := m } = false := by
  unfold Frame.catches
  simp only [mkF]
  split
  · rename_i h1 h2; simp at h2
  · rfl

end

/-- What is run deeper is right. -/
structure IHOK (E : Env) (N : Nat) (ν : Nat → Int) (w0 : World) (I : IH) : Prop where
  loop : ∀ fn sz b rnd s ex s', I.loop fn sz b rnd s = some (ex, s') → XOK E N ν w0 fn sz [.code b, .inLoop b] rnd s ex s'
  scope : ∀ fn sz b c rnd s ex s', I.scope fn sz b c rnd s = some (ex, s') → XOK E N ν w0 fn sz [.code c, .inScope b] rnd s ex s'
  call : ∀ fn args hp nx r, I.call fn args hp nx = some r → CallOK E N ν w0 fn args hp nx r
  dcall : ∀ fn args cm hp nx r, I.dcall fn args cm hp nx = some r → DCallOK E N ν w0 fn args cm hp nx r

/-- An operation that acts, as the machine steps. -/
def ActOK (E : Env) (N : Nat) (ν : Nat → Int) (w0 : World) (fn : FuncId) (sz : Nat) (o : Oper) (rnd : Option Nat) (s : St) (r : OR) : Prop :=
  ∀ (ρ : Rho) (kd : CallKind) (rr : Option Nat) (tmps : Array Value) (ds : List Deferred) (k : List Item) (cs : List Frame) (w : World) (ops : Array Oper) (i : Nat) (rest : List Nat),
    RdR ρ rnd rr → FS N ν w0 ρ sz s kd tmps ds cs w → ops[i]? = some o → Region.wanted o (yielded ops tmps) = true →
    match r with
    | .val v s' => s'.tm = s.tm ∧ ∃ ρ' w' v' ds' cs', Grow s.nx ρ ρ' s'.nx ∧ VR ν ρ' v v' ∧ FS N ν w0 ρ' sz s' kd tmps ds' cs' w' ∧ CsUp kd cs cs' ∧
        Steps E.P (lone (mkF fn kd rr tmps ds (.inRegion ops (i :: rest) :: k)) cs w) (lone (mkF fn kd rr (putD tmps o.dst v') ds' (.inRegion ops rest :: k)) cs' w')
    | .pan ch s' => ∃ ρ' w' ch', Grow s.nx ρ ρ' s'.nx ∧ PnR ν ρ' ch ch' ∧ FS N ν w0 ρ' sz s' kd tmps ds cs w' ∧
        Steps E.P (lone (mkF fn kd rr tmps ds (.inRegion ops (i :: rest) :: k)) cs w) (lone { mkF fn kd rr tmps ds (.inRegion ops (i :: rest) :: k) with mode := .panicking ch' } cs w')

section
variable {E : Env} {N : Nat} {ν : Nat → Int} {w0 : World} {fn : FuncId} {sz : Nat} {rnd : Option Nat} {s s1 s2 : St} {I : IH}

theorem FS.grow {ρ ρ' : Rho} {s' : St} {kd : CallKind} {tmps : Array Value} {ds : List Deferred} {cs : List Frame} {w w' : World} (h : FS N ν w0 ρ sz s kd tmps ds cs w)
    (g : Grow s.nx ρ ρ' s'.nx) (hh : HR N ν w0 ρ' s'.hp s'.nx w') (e1 : s'.tm = s.tm) (e2 : s'.ds = s.ds) (e3 : s'.cm = s.cm) : FS N ν w0 ρ' sz s' kd tmps ds cs w' := by
  have x := g.ext h.hr
  exact ⟨by rw [e1]; exact h.tr.mono x, hh, h.sz, by rw [e2]; exact h.df.mono x, by rw [e3]; exact h.cm.mono x⟩

theorem map_toArr {α β : Type} (xs : Array α) (f : α → β) : xs.map f = (xs.toList.map f).toArray := by rw [← Array.toList_map, Array.toArray_toList]

theorem resolve_value {eval : Operand → Value} {f : Operand} {args : Array Operand} {ts : Array TypeId} {t : TypeId} {g : Fn} {a c : List Value} {w : World} (h : eval f = .func g a.toArray c.toArray) :
    (resolve eval { callee := .value f, args := args, argTypes := ts } t).run E.P w = .ok { target := .fn g c.toArray, args := a.toArray ++ args.map eval } w := by
  simp [resolve, Deferred.ofValue, h]

theorem callArgs {ρ : Rho} {first cap l : List AV} {a c vs : List Value} (h1 : VRs ν ρ first a) (h2 : VRs ν ρ l vs) (h3 : VRs ν ρ cap c) :
    VRs ν ρ (first ++ (l ++ cap)) ((a.toArray ++ vs.toArray) ++ c.toArray).toList := by
  have := h1.append (h2.append h3)
  simpa using this

theorem callF_ok (hI : IHOK E N ν w0 I) {f : Operand} {args : Array Operand} {ts : Array TypeId} {o : Oper} (ho : o.op = .call ⟨.value f, args, ts⟩) {r : OR}
    (h : (callF f args.toList).run I rnd s = some r) : ActOK E N ν w0 fn sz o rnd s r := by
  intro ρ kd rr tmps ds k cs w ops i rest hr hf hoi hw
  simp only [callF] at h
  split at h
  · rename_i fn2 first cap hfv
    split at h
    · rename_i l hcap hl
      simp only [appL3, appK_eq] at h
      obtain ⟨tm, hp, nx, sds, cm⟩ := s
      simp only at h
      have ht : TR ν ρ tm (Act.mk tmps ds).tmps := hf.tr
      obtain ⟨g, a, c, k1, k2, k3, ev⟩ := VR_func.1 (evF_ok ht hfv)
      have hvs := evL_ok ht hl
      have hargs := callArgs k2 hvs k3
      split at h
      · rename_i co hp' nx' hcall
        have hc : ∀ l, fn2 = .yield l → c.toArray = #[] := by
          intro l e
          subst e
          cases cap with
          | nil => rw [VRs_nil] at k3; subst k3; rfl
          | cons x y => cases hcap
        obtain ⟨n, w1, h1, h2⟩ := hI.call _ _ _ _ _ hcall ρ g _ _ w k1 hc hargs hf.hr
        have hex : (execOp (Act.eval ⟨tmps, ds⟩) o).run E.P w = .ok n w1 := by
          rw [execOp, ho]; dsimp only
          rw [Sem.run_bind, resolve_value (E := E) ev]
          simp only [Result.andThen_ok]
          have e : args.map (Act.eval ⟨tmps, ds⟩) = (args.toList.map (Act.eval ⟨tmps, ds⟩)).toArray := map_toArr _ _
          rw [e]; exact h1
        obtain ⟨m, hm, ρ', w', g1, g2, g3⟩ := h2 (mkF fn kd rr tmps ds (.inRegion ops (i :: rest) :: k)) cs
        have hs := st_op_next hoi hw (.inr fun c e => by rw [ho] at e; cases e) hex hm
        split at h
        · rename_i v
          cases h
          obtain ⟨v', g4, g5⟩ := g3
          refine ⟨rfl, ρ', w', v', ds, cs, g1, g4, hf.grow (s' := ⟨tm, hp', nx', sds, cm⟩) g1 g2 rfl rfl rfl, CsUp.refl _ _, .head hs ?_⟩
          rw [← finish_mkF hoi]; exact g5
        · rename_i ch
          cases h
          obtain ⟨ch', g4, g5⟩ := g3
          exact ⟨ρ', w', ch', g1, g4, hf.grow (s' := ⟨tm, hp', nx', sds, cm⟩) g1 g2 rfl rfl rfl, .head hs g5⟩
      · cases h
    · cases h
  · cases h

theorem deferF_ok {f : Operand} {args : Array Operand} {ts : Array TypeId} {o : Oper} (ho : o.op = .defer ⟨.value f, args, ts⟩) {r : OR}
    (h : (deferF f args.toList).run I rnd s = some r) : ActOK E N ν w0 fn sz o rnd s r := by
  intro ρ kd rr tmps ds k cs w ops i rest hr hf hoi hw
  simp only [deferF] at h
  split at h
  · split at h
    · rename_i fn2 first cap hfv
      split at h
      · rename_i l hl
        simp only [appL3, appK_eq] at h
        cases h
        have hrr : rr = none := hr
        subst hrr
        have ht : TR ν ρ s.tm (Act.mk tmps ds).tmps := hf.tr
        obtain ⟨g, a, c, k1, k2, k3, ev⟩ := VR_func.1 (evF_ok ht hfv)
        have hvs := evL_ok ht hl
        have hargs := callArgs k2 hvs k3
        have e : args.map (Act.eval ⟨tmps, ds⟩) = (args.toList.map (Act.eval ⟨tmps, ds⟩)).toArray := map_toArr _ _
        have hex : (execOp (Act.eval ⟨tmps, ds⟩) o).run E.P w = .ok (.defer { target := .fn g c.toArray, args := a.toArray ++ args.map (Act.eval ⟨tmps, ds⟩) }) w := by
          rw [execOp, ho]; dsimp only
          rw [Sem.run_bind, resolve_value (E := E) ev]
          rfl
        refine ⟨rfl, ρ, w, undef, _, cs, Grow.refl _ _, VR_tup.2 ⟨[], VRs_nil.2 rfl, rfl⟩, ⟨hf.tr, hf.hr, hf.sz, ⟨_, ds, ⟨g, _, _, k1, rfl, rfl, ?_⟩, hf.df, rfl⟩, hf.cm⟩, CsUp.refl _ _,
          .one (st_op_defer hoi hw hex)⟩
        rw [e]; exact hargs
      · cases h
    · cases h
  · cases h

theorem recoverF_ok {args : Array Operand} {ts : Array TypeId} {o : Oper} (ho : o.op = .call ⟨.builtin .recover, args, ts⟩) {r : OR}
    (h : recoverF.run I rnd s = some r) : ActOK E N ν w0 fn sz o rnd s r := by
  intro ρ kd rr tmps ds k cs w ops i rest hr hf hoi hw
  simp only [recoverF] at h
  split at h
  · have hrr : rr = none := hr
    subst hrr
    obtain ⟨tm, hp, nx, sds, cm⟩ := s
    have hex : (execOp (Act.eval ⟨tmps, ds⟩) o).run E.P w = .ok .recover w := by
      rw [execOp, ho]; rfl
    have hcm := hf.cm
    simp only at h hcm
    split at h
    · rename_i v r'
      cases h
      obtain ⟨rfl, c, cr, ps, rfl, hmode, p, pr, ⟨q1, q2, q3⟩, q4, rfl⟩ := hcm
      obtain ⟨pv, prec, pg⟩ := p
      simp only at q1 q2 q3
      subst q2; subst q3
      refine ⟨rfl, ρ, w, pv, ds, { c with mode := .panicking ({ v := pv, recovered := true, goexit := false } :: pr) } :: cr, Grow.refl _ _, q1, ⟨hf.tr, hf.hr, hf.sz, hf.df, ?_⟩, ?_, .one (st_op_recover hoi hw hex ?_)⟩
      · exact ⟨rfl, _, _, _, rfl, rfl, _, pr, ⟨q1, rfl, rfl⟩, q4, rfl⟩
      · exact .inr ⟨rfl, c, cr, _, rfl, rfl⟩
      · simp [tryRecover, mkF, hmode]
    · rename_i hno
      cases h
      refine ⟨rfl, ρ, w, .nilIface, ds, cs, Grow.refl _ _, VR_niface.2 rfl, hf, CsUp.refl _ _, .one (st_op_recover_no hoi hw hex ?_)⟩
      cases cm with
      | no => have hk : kd = .normal := hcm; subst hk; simp [tryRecover, mkF]
      | ret => obtain ⟨rfl, c, cr, rfl, hm⟩ := hcm; simp [tryRecover, mkF, hm]
      | pan ch =>
        obtain ⟨rfl, c, cr, ps, rfl, hm, hp'⟩ := hcm
        cases ch with
        | nil => have : ps = [] := hp'; subst this; simp [tryRecover, mkF, hm]
        | cons a l =>
          obtain ⟨av, ar⟩ := a
          obtain ⟨p, pr, ⟨q1, q2, q3⟩, q4, rfl⟩ := hp'
          cases ar with
          | false => exact absurd rfl (hno av l)
          | true =>
            obtain ⟨pv, prec, pg⟩ := p
            simp only at q2
            subst q2
            simp [tryRecover, mkF, hm]
  · cases h

theorem alone_ok (hE : EnvOK E) {o : Oper} (hal : alone o.op = true) {r : OR} (h : (actor E o.op).run I rnd s = some r) : ActOK E N ν w0 fn sz o rnd s r := by
  intro ρ kd rr tmps ds k cs w ops i rest hr hf hoi hw
  have ha := actor_ok (a := ⟨tmps, ds⟩) hE hf.tr hf.hr hal h
  have hnd : rr = none ∨ ∀ c, o.op ≠ .defer c := .inr fun c e => by rw [e] at hal; cases hal
  cases r with
  | val v s' =>
    obtain ⟨ρ', n, v', w', h1, h2, h3, h4, h5, h6, h7, h8⟩ := ha
    exact ⟨h6, ρ', w', v', ds, cs, h5, h3, hf.grow h5 h4 h6 h7 h8, CsUp.refl _ _, .one (st_op_val hoi hw hnd h1 h2)⟩
  | pan ch s' =>
    obtain ⟨v, v', rfl, h1, h2, rfl⟩ := ha
    exact ⟨ρ, w, _, Grow.refl _ _, ⟨_, [], ⟨h2, rfl, rfl⟩, rfl, rfl⟩, hf, .one (st_op_pan hoi hw hnd h1)⟩

/-- All that act. -/
theorem act_ok (hE : EnvOK E) (hI : IHOK E N ν w0 I) {o : Oper} {r : OR} (h : (actor E o.op).run I rnd s = some r) : ActOK E N ν w0 fn sz o rnd s r := by
  cases hal : alone o.op with
  | true => exact alone_ok hE hal h
  | false =>
    generalize ho : o.op = op at h hal
    unfold alone at hal
    split at hal
    · rename_i c
      obtain ⟨callee, args, ts⟩ := c
      cases callee with
      | value f => exact deferF_ok ho h
      | builtin b => cases h
      | invoke x n => cases h
    · split at hal
      · exact recoverF_ok ho h
      · cases hal
    · rename_i c hc
      obtain ⟨callee, args, ts⟩ := c
      cases callee with
      | value f => exact callF_ok hI ho h
      | builtin b => exact absurd rfl (hc b args ts)
      | invoke x n => cases h
    · cases hal

end
end Pk
/- The abstract run is sound: regions in the text's order. -/
namespace Pk
open Go Go.RowKit

section
variable {E : Env} {N : Nat} {ν : Nat → Int} {w0 : World} {fn : FuncId} {sz : Nat} {rnd : Option Nat} {s s1 s2 : St} {ex : Ex} {I : IH}

/-- Some steps, and then what comes. -/
theorem XOK.cont {hd hd1 : List Item}
    (h : ∀ (ρ : Rho) (kd : CallKind) (rr : Option Nat) (tmps : Array Value) (ds : List Deferred) (k : List Item) (cs : List Frame) (w : World), RdR ρ rnd rr → FS N ν w0 ρ sz s kd tmps ds cs w →
      ∃ ρ1 w1 tmps1 ds1 cs1, Grow s.nx ρ ρ1 s1.nx ∧ FS N ν w0 ρ1 sz s1 kd tmps1 ds1 cs1 w1 ∧ CsUp kd cs cs1 ∧ tmps1.size = tmps.size ∧
        Steps E.P (lone (mkF fn kd rr tmps ds (hd ++ k)) cs w) (lone (mkF fn kd rr tmps1 ds1 (hd1 ++ k)) cs1 w1))
    (h1 : XOK E N ν w0 fn sz hd1 rnd s1 ex s2) : XOK E N ν w0 fn sz hd rnd s ex s2 := by
  intro ρ kd rr tmps ds k cs w hr hf
  obtain ⟨ρ1, w1, tmps1, ds1, cs1, a1, b1, c1, d1, e1⟩ := h ρ kd rr tmps ds k cs w hr hf
  obtain ⟨ρ2, w2, tmps2, ds2, cs2, a2, b2, c2, d2, e2⟩ := h1 ρ1 kd rr tmps1 ds1 k cs1 w1 (hr.mono (a1.ext hf.hr)) b1
  exact ⟨ρ2, w2, tmps2, ds2, cs2, a1.trans a2, b2, c1.trans c2, d2.trans d1, .of_steps e1 e2⟩

variable (hE : EnvOK E) (hpc : ∀ p ∈ E.pc, PFok ν p)

/-- A slot set in a frame's state. -/
theorem FS.put {ρ : Rho} {kd : CallKind} {tmps : Array Value} {ds : List Deferred} {cs : List Frame} {w : World} (h : FS N ν w0 ρ sz s kd tmps ds cs w) {dst : Option Tmp} {a : AV} {v : Value}
    (hv : VR ν ρ a v) (hd : ∀ d, dst = some d → d < sz) : FS N ν w0 ρ sz ⟨putS s.tm dst a, s.hp, s.nx, s.ds, s.cm⟩ kd (putD tmps dst v) ds cs w :=
  ⟨h.tr.put hv hd h.sz, h.hr, by rw [putD_size]; exact h.sz, h.df, h.cm⟩

theorem actX_ok (hI : IHOK E N ν w0 I) {ops : Array Oper} {o : Oper} {i : Nat} {rest : List Nat} (hoi : ops[i]? = some o) {K : XF}
    (hK : ∀ s1 ex s2, K.run I rnd s1 = some (ex, s2) → XOK E N ν w0 fn sz [.inRegion ops rest] rnd s1 ex s2)
    (hw : ∀ ρ tmps, TR ν ρ s.tm tmps → Region.wanted o (yielded ops tmps) = true)
    (h : (actX E sz o K).run I rnd s = some (ex, s2)) (hE : EnvOK E) : XOK E N ν w0 fn sz [.inRegion ops (i :: rest)] rnd s ex s2 := by
  simp only [actX] at h
  split at h
  · rename_i r hr
    have ha := act_ok (N := N) (ν := ν) (w0 := w0) (fn := fn) (sz := sz) hE hI hr
    split at h
    · rename_i v s'
      obtain ⟨h1, h2⟩ := setF_ok h
      refine XOK.cont (fun ρ kd rr tmps ds k cs w hr hf => ?_) (hK _ _ _ h1)
      obtain ⟨etm, ρ', w', v', ds', cs', g1, g2, g3, g4, g5⟩ := ha ρ kd rr tmps ds k cs w ops i rest hr hf hoi (hw _ _ hf.tr)
      exact ⟨ρ', w', _, ds', cs', g1, g3.put g2 h2, g4, putD_size _ _ _, g5⟩
    · rename_i ch s'
      cases h
      intro ρ kd rr tmps ds k cs w hr hf
      obtain ⟨ρ', w', ch', g1, g2, g3, g4⟩ := ha ρ kd rr tmps ds k cs w ops i rest hr hf hoi (hw _ _ hf.tr)
      exact ⟨ρ', w', tmps, ds, cs, g1, g3, CsUp.refl _ _, rfl, _, ch', g2, catches_region, g4⟩
  · cases h

include hE hpc

theorem quietX_ok {ops : Array Oper} {o : Oper} {i : Nat} {rest : List Nat} (hoi : ops[i]? = some o) {K : XF} (hq : quiet o.op = true)
    (hK : ∀ s1 ex s2, K.run I rnd s1 = some (ex, s2) → XOK E N ν w0 fn sz [.inRegion ops rest] rnd s1 ex s2)
    (hw : ∀ ρ tmps, TR ν ρ s.tm tmps → Region.wanted o (yielded ops tmps) = true)
    (h : (quietX E sz o K).run I rnd s = some (ex, s2)) : XOK E N ν w0 fn sz [.inRegion ops (i :: rest)] rnd s ex s2 := by
  obtain ⟨q, h1, h2, h3⟩ := quietX_some h
  have hnd : ∀ c, o.op ≠ .defer c := fun c e => by rw [e] at hq; cases hq
  cases ho : o.dst with
  | none =>
    refine XOK.cont (fun ρ kd rr tmps ds k cs w hr hf => ?_) (hK _ _ _ (h3 ho))
    obtain ⟨v', w', k1, k2⟩ := qop_ok (a := ⟨tmps, ds⟩) hE hpc hf.tr hf.hr h1
    have hs := st_op_val (fn := fn) (kd := kd) (k := k) (cs := cs) hoi (hw _ _ hf.tr) (.inr hnd) k1 (.inl rfl) (rnd := rr)  (rest := rest)
    rw [ho] at hs
    exact ⟨ρ, w', tmps, ds, cs, Grow.refl _ _, hf.grow (Grow.refl _ _) (quiet_drop hf.hr k2) rfl rfl rfl, CsUp.refl _ _, rfl, .one hs⟩
  | some d =>
    obtain ⟨hd, h4⟩ := h2 d ho
    refine XOK.cont (fun ρ kd rr tmps ds k cs w hr hf => ?_) (hK _ _ _ h4)
    obtain ⟨v', w', k1, k2⟩ := qop_ok (a := ⟨tmps, ds⟩) hE hpc hf.tr hf.hr h1
    obtain ⟨ρ', g1, g2, v, g3, g4⟩ := quiet_mem hf.hr k2 d
    have hs := st_op_val (fn := fn) (kd := kd) (k := k) (cs := cs) hoi (hw _ _ hf.tr) (.inr hnd) k1 (.inl rfl) (rnd := rr)  (rest := rest)
    rw [ho] at hs
    have x := g1.ext hf.hr
    refine ⟨ρ', w', _, ds, cs, g1, ⟨?_, g2, by rw [putD_size]; exact hf.sz, ?_, ?_⟩, CsUp.refl _ _, putD_size _ _ _, .one hs⟩
    · rw [g3]; exact (hf.tr.mono x).set g4 (Nat.lt_of_lt_of_le hd hf.sz)
    · rw [(qState_ds d q s).1]; exact hf.df.mono x
    · rw [(qState_ds d q s).2]; exact hf.cm.mono x

theorem operX_ok (hI : IHOK E N ν w0 I) {ops : Array Oper} {o : Oper} {i : Nat} {rest : List Nat} (hoi : ops[i]? = some o) {K : XF}
    (hK : ∀ s1 ex s2, K.run I rnd s1 = some (ex, s2) → XOK E N ν w0 fn sz [.inRegion ops rest] rnd s1 ex s2)
    (hw : ∀ ρ tmps, TR ν ρ s.tm tmps → Region.wanted o (yielded ops tmps) = true)
    (h : (operX E sz o K).run I rnd s = some (ex, s2)) : XOK E N ν w0 fn sz [.inRegion ops (i :: rest)] rnd s ex s2 := by
  unfold operX at h
  split at h
  · rename_i hq; exact quietX_ok hE hpc hoi hq hK hw h
  · exact actX_ok hI hoi hK hw h hE

/-- A slot emptied: what is not wanted. -/
theorem skip_ok {ops : Array Oper} {o : Oper} {i : Nat} {rest : List Nat} (hoi : ops[i]? = some o) {K : XF}
    (hK : ∀ s1 ex s2, K.run I rnd s1 = some (ex, s2) → XOK E N ν w0 fn sz [.inRegion ops rest] rnd s1 ex s2)
    (hw : ∀ ρ tmps, TR ν ρ s.tm tmps → Region.wanted o (yielded ops tmps) = false)
    (h : ((setF sz o.dst).run undefA s fun s => K.run I rnd s) = some (ex, s2)) : XOK E N ν w0 fn sz [.inRegion ops (i :: rest)] rnd s ex s2 := by
  obtain ⟨h1, h2⟩ := setF_ok h
  refine XOK.cont (fun ρ kd rr tmps ds k cs w hr hf => ?_) (hK _ _ _ h1)
  exact ⟨ρ, w, _, ds, cs, Grow.refl _ _, hf.put (VR_tup.2 ⟨[], VRs_nil.2 rfl, rfl⟩) h2, CsUp.refl _ _, putD_size _ _ _, .one (st_op_skip hoi (hw _ _ hf.tr))⟩

theorem guardX_ok (hI : IHOK E N ν w0 I) {ops : Array Oper} {o : Oper} {i : Nat} {rest : List Nat} (hoi : ops[i]? = some o) {K : XF}
    (hK : ∀ s1 ex s2, K.run I rnd s1 = some (ex, s2) → XOK E N ν w0 fn sz [.inRegion ops rest] rnd s1 ex s2)
    (h : (guardX E sz ops.toList o K).run I rnd s = some (ex, s2)) : XOK E N ν w0 fn sz [.inRegion ops (i :: rest)] rnd s ex s2 := by
  unfold guardX at h
  split at h
  · rename_i hg
    exact operX_ok hE hpc hI hoi hK (fun ρ tmps ht => wantF_ok (b := true) ht (by rw [hg]; rfl)) h
  · rename_i g hg
    simp only at h
    split at h
    · rename_i hq
      exact operX_ok hE hpc hI hoi hK (fun ρ tmps ht => wantF_ok ht (by rw [hg]; exact hq)) h
    · rename_i hq
      exact skip_ok hE hpc hoi hK (fun ρ tmps ht => wantF_ok ht (by rw [hg]; exact hq)) h
    · cases h

theorem regS_ops (hI : IHOK E N ν w0 I) (ops : Array Oper) : ∀ (os : List Oper) (i : Nat) (s : St) (ex : Ex) (s2 : St), ops.toList.drop i = os → (regS E sz ops.toList os).run I rnd s = some (ex, s2) →
    XOK E N ν w0 fn sz [.inRegion ops (List.range' i os.length)] rnd s ex s2
  | [], i, s, ex, s2, hd, h => by
    cases h
    exact XOK.step (XOK.nil s) fun _ _ _ _ _ _ _ => st_region_end
  | o :: os, i, s, ex, s2, hd, h => by
    have hoi : ops[i]? = some o := by
      rw [← Array.getElem?_toList]
      have : (ops.toList.drop i)[0]? = some o := by rw [hd]; rfl
      simpa using this
    have hd' : ops.toList.drop (i + 1) = os := by
      have := congrArg (List.drop 1) hd
      simpa [List.drop_drop, Nat.add_comm] using this
    simp only [List.length_cons, List.range'_succ]
    exact guardX_ok hE hpc hI hoi (fun s1 ex s2 h => regS_ops hI ops os (i + 1) s1 ex s2 hd' h) h

theorem regS_ok (hI : IHOK E N ν w0 I) {id : Nat} {ops : Array Oper} (h : (regS E sz ops.toList ops.toList).run I rnd s = some (ex, s2)) :
    XOK E N ν w0 fn sz [.code (.region id ops false)] rnd s ex s2 := by
  have := regS_ops (fn := fn) hE hpc hI ops ops.toList 0 s ex s2 rfl h
  rw [Array.length_toList, ← List.range_eq_range'] at this
  exact XOK.step this fun _ _ _ _ _ _ _ => st_region

end
end Pk
