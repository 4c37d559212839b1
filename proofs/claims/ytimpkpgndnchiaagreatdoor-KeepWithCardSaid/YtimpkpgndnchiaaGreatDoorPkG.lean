/- The abstract run of the model, proved right (part 7 of 7). For every program. -/
import Derived.Test.YtimpkpgndnchiaaGreatDoorPkF
import Derived.Test.YtimpkpgndnchiaaGreatDoorPkA
import GoSem.Extern.Table
import Derived.Carry
import Derived.ChangeSame
import Derived.OpenShut
import Derived.WideKeyArr2
import Derived.RowKit3
import GoSem.ClaimGoes
set_option linter.unusedSectionVars false
set_option linter.unusedSimpArgs false
set_option linter.unusedVariables false
/- The abstract run is sound: code, loops, scopes. -/
namespace Pk
open Go Go.RowKit

section
variable {P : Program} {fn : FuncId} {kd : CallKind} {rnd : Option Nat} {tmps : Array Value} {ds : List Deferred} {k : List Item} {cs : List Frame} {w : World}

/-- A loop over a function begins. -/
theorem st_rangeNext {f : Operand} {ps : Array Tmp} {asg body : Code} {l : Nat} {mark : List Deferred} {w1 w2 : World} {n : Next} {m : Machine}
    (h1 : (Instr.enterLoop fn tmps ps asg body rnd).run P w = .ok (l, mark) w1)
    (h2 : (do let d ← resolve (Act.eval ⟨tmps, ds⟩) { callee := .value f, args := #[.const (.func (.yield l) #[] #[])], argTypes := #[] } 0; invoke d.target d.args : Sem Next).run P w1 = .ok n w2)
    (hm : entryM P n (mkF fn kd rnd tmps (mark ++ ds) (.inRangeFunc l :: k)) cs w2 = some m) :
    step P (lone (mkF fn kd rnd tmps ds (.code (.rangeFunc f ps asg body) :: k)) cs w) = .next m := by
  have he : ∀ todo ds', (mkF fn kd rnd tmps ds' todo).eval = Act.eval ⟨tmps, ds⟩ := fun todo ds' => by funext x; cases x <;> rfl
  have he' := he (.inRangeFunc l :: k) (mark ++ ds)
  simp only [mkF] at he'
  cases n with
  | value v =>
    cases hm
    refine step_lone_go ?_
    simp only [stepG, stepG.exec, mkF, Sem.runT_eq, h1, GStep.bare_after, stepG.apply, he', h2]
    rfl
  | enter g args =>
    cases hm
    refine step_lone_go ?_
    simp only [stepG, stepG.exec, mkF, Sem.runT_eq, h1, GStep.bare_after, stepG.apply, he', h2]
    rfl
  | round l f ts asg body =>
    cases hm
    refine step_lone_go ?_
    simp only [stepG, stepG.exec, mkF, Sem.runT_eq, h1, GStep.bare_after, stepG.apply, he', h2]
    rfl
  | _ => cases hm

theorem run_enterLoop_none (ps : Array Tmp) (asg body : Code) : (Instr.enterLoop fn tmps ps asg body none).run P w =
    .ok (w.heap.size + 1, [{ target := .collected w.heap.size, args := #[] }])
      (newW (newW w (.deferred (some []))) (.loop { state := .ready, pending := none, fn := fn, tmps := tmps, params := ps, assign := asg, body := body, defers := w.heap.size })) := by
  simp [Instr.enterLoop, newObj, Sem.run, newW]
  rfl

theorem run_enterLoop_some (ps : Array Tmp) (asg body : Code) {b : Nat} {L : Loop} (h : w.heap[b]? = some (.loop L)) : (Instr.enterLoop fn tmps ps asg body (some b)).run P w =
    .ok (w.heap.size, []) (newW w (.loop { state := .ready, pending := none, fn := fn, tmps := tmps, params := ps, assign := asg, body := body, defers := L.defers })) := by
  simp [Instr.enterLoop, Instr.getLoop, getObj, newObj, Sem.run, newW, h]
  try rfl

end

section
variable {E : Env} {N : Nat} {ν : Nat → Int} {w0 : World} {fn : FuncId} {sz : Nat} {rnd : Option Nat} {s s1 s2 : St} {ex : Ex} {I : IH}

theorem XOK.weak {hd : List Item} {ex' : Ex} (h : XOK E N ν w0 fn sz hd rnd s ex s1)
    (hs : ∀ (ρ : Rho) (kd : CallKind) (rr : Option Nat) (tmps : Array Value) (ds : List Deferred) (k : List Item) (cs : List Frame) (w : World) (m : Machine), Ends E.P ν ρ m fn kd rr tmps ds k cs w ex → Ends E.P ν ρ m fn kd rr tmps ds k cs w ex') :
    XOK E N ν w0 fn sz hd rnd s ex' s1 := by
  intro ρ kd rr tmps ds k cs w hr hf
  obtain ⟨ρ1, w1, tmps1, ds1, cs1, a1, b1, c1, d1, e1⟩ := h ρ kd rr tmps ds k cs w hr hf
  exact ⟨ρ1, w1, tmps1, ds1, cs1, a1, b1, c1, d1, hs _ _ _ _ _ _ _ _ _ e1⟩

/-- What stands behind is passed. -/
theorem XOK.through {x y : Item} {ex' : Ex} (h : XOK E N ν w0 fn sz [x] rnd s ex s1)
    (hs : ∀ (ρ : Rho) (kd : CallKind) (rr : Option Nat) (tmps : Array Value) (ds : List Deferred) (k : List Item) (cs : List Frame) (w : World) (m : Machine), Ends E.P ν ρ m fn kd rr tmps ds (y :: k) cs w ex → Ends E.P ν ρ m fn kd rr tmps ds k cs w ex') :
    XOK E N ν w0 fn sz [x, y] rnd s ex' s1 := by
  intro ρ kd rr tmps ds k cs w hr hf
  obtain ⟨ρ1, w1, tmps1, ds1, cs1, a1, b1, c1, d1, e1⟩ := h ρ kd rr tmps ds (y :: k) cs w hr hf
  exact ⟨ρ1, w1, tmps1, ds1, cs1, a1, b1, c1, d1, hs _ _ _ _ _ _ _ _ _ e1⟩

theorem ends_exit_none {P : Program} {ρ : Rho} {m : Machine} {kd : CallKind} {rr : Option Nat} {tmps : Array Value} {ds : List Deferred} {k : List Item} {cs : List Frame} {w : World} {id : Nat} {y : Item}
    (hy : exitTo id (y :: k) = exitTo id k) (h : Ends P ν ρ m fn kd rr tmps ds (y :: k) cs w (.exit id)) : Ends P ν ρ m fn kd rr tmps ds k cs w (.exit id) := by
  obtain ⟨k', a, b⟩ := h; exact ⟨k', a.trans hy, b⟩
theorem ends_goto_none {P : Program} {ρ : Rho} {m : Machine} {kd : CallKind} {rr : Option Nat} {tmps : Array Value} {ds : List Deferred} {k : List Item} {cs : List Frame} {w : World} {l : Nat} {y : Item}
    (hy : gotoIn l (y :: k) = gotoIn l k) (h : Ends P ν ρ m fn kd rr tmps ds (y :: k) cs w (.goto l)) : Ends P ν ρ m fn kd rr tmps ds k cs w (.goto l) := by
  obtain ⟨k', a, b⟩ := h; exact ⟨k', a.trans hy, b⟩

variable (hE : EnvOK E) (hpc : ∀ p ∈ E.pc, PFok ν p) (hI : IHOK E N ν w0 I)
include hE hpc hI

theorem endL_ok {l : Nat} {r : Ex × St} (h : endL l s = some r) {ρ : Rho} {kd : CallKind} {rr : Option Nat} {tmps : Array Value} {ds : List Deferred} {k : List Item} {cs : List Frame} {w : World} {b : Nat}
    (hb : AtR ρ l b) (hh : HR N ν w0 ρ s.hp s.nx w) :
    ∃ w', HR N ν w0 ρ r.2.hp r.2.nx w' ∧ r.2.nx = s.nx ∧ r.2.tm = s.tm ∧ r.2.ds = s.ds ∧ r.2.cm = s.cm ∧ Ends E.P ν ρ (lone (mkF fn kd rr tmps ds (.endRangeFunc b :: k)) cs w) fn kd rr tmps ds k cs w' r.1 := by
  obtain ⟨c, hbc⟩ := hb
  unfold endL at h
  split at h
  · rename_i st p f z tm ps a bd d hl
    obtain ⟨ob, h1, ⟨L, rfl, e1, e2, e3, e4, e5, e6, e7, e8, e9⟩, hN⟩ := hh.live l _ b c hl hbc
    have hset : ∀ st', HR N ν w0 ρ (putT (some (.loop st' p f z tm ps a bd d)) (path l) s.hp) s.nx { w with heap := w.heap.setIfInBounds b (.loop { L with state := st' }) } := fun st' =>
      hh.set hbc hl hN ⟨rfl, rfl, rfl, rfl⟩ ⟨⟨_, rfl, rfl, e2, e3, e4, e5, e6, e7, e8, e9⟩, hN⟩
    have hrun : st ≠ .busy → (Instr.endLoop b).run E.P w = .ok L.pending { w with heap := w.heap.setIfInBounds b (.loop { L with state := .exhausted }) } := by
      intro hne
      have : ¬ L.state = LoopState.busy := by rw [e1]; exact hne
      simp [Instr.endLoop, Instr.getLoop, getObj, setObj, Sem.run, h1, this]
    have fin : st ≠ .busy → (setObjK s l (.loop .exhausted p f z tm ps a bd d) fun s => match (generalizing := false) p with
        | none => some (.nrm, s)
        | some c => match jumpEx c with
          | some e => some (e, s)
          | none => none) = some r → ∃ w', HR N ν w0 ρ r.2.hp r.2.nx w' ∧ r.2.nx = s.nx ∧ r.2.tm = s.tm ∧ r.2.ds = s.ds ∧ r.2.cm = s.cm ∧ Ends E.P ν ρ (lone (mkF fn kd rr tmps ds (.endRangeFunc b :: k)) cs w) fn kd rr tmps ds k cs w' r.1 := by
      intro hne h
      rw [setObjK_eq] at h
      have hst := st_endRange (fn := fn) (kd := kd) (rnd := rr) (tmps := tmps) (ds := ds) (k := k) (cs := cs) (hrun hne)
      cases p with
      | none =>
        cases h
        have e : (L.pending.map Item.code).toList ++ k = k := by rw [e2]; rfl
        rw [e] at hst
        exact ⟨_, hset _, rfl, rfl, rfl, rfl, .one hst⟩
      | some c =>
        simp only at h
        split at h
        · rename_i e he
          cases h
          refine ⟨_, hset _, rfl, rfl, rfl, rfl, ?_⟩
          have e : (L.pending.map Item.code).toList ++ k = .code c :: k := by rw [e2]; rfl
          rw [e] at hst
          unfold jumpEx at he
          split at he
          · cases he; exact ⟨k, .one hst⟩
          · cases he; exact ⟨k, rfl, .one hst⟩
          · cases he; exact ⟨k, rfl, .one hst⟩
          · cases he
        · cases h
    split at h
    · cases h
    · rename_i hne
      exact fin (fun e => hne e) h
  · cases h

theorem rangeF_ok {f : Operand} {ps : Array Tmp} {asg body : Code} (h : (rangeF fn sz f ps.toList asg body).run I rnd s = some (ex, s2)) : XOK E N ν w0 fn sz [.code (.rangeFunc f ps asg body)] rnd s ex s2 := by
  intro ρ kd rr tmps ds k cs w hr hf
  simp only [rangeF] at h
  split at h
  · rename_i g first cap hfv
    have ht : TR ν ρ s.tm (Act.mk tmps ds).tmps := hf.tr
    obtain ⟨g', a, c, k1, k2, k3, ev⟩ := VR_func.1 (evF_ok ht hfv)
    -- behind the begin
    have core : ∀ (l : Nat) (sl : St) (ρ1 : Rho) (w1 : World) (b : Nat) (mark : List Deferred), (Instr.enterLoop fn tmps ps asg body rr).run E.P w = .ok (b, mark) w1 → Grow s.nx ρ ρ1 sl.nx → AtR ρ1 l b →
        FS N ν w0 ρ1 sz sl kd tmps (mark ++ ds) cs w1 →
        (match sl with
          | ⟨tm, hp, nx, ds, cm⟩ => match I.call (.f g) (appL first [.func (.yield l) [] []] cap) hp nx with
            | some ⟨co, hp, nx⟩ => match co with
              | .ret _ => endL l ⟨tm, hp, nx, ds, cm⟩
              | .pan ch => some (.pan ch, ⟨tm, hp, nx, ds, cm⟩)
            | none => none) = some (ex, s2) →
        ∃ ρ' w' tmps' ds' cs', Grow s.nx ρ ρ' s2.nx ∧ FS N ν w0 ρ' sz s2 kd tmps' ds' cs' w' ∧ CsUp kd cs cs' ∧ tmps'.size = tmps.size ∧
          Ends E.P ν ρ' (lone (mkF fn kd rr tmps ds ([.code (.rangeFunc f ps asg body)] ++ k)) cs w) fn kd rr tmps' ds' k cs' w' ex := by
      intro l sl ρ1 w1 b mark hel hg hb hfs h
      obtain ⟨tm, hp, nx, sds, cm⟩ := sl
      simp only at h
      have x1 := hg.ext hf.hr
      split at h
      · rename_i co hp' nx' hcall
        have hargs : VRs ν ρ1 (appL first [.func (.yield l) [] []] cap) ((a.toArray ++ #[Value.func (.yield b) #[] #[]]) ++ c.toArray).toList := by
          have := (VRs.mono x1 _ _ k2).append ((VRs.one (ν := ν) (ρ := ρ1) (a := .func (.yield l) [] []) (v := .func (.yield b) #[] #[]) (VR_func.2 ⟨.yield b, [], [], ⟨b, hb, rfl⟩, VRs_nil.2 rfl, VRs_nil.2 rfl, rfl⟩)).append (VRs.mono x1 _ _ k3))
          simpa [appL, appK_eq] using this
        obtain ⟨n, w2, h1, h2⟩ := hI.call _ _ _ _ _ hcall ρ1 g' (a.toArray ++ #[Value.func (.yield b) #[] #[]]) c.toArray w1 (k1.mono x1) (fun l e => by cases e) hargs hfs.hr
        have hres : (do let d ← resolve (Act.eval ⟨tmps, ds⟩) { callee := .value f, args := #[.const (.func (.yield b) #[] #[])], argTypes := #[] } 0; invoke d.target d.args : Sem Next).run E.P w1 = .ok n w2 := by
          rw [Sem.run_bind, resolve_value (E := E) ev]
          simpa [Act.eval] using h1
        obtain ⟨m, hm, ρ2, w3, g1, g2, g3⟩ := h2 (mkF fn kd rr tmps (mark ++ ds) (.inRangeFunc b :: k)) cs
        have hst := st_rangeNext hel hres hm
        have x2 := g1.ext hfs.hr
        split at h
        · rename_i v
          obtain ⟨v', _, g5⟩ := g3
          rw [finish_inRange] at g5
          obtain ⟨w4, j1, j2, j3, j4, j5, j6⟩ := endL_ok (fn := fn) (kd := kd) (rr := rr) (tmps := tmps) (ds := mark ++ ds) (k := k) (cs := cs) hE hpc hI h (hb.mono x2) g2
          simp only at j1 j2 j3 j4 j5 j6
          refine ⟨ρ2, w4, tmps, mark ++ ds, cs, hg.trans (by rw [j2]; exact g1), ⟨by rw [j3]; exact hfs.tr.mono x2, j1, hfs.sz, by rw [j4]; exact hfs.df.mono x2, by rw [j5]; exact hfs.cm.mono x2⟩, CsUp.refl _ _, rfl, .of_steps (.head hst g5) j6⟩
        · rename_i ch
          cases h
          obtain ⟨ch', g4, g5⟩ := g3
          refine ⟨ρ2, w3, tmps, mark ++ ds, cs, hg.trans g1, ⟨hfs.tr.mono x2, g2, hfs.sz, hfs.df.mono x2, hfs.cm.mono x2⟩, CsUp.refl _ _, rfl, .inRangeFunc b :: k, ch', g4, ?_, .head hst g5⟩
          unfold Frame.catches
          simp only [mkF]
          split
          · rename_i q1 q2; simp at q2
          · rfl
      · cases h
    unfold enterL at h
    cases rnd with
    | none =>
      have hrr : rr = none := hr
      subst hrr
      simp only [newK_eq] at h
      have hh1 := hf.hr.new (c := 0) (NewW.new w (.deferred (some []))) (o := .defd true) ⟨rfl, hf.hr.base⟩
      have x1 := extR_ext hf.hr w.heap.size 0
      have hh2 := hh1.new (c := 0) (NewW.new _ (.loop { state := .ready, pending := none, fn := fn, tmps := tmps, params := ps, assign := asg, body := body, defers := w.heap.size }))
        (o := .loop .ready none fn sz s.tm ps.toList asg body s.nx)
        ⟨⟨_, rfl, rfl, rfl, rfl, hf.tr.mono x1, hf.sz, rfl, rfl, rfl, ⟨0, by simp [extR]⟩⟩, hh1.base⟩
      have x2 := extR_ext hh1 (newW w (.deferred (some []))).heap.size 0
      have hsz : (newW w (.deferred (some []))).heap.size = w.heap.size + 1 := by simp [newW]
      have g1 := (Grow.new hf.hr w.heap.size 0).trans (Grow.new hh1 (newW w (.deferred (some []))).heap.size 0)
      refine core (s.nx + 1) ⟨s.tm, putT (some (.loop .ready none fn sz s.tm ps.toList asg body s.nx)) (path (s.nx + 1)) (putT (some (.defd true)) (path s.nx) s.hp), s.nx + 1 + 1, .coll s.nx :: s.ds, s.cm⟩ _ _ (w.heap.size + 1) _ (run_enterLoop_none ps asg body) g1 ⟨0, by simp [extR, hsz]⟩ ⟨(hf.tr.mono x1).mono x2, hh2, hf.sz, ?_, (hf.cm.mono x1).mono x2⟩ h
      exact ⟨_, ds, ⟨w.heap.size, ⟨0, x2 _ _ (by simp [extR])⟩, rfl, rfl⟩, (hf.df.mono x1).mono x2, rfl⟩
    | some l0 =>
      obtain ⟨b0, hb0, rfl⟩ := hr
      simp only at h
      split at h
      · rename_i q1 q2 q3 q4 q5 q6 q7 q8 d hl
        rw [newK_eq] at h
        obtain ⟨c0, hbc⟩ := hb0
        obtain ⟨ob, h1, ⟨L, rfl, e1, e2, e3, e4, e5, e6, e7, e8, e9⟩, hN⟩ := hf.hr.live l0 _ b0 c0 hl hbc
        have x1 := extR_ext hf.hr w.heap.size 0
        have hh1 := hf.hr.new (c := 0) (NewW.new w (.loop { state := .ready, pending := none, fn := fn, tmps := tmps, params := ps, assign := asg, body := body, defers := L.defers }))
          (o := .loop .ready none fn sz s.tm ps.toList asg body d) ⟨⟨_, rfl, rfl, rfl, rfl, hf.tr, hf.sz, rfl, rfl, rfl, e9⟩, hf.hr.base⟩
        exact core s.nx ⟨s.tm, putT (some (.loop .ready none fn sz s.tm ps.toList asg body d)) (path s.nx) s.hp, s.nx + 1, s.ds, s.cm⟩ _ _ w.heap.size [] (run_enterLoop_some ps asg body h1) (Grow.new hf.hr _ _) ⟨0, by simp [extR]⟩ ⟨hf.tr.mono x1, hh1, hf.sz, hf.df.mono x1, hf.cm.mono x1⟩ h
      · cases h
  · cases h

/-- Code. -/
theorem execC_ok : ∀ (c : Code) (s : St) (ex : Ex) (s2 : St), (execC E fn sz c).run I rnd s = some (ex, s2) → XOK E N ν w0 fn sz [.code c] rnd s ex s2
  | .skip, s, ex, s2, h => by cases h; exact XOK.step (XOK.nil s) fun _ _ _ _ _ _ _ => st_skip
  | .label l, s, ex, s2, h => by cases h; exact XOK.step (XOK.nil s) fun _ _ _ _ _ _ _ => st_label
  | .region id ops false, s, ex, s2, h => regS_ok hE hpc hI h
  | .region id ops true, s, ex, s2, h => regD_ok hE hpc hI h
  | .seq a b, s, ex, s2, h => by
    simp only [execC, seqX] at h
    split at h
    · rename_i e s1 ha
      have h1 := execC_ok a s e s1 ha
      refine XOK.step (hd' := [.code a, .code b]) ?_ fun _ _ _ _ _ _ _ => st_seq
      split at h
      · exact XOK.append h1 (execC_ok b s1 ex s2 h)
      · rename_i hne
        cases h
        exact XOK.leave rfl (fun e => hne e) h1
    · cases h
  | .cond c a b, s, ex, s2, h => by
    simp only [execC, condX] at h
    split at h
    · rename_i t hc
      intro ρ kd rr tmps ds k cs w hr hf
      have hv := VR_bool.1 (evF_ok (a := ⟨tmps, ds⟩) hf.tr hc)
      have h1 : XOK E N ν w0 fn sz [.code (if t then a else b)] rnd s ex s2 := by
        cases t with
        | true => exact execC_ok a s ex s2 h
        | false => exact execC_ok b s ex s2 h
      obtain ⟨ρ', w', tmps', ds', cs', a1, b1, c1, d1, e1⟩ := h1 ρ kd rr tmps ds k cs w hr hf
      exact ⟨ρ', w', tmps', ds', cs', a1, b1, c1, d1, .of_steps (.one (st_cond hv)) e1⟩
    · cases h
  | .block id b, s, ex, s2, h => by
    simp only [execC, blockX] at h
    split at h
    · rename_i e s1 hb
      have h1 := execC_ok b s e s1 hb
      refine XOK.step (hd' := [.code b, .inBlock id]) ?_ fun _ _ _ _ _ _ _ => st_block
      cases e with
      | nrm => cases h; exact XOK.append h1 (XOK.step (XOK.nil _) fun _ _ _ _ _ _ _ => st_inBlock)
      | ret => cases h; exact XOK.through h1 fun _ _ _ _ _ _ _ _ _ h => h
      | pan ch => cases h; exact XOK.through h1 fun _ _ _ _ _ _ _ _ _ h => h
      | goto l => cases h; exact XOK.through h1 fun _ _ _ _ _ _ _ _ _ h => ends_goto_none rfl h
      | exit j =>
        simp only at h
        split at h
        · rename_i hj
          have := beq_true hj; subst this
          cases h
          refine XOK.through h1 fun ρ kd rr tmps ds k cs w m h => ?_
          obtain ⟨k', x, y⟩ := h
          exact y.trans (.one (st_exit (by rw [x]; simp [exitTo])))
        · rename_i hj
          cases h
          have hne : ¬ id = j := fun e => beq_false hj e.symm
          exact XOK.through h1 fun _ _ _ _ _ _ _ _ _ h => ends_exit_none (by simp [exitTo, hne]) h
    · cases h
  | .loop b, s, ex, s2, h => XOK.step (hI.loop fn sz b rnd s ex s2 h) fun _ _ _ _ _ _ _ => st_loop
  | .rangeFunc f ps asg body, s, ex, s2, h => rangeF_ok hE hpc hI h
  | .exit id, s, ex, s2, h => by
    cases h
    intro ρ kd rr tmps ds k cs w hr hf
    exact ⟨ρ, w, tmps, ds, cs, Grow.refl _ _, hf, CsUp.refl _ _, rfl, k, rfl, Steps.refl _ _⟩
  | .scope b, s, ex, s2, h => XOK.step (hI.scope fn sz b b rnd s ex s2 h) fun _ _ _ _ _ _ _ => st_scope
  | .goto l, s, ex, s2, h => by
    cases h
    intro ρ kd rr tmps ds k cs w hr hf
    exact ⟨ρ, w, tmps, ds, cs, Grow.refl _ _, hf, CsUp.refl _ _, rfl, k, rfl, Steps.refl _ _⟩
  | .ret, s, ex, s2, h => by
    cases h
    intro ρ kd rr tmps ds k cs w hr hf
    exact ⟨ρ, w, tmps, ds, cs, Grow.refl _ _, hf, CsUp.refl _ _, rfl, k, Steps.refl _ _⟩
  | .refuse why, s, ex, s2, h => by cases h

theorem loopC_ok {b : Code} (h : loopC E I fn sz b rnd s = some (ex, s2)) : XOK E N ν w0 fn sz [.code b, .inLoop b] rnd s ex s2 := by
  unfold loopC at h
  split at h
  · rename_i e s1 hb
    have h1 := execC_ok (fn := fn) (sz := sz) (rnd := rnd) hE hpc hI b s e s1 hb
    split at h
    · exact XOK.append h1 (XOK.step (hI.loop fn sz b rnd s1 ex s2 h) fun _ _ _ _ _ _ _ => st_inLoop)
    · rename_i hne
      cases h
      exact XOK.leave rfl (fun e => hne e) h1
  · cases h

theorem scopeC_ok {b c : Code} (h : scopeC E I fn sz b c rnd s = some (ex, s2)) : XOK E N ν w0 fn sz [.code c, .inScope b] rnd s ex s2 := by
  unfold scopeC at h
  split at h
  · rename_i e s1 hb
    have h1 := execC_ok (fn := fn) (sz := sz) (rnd := rnd) hE hpc hI c s e s1 hb
    cases e with
    | nrm => cases h; exact XOK.append h1 (XOK.step (XOK.nil _) fun _ _ _ _ _ _ _ => st_inScope)
    | ret => cases h; exact XOK.through h1 fun _ _ _ _ _ _ _ _ _ h => h
    | pan ch => cases h; exact XOK.through h1 fun _ _ _ _ _ _ _ _ _ h => h
    | exit j => cases h; exact XOK.through h1 fun _ _ _ _ _ _ _ _ _ h => ends_exit_none rfl h
    | goto l =>
      simp only at h
      split at h
      · rename_i rest hl
        have h2 := hI.scope fn sz b rest rnd s1 ex s2 h
        intro ρ kd rr tmps ds k cs w hr hf
        obtain ⟨ρ1, w1, tmps1, ds1, cs1, a1, b1, c1, d1, k', x, y⟩ := h1 ρ kd rr tmps ds (.inScope b :: k) cs w hr hf
        obtain ⟨ρ2, w2, tmps2, ds2, cs2, a2, b2, c2, d2, e2⟩ := h2 ρ1 kd rr tmps1 ds1 k cs1 w1 (hr.mono (a1.ext hf.hr)) b1
        have hst := st_goto (P := E.P) (fn := fn) (kd := kd) (rnd := rr) (tmps := tmps1) (ds := ds1) (k := k') (cs := cs1) (w := w1) (l := l) (k' := .code rest :: .inScope b :: k) (by rw [x]; simp [gotoIn, hl])
        exact ⟨ρ2, w2, tmps2, ds2, cs2, a1.trans a2, b2, c1.trans c2, d2.trans d1, .of_steps (y.trans (.one hst)) e2⟩
      · rename_i hl
        cases h
        exact XOK.through h1 fun _ _ _ _ _ _ _ _ _ h => ends_goto_none (by simp [gotoIn, hl]) h
  · cases h

end
end Pk
/- The abstract run is sound: rounds of loops over functions. -/
namespace Pk
open Go Go.RowKit

/-- A frame that unwinds by a panic is left. -/
theorem st_leave_pan' {P : Program} {fr c : Frame} {cs : List Frame} {w : World} {ch : List PanicEntry} (hm : fr.mode = .panicking ch) (hd : fr.defers = []) (hc : Frame.catches P fr = false) :
    step P (lone fr (c :: cs) w) = .next (lone (c.raise ch) cs w) :=
  step_lone_go (by simp [stepG, unwind, hm, hd, hc])

section
variable {E : Env} {N : Nat} {ν : Nat → Int} {w0 : World} {I : IH} {ρ : Rho}

theorem setParams_ok {β : Type} {z : Nat} : ∀ (ps : List Tmp) (vs : List AV) (vals : List Value) (tm : Tr AV) (tmps : Array Value) (k : Option (Tr AV) → Option β) (x : β), k none = none → setParams z ps vs tm k = some x →
    TR ν ρ tm tmps → VRs ν ρ vs vals → z ≤ tmps.size →
    ∃ tm', k (some tm') = some x ∧ vals.length = ps.length ∧ TR ν ρ tm' ((ps.zip vals).foldl (fun ts p => ts.setIfInBounds p.1 p.2) tmps) ∧ ((ps.zip vals).foldl (fun ts p => ts.setIfInBounds p.1 p.2) tmps).size = tmps.size
  | [], vs, vals, tm, tmps, k, x, hk, h, ht, hv, hz => by
    simp only [setParams] at h
    cases vs with
    | nil => rw [VRs_nil] at hv; subst hv; exact ⟨tm, h, rfl, ht, rfl⟩
    | cons a l => simp only at h; rw [hk] at h; cases h
  | p :: ps, vs, vals, tm, tmps, k, x, hk, h, ht, hv, hz => by
    cases vs with
    | nil => simp only [setParams] at h; rw [hk] at h; cases h
    | cons a l =>
      obtain ⟨v, r, h1, h2, rfl⟩ := VRs_cons.1 hv
      simp only [setParams] at h
      split at h
      · rename_i hp
        rw [putP_eq] at h
        have hlt := ble_false hp
        obtain ⟨tm', k1, k2, k3, k4⟩ := setParams_ok ps l r _ (tmps.setIfInBounds p v) k x hk h (ht.set h1 (by omega)) h2 (by simpa using hz)
        exact ⟨tm', k1, by simp [k2], by simpa using k3, by simpa using k4⟩
      · rw [hk] at h; cases h

variable (hE : EnvOK E) (hpc : ∀ p ∈ E.pc, PFok ν p) (hI : IHOK E N ν w0 I)
include hE hpc hI

theorem run_endRound {l b c : Nat} {st : LoopState} {p : Option Code} {f : FuncId} {z : Nat} {tm : Tr AV} {ps : List Tmp} {a bd : Code} {d : Nat} {hp : Tr AObj} {nx : Nat} {w : World} (hh : HR N ν w0 ρ hp nx w) (hbc : ρ l = some (b, c))
    (hl : getP (path l) hp = some (.loop st p f z tm ps a bd d)) (jump : Option Code) :
    ∃ w', (Instr.endRound b jump).run E.P w = .ok (.bool jump.isNone) w' ∧ HR N ν w0 ρ (putT (some (.loop (if jump.isNone then .ready else .done) jump f z tm ps a bd d)) (path l) hp) nx w' := by
  obtain ⟨ob, h1, ⟨L, rfl, e1, e2, e3, e4, e5, e6, e7, e8, e9⟩, hN⟩ := hh.live l _ b c hl hbc
  refine ⟨{ w with heap := w.heap.setIfInBounds b (.loop { L with state := if jump.isNone then .ready else .done, pending := jump }) }, ?_, hh.set hbc hl hN ⟨rfl, rfl, rfl, rfl⟩ ⟨⟨_, rfl, rfl, rfl, e3, e4, e5, e6, e7, e8, e9⟩, hN⟩⟩
  simp [Instr.endRound, Instr.getLoop, getObj, setObj, Sem.run, h1]

theorem yieldA_ok {l : Nat} {args : List AV} {hp : Tr AObj} {nx : Nat} {r : CR} (h : yieldA E I l args hp nx = some r) : CallOK E N ν w0 (.yield l) args hp nx r := by
  intro ρ fn' a cap w hfn hcap hargs hh
  obtain ⟨b, ⟨c, hbc⟩, rfl⟩ := hfn
  have hcap := hcap l rfl
  subst hcap
  unfold yieldA at h
  split at h
  · rename_i q1 q2 fn z tm ps asg body d hl
    obtain ⟨ob, h1, ⟨L, rfl, e1, e2, e3, e4, e5, e6, e7, e8, e9⟩, hN⟩ := hh.live l _ b c hl hbc
    obtain ⟨tm1, h2, hlen, ht1, hsz1⟩ := setParams_ok ps args (a ++ #[]).toList tm L.tmps _ r rfl h e4 hargs e5
    simp only at h2
    have hinv : (invoke (.fn (.yield b) #[]) a).run E.P w = .ok (.round b L.fn ((ps.zip (a ++ #[]).toList).foldl (fun ts p => ts.setIfInBounds p.1 p.2) L.tmps) L.assign L.body) w := by
      have hs : ¬ (a.size ≠ L.params.size) := by
        have h3 : a.size = ps.length := by simpa using hlen
        have h4 : L.params.size = ps.length := by rw [← e6]; simp
        omega
      have hz : (L.params.zip a).foldl (fun tmps (x : Nat × Value) => tmps.setIfInBounds x.1 x.2) L.tmps = (ps.zip (a ++ #[]).toList).foldl (fun ts p => ts.setIfInBounds p.1 p.2) L.tmps := by
        rw [← Array.foldl_toList, Array.toList_zip, e6]; simp
      rw [← hz]
      simp only [invoke, Instr.yield, Instr.getLoop, getObj]
      simp [Sem.run, h1, hs]
    refine ⟨_, w, hinv, fun cf cs => ⟨_, rfl, ?_⟩⟩
    rw [e3, e7, e8]
    generalize hT : ((ps.zip (a ++ #[]).toList).foldl (fun ts p => ts.setIfInBounds p.1 p.2) L.tmps) = T at ht1 hsz1
    have hround : Frame.round b fn T asg body .normal = mkF fn .normal (some b) T [] [.code asg, .beginRound, .code body] := rfl
    rw [hround]
    split at h2
    · rename_i tm2 hp2 nx2 hasg
      have hx := execC_ok (fn := fn) (sz := z) (rnd := some l) hE hpc hI asg _ _ _ hasg
      have hf1 : FS N ν w0 ρ z ⟨tm1, hp, nx, [], .no⟩ .normal T [] (cf :: cs) w := ⟨ht1, hh, by rw [hsz1]; exact e5, rfl, rfl⟩
      obtain ⟨ρ2, w2, T2, ds2, cs2, g2, f2, u2, z2, en2⟩ := hx ρ .normal (some b) T [] [.beginRound, .code body] (cf :: cs) w ⟨b, ⟨c, hbc⟩, rfl⟩ hf1
      have hds2 : ds2 = [] := f2.df
      subst hds2
      have hcs2 : cs2 = cf :: cs := by
        rcases u2 with h | ⟨h, _⟩
        · exact h
        · cases h
      subst hcs2
      have hbc2 : ρ2 l = some (b, c) := g2.ext hh _ _ hbc
      split at h2
      · rename_i p2 f2' z2' tm2' ps2 a2 b2 d2 hl2
        rw [putP_eq] at h2
        obtain ⟨ob2, k1, ⟨L2, rfl, i1, i2, i3, i4, i5, i6, i7, i8, i9⟩, hN2⟩ := f2.hr.live l _ b c hl2 hbc2
        have hbeg : (Instr.beginRound b).run E.P w2 = .ok () { w2 with heap := w2.heap.setIfInBounds b (.loop { L2 with state := .busy }) } := by
          simp [Instr.beginRound, Instr.getLoop, getObj, setObj, Sem.run, k1, i1]
        have hh3 : HR N ν w0 ρ2 (putT (some (.loop .busy p2 f2' z2' tm2' ps2 a2 b2 d2)) (path l) hp2) nx2 { w2 with heap := w2.heap.setIfInBounds b (.loop { L2 with state := .busy }) } :=
          f2.hr.set hbc2 hl2 hN2 ⟨rfl, rfl, rfl, rfl⟩ ⟨⟨_, rfl, rfl, i2, i3, i4, i5, i6, i7, i8, i9⟩, hN2⟩
        have st1 : Steps E.P (lone (mkF fn .normal (some b) T [] [.code asg, .beginRound, .code body]) (cf :: cs) w) (lone (mkF fn .normal (some b) T2 [] [.code body]) (cf :: cs) _) :=
          en2.trans (.one (st_beginRound hbeg))
        unfold roundBody at h2
        split at h2
        · rename_i e q hp4 nx4 hbody
          have hx2 := execC_ok (fn := fn) (sz := z) (rnd := some l) hE hpc hI body _ _ _ hbody
          obtain ⟨ρ4, w4, T4, ds4, cs4, g4, f4, u4, z4, en4⟩ := hx2 ρ2 .normal (some b) T2 [] [] (cf :: cs) _ ⟨b, ⟨c, hbc2⟩, rfl⟩ ⟨f2.tr, hh3, f2.sz, rfl, rfl⟩
          simp only [List.append_nil] at en4
          have hds4 : ds4 = [] := f4.df
          subst hds4
          have hcs4 : cs4 = cf :: cs := by
            rcases u4 with h | ⟨h, _⟩
            · exact h
            · cases h
          subst hcs4
          have hbc4 : ρ4 l = some (b, c) := g4.ext hh3 _ _ hbc2
          generalize hwb : ({ w2 with heap := w2.heap.setIfInBounds b (.loop { L2 with state := .busy }) } : World) = wb at hh3 st1 en4
          have fin : ∀ (jump : Option Code), endRound l jump hp4 nx4 = some r → (∀ v w', (Instr.endRound b jump).run E.P w4 = .ok v w' → Steps E.P (lone (mkF fn .normal (some b) T2 [] [.code body]) (cf :: cs) wb) (lone (cf.finish v) cs w')) →
              ∃ ρ' w', Grow nx ρ ρ' r.nx ∧ HR N ν w0 ρ' r.hp r.nx w' ∧ match r.co with
                | .ret v => ∃ v', VR ν ρ' v v' ∧ Steps E.P (lone (mkF fn .normal (some b) T [] [.code asg, .beginRound, .code body]) (cf :: cs) w) (lone (cf.finish v') cs w')
                | .pan ch => ∃ ch', PnR ν ρ' ch ch' ∧ Steps E.P (lone (mkF fn .normal (some b) T [] [.code asg, .beginRound, .code body]) (cf :: cs) w) (lone (cf.raise ch') cs w') := by
            intro jump he hst
            unfold endRound at he
            split at he
            · rename_i st5 p5 f5 z5 tm5 ps5 a5 b5 d5 hl5
              obtain ⟨w5, r5, hh5⟩ := run_endRound hE hpc hI f4.hr hbc4 hl5 jump
              cases jump with
              | none =>
                simp only [putP_eq] at he
                cases he
                exact ⟨ρ4, w5, g2.trans g4, hh5, .bool true, VR_bool.2 rfl, st1.trans (hst _ _ r5)⟩
              | some j =>
                simp only [putP_eq] at he
                cases he
                exact ⟨ρ4, w5, g2.trans g4, hh5, .bool false, VR_bool.2 rfl, st1.trans (hst _ _ r5)⟩
            · cases he
          cases e with
          | nrm => exact fin none h2 fun v w' hr => en4.trans (.one (st_endRound hr))
          | ret => exact fin _ h2 fun v w' hr => by obtain ⟨k', y⟩ := en4; exact y.trans (.one (st_endRound_ret hr))
          | exit id => exact fin _ h2 fun v w' hr => by obtain ⟨k', x, y⟩ := en4; exact y.trans (.one (st_endRound_exit (by rw [x]; rfl) hr))
          | goto g => exact fin _ h2 fun v w' hr => by obtain ⟨k', x, y⟩ := en4; exact y.trans (.one (st_endRound_goto (by rw [x]; rfl) hr))
          | pan ch =>
            cases h2
            obtain ⟨k', ch', x, y, st⟩ := en4
            exact ⟨ρ4, w4, g2.trans g4, f4.hr, ch', x, (st1.trans st).trans (.one (st_leave_pan' rfl rfl y))⟩
        · cases h2
      · cases h2
    · cases h2
  · cases h

end
end Pk
/- The abstract run is sound: functions' bodies, deferred calls, calls; the whole. -/
namespace Pk
open Go Go.RowKit

theorem run_callFunc {P : Program} {f : FuncId} {args : Array Value} {w : World} {fn : Func} (h1 : P.funcs[f]? = some fn) (h2 : fn.name ≠ "runtime.NumGoroutine") (h3 : fn.body.isNone = false) :
    (callFunc f args).run P w = .ok (.enter f args) w := by
  have h3' : fn.body ≠ none := by intro e; rw [e] at h3; cases h3
  unfold callFunc
  simp [program, Sem.run_bind, Sem.run, h1, h2, h3']

/-- A mode of unwinding. -/
def UmR (ν : Nat → Int) (ρ : Rho) : UM → FrameMode → Prop
  | .ret, m => m = .returning
  | .pan ch, m => ∃ ps, m = .panicking ps ∧ PnR ν ρ ch ps

theorem UmR.mono {ν : Nat → Int} {ρ ρ' : Rho} (h : Ext ρ ρ') {m : UM} {md : FrameMode} (k : UmR ν ρ m md) : UmR ν ρ' m md := by
  cases m with
  | ret => exact k
  | pan ch => obtain ⟨ps, a, b⟩ := k; exact ⟨ps, a, b.mono h⟩

theorem UmR.ne {ν : Nat → Int} {ρ : Rho} {m : UM} {md : FrameMode} (k : UmR ν ρ m md) : md ≠ .run := by
  cases m with
  | ret => intro e; rw [e] at k; cases k
  | pan ch => obtain ⟨ps, rfl, _⟩ := k; intro e; cases e

section
variable {E : Env} {N : Nat} {ν : Nat → Int} {w0 : World} {I : IH} {ρ : Rho}

theorem PnR.goexit {l : List APan} {ps : List PanicEntry} (h : PnR ν ρ l ps) : ps.dropWhile (!·.goexit) = [] := by
  induction l generalizing ps with
  | nil => cases h; rfl
  | cons a l ih =>
    obtain ⟨p, r, ⟨_, _, k3⟩, k4, rfl⟩ := h
    simp [List.dropWhile, k3, ih k4]

/-- What the caller of a deferred call is, behind it. -/
theorem behind_ok {c : Frame} {cs : List Frame} {cm : ACM} {m : UM} (h : CmR ν ρ .deferred (c :: cs) cm) (hb : behind cm = some m) : ∃ md, retTo c = { c with mode := md } ∧ UmR ν ρ m md := by
  cases cm with
  | no => cases hb
  | ret =>
    cases hb
    obtain ⟨_, c', r, e, hm⟩ := h
    cases e
    exact ⟨.returning, by obtain ⟨a1, a2, a3, a4, a5, a6, a7⟩ := c; simp only at hm; subst hm; rfl, rfl⟩
  | pan ch =>
    obtain ⟨_, c', r, ps, e, hm, hp⟩ := h
    cases e
    obtain ⟨a1, a2, a3, a4, a5, a6, a7⟩ := c
    simp only at hm
    subst hm
    cases ch with
    | nil =>
      cases hb
      have : ps = [] := hp
      subst this
      exact ⟨_, rfl, [], rfl, rfl⟩
    | cons a l =>
      obtain ⟨av, ar⟩ := a
      obtain ⟨p, pr, ⟨q1, q2, q3⟩, q4, rfl⟩ := hp
      obtain ⟨pv, prec, pg⟩ := p
      simp only at q2
      subst q2
      cases prec with
      | true =>
        cases hb
        refine ⟨.returning, ?_, rfl⟩
        simp only [retTo, q4.goexit]
      | false =>
        cases hb
        exact ⟨.panicking ({ v := pv, recovered := false, goexit := pg } :: pr), rfl, _, rfl, ⟨_, pr, ⟨q1, rfl, q3⟩, q4, rfl⟩⟩

theorem raise_ok {c : Frame} {cs : List Frame} {cm : ACM} {m : UM} {ch : List APan} {ch' : List PanicEntry} (h : CmR ν ρ .deferred (c :: cs) cm) (hp : PnR ν ρ ch ch') (hb : raiseU cm ch = some m) :
    ∃ md, c.raise ch' = { c with mode := md } ∧ UmR ν ρ m md := by
  cases cm with
  | no => cases hb
  | ret =>
    cases hb
    obtain ⟨_, c', r, e, hm⟩ := h
    cases e
    obtain ⟨a1, a2, a3, a4, a5, a6, a7⟩ := c
    simp only at hm
    subst hm
    exact ⟨.panicking ch', rfl, ch', rfl, hp⟩
  | pan old =>
    cases hb
    obtain ⟨_, c', r, ps, e, hm, hp'⟩ := h
    cases e
    obtain ⟨a1, a2, a3, a4, a5, a6, a7⟩ := c
    simp only at hm
    subst hm
    exact ⟨.panicking (ch' ++ ps), rfl, ch' ++ ps, rfl, hp.append hp'⟩

theorem umCm_ok {c : Frame} {cs : List Frame} {m : UM} (h : UmR ν ρ m c.mode) : CmR ν ρ .deferred (c :: cs) (umCm m) := by
  cases m with
  | ret => exact ⟨rfl, c, cs, rfl, h⟩
  | pan ch => obtain ⟨ps, a, b⟩ := h; exact ⟨rfl, c, cs, ps, rfl, a, b⟩

/-- Deferred calls. -/
theorem unwA_ok (hI : IHOK E N ν w0 I) : ∀ (l : List ADef) (m : UM) (hp : Tr AObj) (nx : Nat) (r : UR), unwA I l m hp nx = some r → ∀ (ρ : Rho) (fr : Frame) (cs : List Frame) (w : World),
    DfRs ν ρ l fr.defers → HR N ν w0 ρ hp nx w → UmR ν ρ m fr.mode →
    ∃ ρ' w' md, Grow nx ρ ρ' r.nx ∧ HR N ν w0 ρ' r.hp r.nx w' ∧ UmR ν ρ' r.m md ∧ Steps E.P (lone fr cs w) (lone { fr with defers := [], mode := md } cs w')
  | [], m, hp, nx, r, h, ρ, fr, cs, w, hd, hh, hm => by
    cases h
    have hd : fr.defers = [] := hd
    refine ⟨ρ, w, fr.mode, Grow.refl _ _, hh, hm, ?_⟩
    obtain ⟨a1, a2, a3, a4, a5, a6, a7⟩ := fr
    simp only at hd
    subst hd
    exact Steps.refl _ _
  | .coll i :: l, m, hp, nx, r, h, ρ, fr, cs, w, hd, hh, hm => by
    simp only [unwA] at h
    split at h
    · rename_i hl
      rw [putP_eq] at h
      obtain ⟨d, ds2, ⟨b, ⟨c, hbc⟩, k1, k2⟩, k3, k4⟩ := hd
      obtain ⟨tg, ag⟩ := d
      simp only at k1 k2
      subst k1; subst k2
      obtain ⟨ob, h1, rfl, hN⟩ := hh.live i _ b c hl hbc
      have hst := st_unw_coll (P := E.P) (cs := cs) (w := w) hm.ne k4 h1
      have hh2 : HR N ν w0 ρ (putT (some (.defd false)) (path i) hp) nx { w with heap := w.heap.setIfInBounds b (.deferred none) } := hh.set hbc hl hN ⟨rfl, rfl, rfl, rfl⟩ ⟨rfl, hN⟩
      obtain ⟨ρ', w', md, g1, g2, g3, g4⟩ := unwA_ok hI l m _ nx r h ρ { fr with defers := ds2 } cs _ k3 hh2 hm
      exact ⟨ρ', w', md, g1, g2, g3, .head hst g4⟩
    · cases h
  | .call fn args :: l, m, hp, nx, r, h, ρ, fr, cs, w, hd, hh, hm => by
    simp only [unwA] at h
    obtain ⟨d, ds2, ⟨fn', a, c, k0, k1, k2, k5⟩, k3, k4⟩ := hd
    split at h
    · rename_i co cm hp2 nx2 hdc
      obtain ⟨f, a', rfl, hinv, ρ1, w1, md1, g1, g2, g3, g4⟩ := hI.dcall fn args (umCm m) hp nx _ hdc ρ fn' a c w { fr with defers := ds2 } cs k0 k5 hh (umCm_ok hm)
      have x1 := g1.ext hh
      have hst := st_unw_enter (P := E.P) (cs := cs) (w := w) (f := f) (args := a') (w' := w) hm.ne k4 ⟨f, c, k1⟩ (by rw [k1, k2]; exact hinv)
      have fin : ∀ (m2 : UM) (md2 : FrameMode), unwA I l m2 hp2 nx2 = some r → UmR ν ρ1 m2 md2 → Steps E.P (lone (Frame.enter E.P f a' .deferred) ({ fr with defers := ds2 } :: cs) w) (lone { fr with defers := ds2, mode := md2 } cs w1) →
          ∃ ρ' w' md, Grow nx ρ ρ' r.nx ∧ HR N ν w0 ρ' r.hp r.nx w' ∧ UmR ν ρ' r.m md ∧ Steps E.P (lone fr cs w) (lone { fr with defers := [], mode := md } cs w') := by
        intro m2 md2 h2 hm2 hs2
        obtain ⟨ρ', w', md, j1, j2, j3, j4⟩ := unwA_ok hI l m2 hp2 nx2 r h2 ρ1 { fr with defers := ds2, mode := md2 } cs w1 (k3.mono x1) g2 hm2
        exact ⟨ρ', w', md, g1.trans j1, j2, j3, .head hst (hs2.trans j4)⟩
      cases co with
      | ret v =>
        simp only at h g4
        split at h
        · rename_i m2 hb
          obtain ⟨md2, e1, e2⟩ := behind_ok g3 hb
          rw [e1] at g4
          exact fin m2 md2 h e2 g4
        · cases h
      | pan ch =>
        simp only at h g4
        split at h
        · rename_i m2 hb
          obtain ⟨ch', e0, g5⟩ := g4
          obtain ⟨md2, e1, e2⟩ := raise_ok g3 e0 hb
          rw [e1] at g5
          exact fin m2 md2 h e2 g5
        · cases h
    · cases h

variable (hE : EnvOK E)
include hE

/-- One result. -/
def resF (tmps : Array Value) (r : ResultVar) : Sem Value := match r with
  | .tmp t => pure (tmps.getD t undef)
  | .cell a t => do loadVar t (← asAddr (tmps.getD a undef))

omit hE in
theorem results_eq (f : Func) (tmps : Array Value) : results f tmps = (do let vs ← f.results.mapM (resF tmps); pure (if h : vs.size = 1 then vs[0] else .tuple vs) : Sem Value) := by
  unfold results
  congr 2

theorem res1_ok {hp : Tr AObj} {nx : Nat} {tm : Tr AV} {tmps : Array Value} {w : World} (ht : TR ν ρ tm tmps) (hh : HR N ν w0 ρ hp nx w) {r : ResultVar} {v : AV} (h : res1 E hp tm r = some v) :
    ∃ v', (resF tmps r).run E.P w = .ok v' w ∧ VR ν ρ v v' := by
  unfold res1 at h
  split at h
  · rename_i t
    exact ⟨_, rfl, ht _ _ h⟩
  · rename_i a t
    split at h
    · rename_i id off ha
      split at h
      · rename_i l e wr g hl
        obtain ⟨b, ⟨c, hbc⟩, ev⟩ := VR_ptr.1 (ht _ _ ha)
        obtain ⟨ob, h1, cs, fz, rfl, h2, _⟩ := hh.live id _ b c hl hbc
        obtain ⟨v', h3, h4⟩ := loadVar_ok hE h1 h2 h
        refine ⟨v', ?_, h4⟩
        simp only [resF]
        rw [ev]
        simpa [asAddr, Sem.run_bind] using h3
      · cases h
    · cases h

theorem resA_ok {hp : Tr AObj} {nx : Nat} {tm : Tr AV} {tmps : Array Value} {w : World} (ht : TR ν ρ tm tmps) (hh : HR N ν w0 ρ hp nx w) : ∀ (rs : List ResultVar) (l : List AV), resA E hp tm rs = some l →
    ∃ vs, (rs.mapM (resF tmps)).run E.P w = .ok vs w ∧ VRs ν ρ l vs
  | [], l, h => by cases h; exact ⟨[], rfl, VRs_nil.2 rfl⟩
  | r :: rs, l, h => by
    simp only [resA] at h
    split at h
    · rename_i v hv
      split at h
      · rename_i l2 hl
        cases h
        obtain ⟨v', h1, h2⟩ := res1_ok hE ht hh hv
        obtain ⟨vs, h3, h4⟩ := resA_ok ht hh rs l2 hl
        refine ⟨v' :: vs, ?_, VRs_cons.2 ⟨v', vs, h2, h4, rfl⟩⟩
        rw [List.mapM_cons]
        simp only [Sem.run_bind, h1, Result.andThen_ok, h3, Sem.run_pure]
      · cases h
    · cases h

theorem results_ok {hp : Tr AObj} {nx : Nat} {tm : Tr AV} {tmps : Array Value} {w : World} (ht : TR ν ρ tm tmps) (hh : HR N ν w0 ρ hp nx w) {f : Func} {l : List AV} (h : resA E hp tm f.results.toList = some l) :
    ∃ v', (results f tmps).run E.P w = .ok v' w ∧ VR ν ρ (tupA l) v' := by
  obtain ⟨vs, h1, h2⟩ := resA_ok hE ht hh _ _ h
  have hm : (f.results.mapM (resF tmps)).run E.P w = .ok vs.toArray w := by
    rw [Array.mapM_eq_mapM_toList]
    change ((f.results.toList.mapM (resF tmps)) >>= fun l => pure l.toArray : Sem _).run E.P w = _
    rw [Sem.run_bind, h1]; rfl
  rw [results_eq, Sem.run_bind, hm]
  simp only [Result.andThen_ok, Sem.run_pure]
  have hlen := h2.length
  by_cases h3 : vs.length = 1
  · obtain ⟨x, rfl⟩ := List.length_eq_one_iff.1 h3
    obtain ⟨a, rfl⟩ : ∃ a, l = [a] := List.length_eq_one_iff.1 (by omega)
    refine ⟨x, by simp, ?_⟩
    obtain ⟨v, r, k1, k2, e⟩ := VRs_cons.1 h2
    simp only [List.cons.injEq] at e
    rw [e.1]; exact k1
  · refine ⟨.tuple vs.toArray, by simp [h3], ?_⟩
    have e : tupA l = .tup l := by
      cases l with
      | nil => rfl
      | cons a l2 => cases l2 with
        | nil => simp at hlen; omega
        | cons b l3 => rfl
    rw [e]
    exact VR_tup.2 ⟨vs, h2, rfl⟩

/-- The arguments' slots. -/
noncomputable def argT : List AV → Nat → Tr AV → Tr AV
  | [], _, tm => tm
  | v :: vs, i, tm => argT vs (i + 1) (putT (some v) (path i) tm)

omit hE in
theorem setArgs_eq {β : Type} : ∀ (l : List AV) (i : Nat) (tm : Tr AV) (k : Tr AV → β), setArgs l i tm k = k (argT l i tm)
  | [], i, tm, k => rfl
  | a :: l, i, tm, k => by simp only [setArgs, argT]; rw [putP_eq]; exact setArgs_eq l (i + 1) _ k

omit hE in
theorem argT_ok : ∀ (l : List AV) (i : Nat) (tm : Tr AV) (vs : List Value) (tmps : Array Value), VRs ν ρ l vs → TR ν ρ tm tmps → (∀ j, j < vs.length → tmps[i + j]? = vs[j]?) → TR ν ρ (argT l i tm) tmps
  | [], i, tm, vs, tmps, hv, ht, hj => ht
  | a :: l, i, tm, vs, tmps, hv, ht, hj => by
    obtain ⟨v, r, h1, h2, rfl⟩ := VRs_cons.1 hv
    refine argT_ok l (i + 1) _ r tmps h2 ?_ fun j hjl => ?_
    · intro t b hb
      rw [get_putN] at hb
      by_cases ht' : t = i
      · rw [if_pos ht'] at hb
        cases hb
        subst ht'
        have := hj 0 (by simp)
        simp only [Nat.add_zero, List.getElem?_cons_zero] at this
        rw [Array.getD_eq_getD_getElem?, this]
        exact h1
      · rw [if_neg ht'] at hb; exact ht t b hb
    · have := hj (j + 1) (by simpa using hjl)
      rw [show i + 1 + j = i + (j + 1) by omega, this]; simp

variable (hpc : ∀ p ∈ E.pc, PFok ν p) (hI : IHOK E N ν w0 I)
include hpc hI

/-- A function's body, to the frame that is left. -/
theorem bodyA_ok {f : FuncId} {args : List AV} {cm : ACM} {hp : Tr AObj} {nx : Nat} {r : DR} (h : bodyA E I f args cm hp nx = some r) {argsV : Array Value} {w : World} {kd : CallKind} {cs : List Frame}
    (ha : VRs ν ρ args argsV.toList) (hh : HR N ν w0 ρ hp nx w) (hc : CmR ν ρ kd cs cm) :
    ∃ fn, E.P.funcs[f]? = some fn ∧ fn.name ≠ "runtime.NumGoroutine" ∧ fn.body.isNone = false ∧
    ∃ ρ' w' cs' fr, Grow nx ρ ρ' r.nx ∧ HR N ν w0 ρ' r.hp r.nx w' ∧ CsUp kd cs cs' ∧ CmR ν ρ' kd cs' r.cm ∧ Steps E.P (lone (Frame.enter E.P f argsV kd) cs w) (lone fr cs' w') ∧
      fr.fn = f ∧ fr.kind = kd ∧ fr.defers = [] ∧ match r.co with
        | .ret v => fr.mode = .returning ∧ ∃ v', (results fn fr.tmps).run E.P w' = .ok v' w' ∧ VR ν ρ' v v'
        | .pan ch => ∃ ch', fr.mode = .panicking ch' ∧ PnR ν ρ' ch ch' := by
  unfold bodyA at h
  split at h
  · rename_i fn hfn
    obtain ⟨hf, hname⟩ := hE.ft f fn hfn
    split at h
    · rename_i c hbody
      refine ⟨fn, hf, hname, by rw [hbody]; rfl, ?_⟩
      have henter : Frame.enter E.P f argsV kd = mkF f kd none (argsV ++ Array.replicate (fn.ntmps - argsV.size) undef) [] [.code c] := by
        simp [Frame.enter, mkF, hf, hbody]
      generalize hT : argsV ++ Array.replicate (fn.ntmps - argsV.size) undef = T at henter
      have hTs : fn.ntmps ≤ T.size := by rw [← hT]; simp; omega
      have ht0 : TR ν ρ (argT args 0 .nil) T := argT_ok args 0 .nil argsV.toList T ha (TR.nil _) (fun j hj => by
          rw [← hT, Nat.zero_add]
          simp only [Array.length_toList] at hj
          rw [Array.getElem?_append_left hj, Array.getElem?_toList])
      rw [setArgs_eq] at h
      split at h
      · rename_i e s2 hex
        have hx := execC_ok (fn := f) (sz := fn.ntmps) (rnd := none) hE hpc hI c _ _ _ hex
        obtain ⟨ρ2, w2, T2, ds2, cs2, g2, f2, u2, z2, en2⟩ := hx ρ kd none T [] [] cs w rfl ⟨ht0, hh, hTs, rfl, hc⟩
        rw [henter]
        -- unwinding
        have fin : ∀ (m : UM) (md : FrameMode) (todo : List Item), leave E I fn m s2 = some r → UmR ν ρ2 m md → Steps E.P (lone (mkF f kd none T [] [.code c]) cs w) (lone { mkF f kd none T2 ds2 todo with mode := md } cs2 w2) →
            ∃ ρ' w' cs' fr, Grow nx ρ ρ' r.nx ∧ HR N ν w0 ρ' r.hp r.nx w' ∧ CsUp kd cs cs' ∧ CmR ν ρ' kd cs' r.cm ∧ Steps E.P (lone (mkF f kd none T [] [.code c]) cs w) (lone fr cs' w') ∧
              fr.fn = f ∧ fr.kind = kd ∧ fr.defers = [] ∧ match r.co with
                | .ret v => fr.mode = .returning ∧ ∃ v', (results fn fr.tmps).run E.P w' = .ok v' w' ∧ VR ν ρ' v v'
                | .pan ch => ∃ ch', fr.mode = .panicking ch' ∧ PnR ν ρ' ch ch' := by
          intro m md todo hl hm hst
          obtain ⟨tm, hp2, nx2, sds, cm2⟩ := s2
          simp only [leave] at hl
          split at hl
          · rename_i ur hur
            obtain ⟨ρ3, w3, md3, j1, j2, j3, j4⟩ := unwA_ok hI sds m hp2 nx2 ur hur ρ2 { mkF f kd none T2 ds2 todo with mode := md } cs2 w2 f2.df f2.hr hm
            have x3 := j1.ext f2.hr
            obtain ⟨m3, hp3, nx3⟩ := ur
            simp only [results'] at hl
            simp only at j1 j2 j3
            cases m3 with
            | ret =>
              simp only at hl
              split at hl
              · rename_i lv hlv
                cases hl
                obtain ⟨v', q1, q2⟩ := results_ok hE (f2.tr.mono x3) j2 hlv
                have hmd : md3 = .returning := j3
                exact ⟨ρ3, w3, cs2, _, g2.trans j1, j2, u2, f2.cm.mono x3, hst.trans j4, rfl, rfl, rfl, hmd, v', q1, q2⟩
              · cases hl
            | pan ch =>
              cases hl
              obtain ⟨ps, q1, q2⟩ := j3
              exact ⟨ρ3, w3, cs2, _, g2.trans j1, j2, u2, f2.cm.mono x3, hst.trans j4, rfl, rfl, rfl, ps, q1, q2⟩
          · cases hl
        cases e with
        | nrm => exact fin .ret .returning [] h rfl (en2.trans (.one st_end))
        | ret => obtain ⟨k', y⟩ := en2; exact fin .ret .returning _ h rfl (y.trans (.one st_ret))
        | pan ch => obtain ⟨k', ch', x, _, y⟩ := en2; exact fin (.pan ch) _ k' h ⟨ch', rfl, x⟩ y
        | exit id => cases h
        | goto l => cases h
      · cases h
    · cases h
  · cases h

/-- What is given of calls that are known. -/
structure Given (E : Env) (N : Nat) (ν : Nat → Int) (w0 : World) (cl : Option FuncId) : Prop where
  ctr : ∀ f args hp nx r, E.ctr f args hp nx = some r → CallOK E N ν w0 (.f f) args hp nx r
  clone : ∀ f, cl = some f → ∀ (t : TypeId) (b : Nat) (w : World) (es : Array MapEntry) (clock : Nat), w.heap[b]? = some (.map es clock) →
    (callFunc f #[.iface t (.map (some b))]).run E.P w = .ok (.value (.iface t (.map (some w.heap.size)))) (newW w (.map es clock))

variable {cl : Option FuncId} (hG : Given E N ν w0 cl)
include hG

theorem callA_ok {fn : AFn} {args : List AV} {hp : Tr AObj} {nx : Nat} {r : CR} (h : callA E cl I fn args hp nx = some r) : CallOK E N ν w0 fn args hp nx r := by
  unfold callA at h
  split at h
  · exact yieldA_ok hE hpc hI h
  · rename_i f
    split at h
    · rename_i r' hr
      cases h
      exact hG.ctr f args hp nx _ hr
    · split at h
      · rename_i hcl
        have hcl : cl = some f := by
          unfold isCl at hcl
          split at hcl
          · rename_i g; rw [beq_true hcl]
          · cases hcl
        intro ρ fn' a cap w hfn hcap hargs hh
        have hfn : fn' = .func f := hfn
        subst hfn
        unfold cloneA at h
        split at h
        · rename_i t i _
          split at h
          · rename_i es clock hl
            rw [putP_eq, frc_eq] at h
            cases h
            obtain ⟨v, rr, h1, h2, e⟩ := VRs_cons.1 hargs
            rw [VRs_nil] at h2
            subst h2
            obtain ⟨u, h3, rfl⟩ := VR_iface.1 h1
            obtain ⟨b, ⟨c, hbc⟩, rfl⟩ := VR_map.1 h3
            obtain ⟨ob, k1, fs, rfl, k2, k3⟩ := hh.live i _ b c hl hbc
            have hargsA : a ++ cap = #[.iface t (.map (some b))] := by
              rw [← Array.toArray_toList (xs := a ++ cap), e]
            have hrun : (invoke (.fn (.func f) cap) a).run E.P w = .ok (.value (.iface t (.map (some w.heap.size)))) (newW w (.map fs clock)) := by
              show (callFunc f (a ++ cap)).run E.P w = _
              rw [hargsA]
              exact hG.clone f hcl t b w fs clock k1
            have x := extR_ext hh w.heap.size 0
            refine ⟨_, _, hrun, fun cf cs => ⟨_, rfl, extR ρ nx w.heap.size 0, _, Grow.new hh _ _, hh.new (c := 0) (NewW.new _ _) ⟨fs, rfl, k2, hh.base⟩, _, VR_iface.2 ⟨_, VR_map.2 ⟨w.heap.size, ⟨0, by simp [extR]⟩, rfl⟩, rfl⟩, Steps.refl _ _⟩⟩
          · cases h
        · cases h
      · split at h
        · rename_i co cm' hp' nx' hb
          cases h
          intro ρ fn' a cap w hfn hcap hargs hh
          have hfn : fn' = .func f := hfn
          subst hfn
          obtain ⟨fn, h1, h2, h3, hrest⟩ : ∃ fn, E.P.funcs[f]? = some fn ∧ fn.name ≠ "runtime.NumGoroutine" ∧ fn.body.isNone = false ∧ True := by
            obtain ⟨fn, h1, h2, h3, _⟩ := bodyA_ok hE hpc hI hb (argsV := a ++ cap) (w := w) (kd := .normal) (cs := []) hargs hh rfl
            exact ⟨fn, h1, h2, h3, trivial⟩
          refine ⟨_, w, (run_callFunc h1 h2 h3 : (callFunc f (a ++ cap)).run E.P w = _), fun cf cs => ⟨_, rfl, ?_⟩⟩
          obtain ⟨fn2, q1, q2, q3, ρ', w', cs', fr, g1, g2, g3, g4, g5, g6, g7, g8, g9⟩ := bodyA_ok hE hpc hI hb (argsV := a ++ cap) (w := w) (kd := .normal) (cs := cf :: cs) hargs hh rfl
          have hcs : cs' = cf :: cs := by
            rcases g3 with h | ⟨h, _⟩
            · exact h
            · cases h
          subst hcs
          refine ⟨ρ', w', g1, g2, ?_⟩
          cases co with
          | ret v =>
            obtain ⟨k1, v', k2, k3⟩ := g9
            exact ⟨v', k3, g5.trans (.one (st_leave k1 g8 g7 (by rw [g6]; exact q1) k2))⟩
          | pan ch =>
            obtain ⟨ch', k1, k2⟩ := g9
            exact ⟨ch', k2, g5.trans (.one (st_leave_pan k1 g8 (by rw [g6]; exact q1)))⟩
        · cases h

theorem dcallA_ok {fn : AFn} {args : List AV} {cm : ACM} {hp : Tr AObj} {nx : Nat} {r : DR} (h : dcallA E I fn args cm hp nx = some r) : DCallOK E N ν w0 fn args cm hp nx r := by
  intro ρ fn' a cap w c cs hfn hargs hh hc
  unfold dcallA at h
  split at h
  · rename_i f
    have hfn : fn' = .func f := hfn
    subst hfn
    obtain ⟨fn2, q1, q2, q3, ρ', w', cs', fr, g1, g2, g3, g4, g5, g6, g7, g8, g9⟩ := bodyA_ok hE hpc hI h (argsV := a ++ cap) (w := w) (kd := .deferred) (cs := c :: cs) hargs hh hc
    refine ⟨f, a ++ cap, rfl, run_callFunc q1 q2 q3, ?_⟩
    have hcs : ∃ md, cs' = { c with mode := md } :: cs := by
      rcases g3 with h | ⟨_, c', r', m, e, h⟩
      · exact ⟨c.mode, h⟩
      · cases e; exact ⟨m, h⟩
    obtain ⟨md, rfl⟩ := hcs
    refine ⟨ρ', w', md, g1, g2, g4, ?_⟩
    cases hco : r.co with
    | ret v =>
      rw [hco] at g9
      obtain ⟨k1, v', k2, k3⟩ := g9
      exact g5.trans (.one (st_leave_def k1 g8 g7 (by rw [g6]; exact q1) k2))
    | pan ch =>
      rw [hco] at g9
      obtain ⟨ch', k1, k2⟩ := g9
      exact ⟨ch', k2, g5.trans (.one (st_leave_pan k1 g8 (by rw [g6]; exact q1)))⟩
  · cases h

theorem stepI_ok : IHOK E N ν w0 (stepI E cl I) :=
  ⟨fun fn sz b rnd s ex s' h => loopC_ok hE hpc hI h, fun fn sz b c rnd s ex s' h => scopeC_ok hE hpc hI h, fun fn args hp nx r h => callA_ok hE hpc hI hG h, fun fn args cm hp nx r h => dcallA_ok hE hpc hI hG h⟩

end

/-- THE WHOLE: what is run is right, at every depth. -/
theorem ev_ok {E : Env} {N : Nat} {ν : Nat → Int} {w0 : World} {cl : Option FuncId} (hE : EnvOK E) (hpc : ∀ p ∈ E.pc, PFok ν p) (hG : Given E N ν w0 cl) : ∀ n, IHOK E N ν w0 (ev E cl n)
  | 0 => ⟨fun _ _ _ _ _ _ _ h => (by cases h), fun _ _ _ _ _ _ _ _ h => (by cases h), fun _ _ _ _ _ h => (by cases h), fun _ _ _ _ _ _ h => (by cases h)⟩
  | n + 1 => stepI_ok hE hpc (ev_ok hE hpc hG n) hG

/-- A call, run here: the machine's call comes to it. -/
theorem run_calls {E : Env} {N : Nat} {ν : Nat → Int} {w0 : World} {cl : Option FuncId} (hE : EnvOK E) (hpc : ∀ p ∈ E.pc, PFok ν p) (hG : Given E N ν w0 cl) {n : Nat} {f : FuncId} {args : List AV} {cm : ACM} {hp : Tr AObj} {nx : Nat} {v : AV} {cm' : ACM} {hp' : Tr AObj} {nx' : Nat}
    (h : bodyA E (ev E cl n) f args .no hp nx = some ⟨.ret v, cm', hp', nx'⟩) {ρ : Rho} {argsV : Array Value} {w : World} (ha : VRs ν ρ args argsV.toList) (hh : HR N ν w0 ρ hp nx w) :
    Calls E.P f argsV w fun e w' => match e with
      | .returned v' => ∃ ρ', Grow nx ρ ρ' nx' ∧ HR N ν w0 ρ' hp' nx' w' ∧ VR ν ρ' v v'
      | _ => False := by
  intro cs
  obtain ⟨fn2, q1, q2, q3, ρ', w', cs', fr, g1, g2, g3, g4, g5, g6, g7, g8, k1, v', k2, k3⟩ := bodyA_ok hE hpc (ev_ok hE hpc hG n) h (argsV := argsV) (w := w) (kd := .normal) (cs := cs) ha hh rfl
  have hcs : cs' = cs := by
    rcases g3 with h | ⟨h, _⟩
    · exact h
    · cases h
  subst hcs
  exact ⟨.returned v', w', fr, ⟨ρ', g1, g2, k3⟩, g5, g6, k1, g8, g7, fn2, by rw [g6]; exact q1, k2⟩

end Pk
/- The abstract run is sound: calls that are known by their operands. -/
namespace Pk
open Go Go.RowKit

/-- The numbers as a map of blocks: a shape's number stands for the other one's block. -/
def pull (m : NMap) (ρ : Rho) : Rho := fun i => (lookN i m).bind ρ

def LeN (m M : NMap) : Prop := ∀ i j, lookN i m = some j → lookN i M = some j
theorem LeN.refl (m : NMap) : LeN m m := fun _ _ h => h
theorem LeN.trans {a b c : NMap} (h : LeN a b) (k : LeN b c) : LeN a c := fun i j e => k i j (h i j e)

def InjN (m : NMap) : Prop := ∀ i i' j, lookN i m = some j → lookN i' m = some j → i = i'

theorem lookN_cons (i a b : Nat) (m : NMap) : lookN i ((a, b) :: m) = if a = i then some b else lookN i m := by
  simp only [lookN]
  split
  · rename_i h; rw [if_pos (beq_true h)]
  · rename_i h; rw [if_neg (beq_false h)]

theorem hasN_of {i j : Nat} : ∀ {m : NMap}, lookN i m = some j → hasN j m = true
  | [], h => by cases h
  | (a, b) :: m, h => by
    rw [lookN_cons] at h
    simp only [hasN]
    split
    · rfl
    · rename_i hb
      split at h
      · cases h; exact absurd (Nat.beq_refl j) (by rw [hb]; simp)
      · exact hasN_of h

theorem addN_ok {i j : Nat} {m m' : NMap} (h : addN i j m = some m') : LeN m m' ∧ lookN i m' = some j ∧ (InjN m → InjN m') := by
  unfold addN at h
  split at h
  · rename_i j' hj
    split at h
    · rename_i hb
      cases h
      have := beq_true hb; subst this
      exact ⟨LeN.refl _, hj, id⟩
    · cases h
  · rename_i hn
    split at h
    · cases h
    · rename_i hh
      cases h
      refine ⟨fun a b e => ?_, by rw [lookN_cons, if_pos rfl], fun hi a b c e1 e2 => ?_⟩
      · rw [lookN_cons, if_neg]
        · exact e
        · intro hia; subst hia; rw [hn] at e; cases e
      · rw [lookN_cons] at e1 e2
        split at e1 <;> split at e2
        · rename_i x y; exact x.symm.trans y
        · cases e1; rw [hasN_of e2] at hh; cases hh
        · cases e2; rw [hasN_of e1] at hh; cases hh
        · exact hi a b c e1 e2

theorem ltN_ok {k i j : Nat} : ∀ {m : NMap}, ltN k m = true → lookN i m = some j → i < k
  | [], _, h => by cases h
  | (a, b) :: m, h, e => by
    simp only [ltN] at h
    split at h
    · cases h
    · rename_i hb
      rw [lookN_cons] at e
      split at e
      · rename_i ha; subst ha; exact ble_false hb
      · exact ltN_ok h e

section
variable {ν : Nat → Int} {ρ : Rho}

theorem pull_at {m M : NMap} {i j r : Nat} (h : LeN m M) (e : lookN i m = some j) (k : AtR ρ j r) : AtR (pull M ρ) i r := by
  obtain ⟨c, hc⟩ := k
  exact ⟨c, by simp [pull, h i j e, hc]⟩

mutual
theorem uni_ok : ∀ (a b : AV) (m m' : NMap), uni a b m = some m' → LeN m m' ∧ (InjN m → InjN m') ∧ ∀ M v, LeN m' M → VR ν ρ b v → VR ν (pull M ρ) a v
  | .bool a, b, m, m', h => by
    cases b <;> simp [uni] at h
    rename_i b
    cases a <;> cases b <;> simp at h
    all_goals (subst h; exact ⟨LeN.refl _, id, fun M v _ k => VR_bool.2 (VR_bool.1 k)⟩)
  | .int k n, b, m, m', h => by
    cases b <;> simp [uni] at h
    rename_i k' n'
    split at h
    · rename_i hk
      split at h
      · rename_i hi
        cases h
        rw [ieq_ok] at hi
        rw [kEq_ok hk, eq_of_beq hi]
        exact ⟨LeN.refl _, id, fun M v _ k => VR_int.2 (VR_int.1 k)⟩
      · cases h
    · cases h
  | .sym k n, b, m, m', h => by
    cases b <;> simp only [uni] at h
    case sym k' n' =>
      split at h
      · rename_i hk
        split at h
        · rename_i hi
          cases h
          rw [kEq_ok hk, beq_true hi]
          exact ⟨LeN.refl _, id, fun M v _ k => VR_sym.2 (VR_sym.1 k)⟩
        · cases h
      · cases h
    all_goals cases h
  | .str n v, b, m, m', h => by
    cases b <;> simp [uni] at h
    rename_i n' v'
    split at h
    · rename_i hs
      cases h
      unfold strEq at hs
      split at hs
      · rename_i hn
        rw [beq_true hn, beq_true hs]
        exact ⟨LeN.refl _, id, fun M v _ k => VR_str.2 (VR_str.1 k)⟩
      · cases hs
    · cases h
  | .nptr, b, m, m', h => by
    cases b <;> simp [uni] at h
    subst h; exact ⟨LeN.refl _, id, fun M v _ k => VR_nptr.2 (VR_nptr.1 k)⟩
  | .ptr i a, b, m, m', h => by
    cases b <;> simp only [uni] at h
    case ptr j b =>
      split at h
      · rename_i ha
        have ha := beq_true ha
        subst ha
        obtain ⟨h1, h2, h3⟩ := addN_ok h
        refine ⟨h1, h3, fun M v hM k => ?_⟩
        obtain ⟨r, k1, rfl⟩ := VR_ptr.1 k
        exact VR_ptr.2 ⟨r, pull_at hM h2 k1, rfl⟩
      · cases h
    all_goals cases h
  | .nslice, b, m, m', h => by
    cases b <;> simp [uni] at h
    subst h; exact ⟨LeN.refl _, id, fun M v _ k => VR_nslice.2 (VR_nslice.1 k)⟩
  | .slice i a l c x, b, m, m', h => by
    cases b <;> simp only [uni] at h
    case slice j a' l' c' y =>
      split at h
      · rename_i e1 e2 e3 e4
        have e1 := beq_true e1
        have e2 := beq_true e2
        have e3 := beq_true e3
        have e4 : x = y := by cases x <;> cases y <;> simp_all
        subst e1; subst e2; subst e3; subst e4
        obtain ⟨h1, h2, h3⟩ := addN_ok h
        refine ⟨h1, h3, fun M v hM k => ?_⟩
        obtain ⟨r, c0, o0, cp0, k1, k2, rfl⟩ := VR_slice.1 k
        exact VR_slice.2 ⟨r, c0, o0, cp0, by simp [pull, hM _ _ h2, k1], k2, rfl⟩
      · cases h
    all_goals cases h
  | .nmap, b, m, m', h => by
    cases b <;> simp [uni] at h
    subst h; exact ⟨LeN.refl _, id, fun M v _ k => VR_nmap.2 (VR_nmap.1 k)⟩
  | .map i, b, m, m', h => by cases b <;> simp [uni] at h
  | .func fn a c, b, m, m', h => by
    cases fn with
    | yield i => cases b <;> (simp [uni] at h)
    | f f =>
      cases b
      case func gn a' c' =>
        cases gn with
        | yield i => simp [uni] at h
        | f g =>
          simp only [uni] at h
          split at h
          · rename_i hf
            have hf := beq_true hf
            subst hf
            split at h
            · rename_i m1 h1
              obtain ⟨j1, j2, j3⟩ := unis_ok a a' m m1 h1
              obtain ⟨l1, l2, l3⟩ := unis_ok c c' m1 m' h
              refine ⟨j1.trans l1, fun hi => l2 (j2 hi), fun M v hM k => ?_⟩
              obtain ⟨fn', x, y, k1, k2, k3, rfl⟩ := VR_func.1 k
              exact VR_func.2 ⟨fn', x, y, k1, j3 M x (l1.trans hM) k2, l3 M y hM k3, rfl⟩
            · cases h
          · cases h
      all_goals (simp [uni] at h)
  | .nfunc, b, m, m', h => by
    cases b <;> simp [uni] at h
    subst h; exact ⟨LeN.refl _, id, fun M v _ k => VR_nfunc.2 (VR_nfunc.1 k)⟩
  | .iface t x, b, m, m', h => by
    cases b <;> simp only [uni] at h
    case iface u y =>
      split at h
      · rename_i ht
        have ht := beq_true ht
        subst ht
        obtain ⟨j1, j2, j3⟩ := uni_ok x y m m' h
        refine ⟨j1, j2, fun M v hM k => ?_⟩
        obtain ⟨z, k1, rfl⟩ := VR_iface.1 k
        exact VR_iface.2 ⟨z, j3 M z hM k1, rfl⟩
      · cases h
    all_goals cases h
  | .niface, b, m, m', h => by
    cases b <;> simp [uni] at h
    subst h; exact ⟨LeN.refl _, id, fun M v _ k => VR_niface.2 (VR_niface.1 k)⟩
  | .agg l, b, m, m', h => by
    cases b <;> simp only [uni] at h
    case agg l' =>
      obtain ⟨j1, j2, j3⟩ := unis_ok l l' m m' h
      refine ⟨j1, j2, fun M v hM k => ?_⟩
      obtain ⟨cs, k1, k2, rfl⟩ := VR_agg.1 k
      exact VR_agg.2 ⟨cs, j3 M cs hM k1, k2, rfl⟩
    all_goals cases h
  | .tup l, b, m, m', h => by
    cases b <;> simp only [uni] at h
    case tup l' =>
      obtain ⟨j1, j2, j3⟩ := unis_ok l l' m m' h
      refine ⟨j1, j2, fun M v hM k => ?_⟩
      obtain ⟨cs, k1, rfl⟩ := VR_tup.1 k
      exact VR_tup.2 ⟨cs, j3 M cs hM k1, rfl⟩
    all_goals cases h
  | .any, b, m, m', h => by cases b <;> simp [uni] at h
theorem unis_ok : ∀ (l l' : List AV) (m m' : NMap), unis l l' m = some m' → LeN m m' ∧ (InjN m → InjN m') ∧ ∀ M vs, LeN m' M → VRs ν ρ l' vs → VRs ν (pull M ρ) l vs
  | [], l', m, m', h => by
    cases l' <;> simp [unis] at h
    subst h; exact ⟨LeN.refl _, id, fun M vs _ k => VRs_nil.2 (VRs_nil.1 k)⟩
  | a :: l, l', m, m', h => by
    cases l' with
    | nil => simp [unis] at h
    | cons b l' =>
      simp only [unis] at h
      split at h
      · rename_i m1 h1
        obtain ⟨j1, j2, j3⟩ := uni_ok a b m m1 h1
        obtain ⟨l1, l2, l3⟩ := unis_ok l l' m1 m' h
        refine ⟨j1.trans l1, fun hi => l2 (j2 hi), fun M vs hM k => ?_⟩
        obtain ⟨v, r, k1, k2, rfl⟩ := VRs_cons.1 k
        exact VRs_cons.2 ⟨v, r, j3 M v (l1.trans hM) k1, l3 M r hM k2, rfl⟩
      · cases h
end

theorem unis_length : ∀ (l l' : List AV) (m m' : NMap), unis l l' m = some m' → l.length = l'.length
  | [], l', m, m', h => by cases l' <;> simp [unis] at h; rfl
  | a :: l, l', m, m', h => by
    cases l' with
    | nil => simp [unis] at h
    | cons b l' =>
      simp only [unis] at h
      split at h
      · simp [unis_length l l' _ _ h]
      · cases h

theorem unis_VRp {l l' : List AV} {m m' M : NMap} (h : unis l l' m = some m') (hM : LeN m' M) {vs : List Value} (k : VRp ν ρ l' vs) : VRp ν (pull M ρ) l vs := by
  have hl := unis_length _ _ _ _ h
  obtain ⟨_, _, j3⟩ := unis_ok (ν := ν) (ρ := ρ) l l' m m' h
  obtain ⟨k1, k2, k3⟩ := k
  exact ⟨by rw [hl]; exact k1, by rw [hl]; exact j3 M _ hM k2, by rw [hl]; exact k3⟩

mutual
theorem ren_ok {m : NMap} {ρ' : Rho} (hm : ∀ i j x, lookN i m = some j → ρ i = some x → ρ' j = some x) : ∀ (a a' : AV) (v : Value), ren m a = some a' → VR ν ρ a v → VR ν ρ' a' v
  | .bool a, a', v, h, k => by cases h; exact VR_bool.2 (VR_bool.1 k)
  | .int a b, a', v, h, k => by cases h; exact VR_int.2 (VR_int.1 k)
  | .sym a b, a', v, h, k => by cases h; exact VR_sym.2 (VR_sym.1 k)
  | .str a b, a', v, h, k => by cases h; exact VR_str.2 (VR_str.1 k)
  | .nptr, a', v, h, k => by cases h; exact VR_nptr.2 (VR_nptr.1 k)
  | .ptr i a, a', v, h, k => by
    simp only [ren] at h
    split at h
    · rename_i j hj
      cases h
      obtain ⟨r, ⟨c, k1⟩, rfl⟩ := VR_ptr.1 k
      exact VR_ptr.2 ⟨r, ⟨c, hm i j _ hj k1⟩, rfl⟩
    · cases h
  | .nslice, a', v, h, k => by cases h; exact VR_nslice.2 (VR_nslice.1 k)
  | .slice i a b c x, a', v, h, k => by
    simp only [ren] at h
    split at h
    · rename_i j hj
      cases h
      obtain ⟨r, c0, o0, cp0, k1, k2, rfl⟩ := VR_slice.1 k
      exact VR_slice.2 ⟨r, c0, o0, cp0, hm i j _ hj k1, k2, rfl⟩
    · cases h
  | .nmap, a', v, h, k => by cases h; exact VR_nmap.2 (VR_nmap.1 k)
  | .map i, a', v, h, k => by cases h
  | .func (.f f) a b, a', v, h, k => by
    simp only [ren] at h
    split at h
    · rename_i a1 h1
      split at h
      · rename_i b1 h2
        cases h
        obtain ⟨fn', x, y, k1, k2, k3, rfl⟩ := VR_func.1 k
        exact VR_func.2 ⟨fn', x, y, k1, rens_ok hm a a1 x h1 k2, rens_ok hm b b1 y h2 k3, rfl⟩
      · cases h
    · cases h
  | .func (.yield l) a b, a', v, h, k => by cases h
  | .nfunc, a', v, h, k => by cases h; exact VR_nfunc.2 (VR_nfunc.1 k)
  | .iface t x, a', v, h, k => by
    simp only [ren] at h
    split at h
    · rename_i x1 h1
      cases h
      obtain ⟨z, k1, rfl⟩ := VR_iface.1 k
      exact VR_iface.2 ⟨z, ren_ok hm x x1 z h1 k1, rfl⟩
    · cases h
  | .niface, a', v, h, k => by cases h; exact VR_niface.2 (VR_niface.1 k)
  | .agg l, a', v, h, k => by
    simp only [ren] at h
    split at h
    · rename_i l1 h1
      cases h
      obtain ⟨cs, k1, k2, rfl⟩ := VR_agg.1 k
      exact VR_agg.2 ⟨cs, rens_ok hm l l1 cs h1 k1, k2, rfl⟩
    · cases h
  | .tup l, a', v, h, k => by
    simp only [ren] at h
    split at h
    · rename_i l1 h1
      cases h
      obtain ⟨cs, k1, rfl⟩ := VR_tup.1 k
      exact VR_tup.2 ⟨cs, rens_ok hm l l1 cs h1 k1, rfl⟩
    · cases h
  | .any, a', v, h, k => by cases h
theorem rens_ok {m : NMap} {ρ' : Rho} (hm : ∀ i j x, lookN i m = some j → ρ i = some x → ρ' j = some x) : ∀ (l l' : List AV) (vs : List Value), rens m l = some l' → VRs ν ρ l vs → VRs ν ρ' l' vs
  | [], l', vs, h, k => by cases h; exact VRs_nil.2 (VRs_nil.1 k)
  | a :: l, l', vs, h, k => by
    simp only [rens] at h
    split at h
    · rename_i a1 h1
      split at h
      · rename_i l1 h2
        cases h
        obtain ⟨v, r, k1, k2, rfl⟩ := VRs_cons.1 k
        exact VRs_cons.2 ⟨v, r, ren_ok hm a a1 v h1 k1, rens_ok hm l l1 r h2 k2, rfl⟩
      · cases h
    · cases h
end

theorem rens_length {m : NMap} : ∀ (l l' : List AV), rens m l = some l' → l'.length = l.length
  | [], l', h => by cases h; rfl
  | a :: l, l', h => by
    simp only [rens] at h
    split at h
    · split at h
      · rename_i l1 h2
        cases h
        simp [rens_length l l1 h2]
      · cases h
    · cases h

theorem rens_VRp {m : NMap} {ρ' : Rho} (hm : ∀ i j x, lookN i m = some j → ρ i = some x → ρ' j = some x) {l l' : List AV} (h : rens m l = some l') {vs : List Value} (k : VRp ν ρ l vs) : VRp ν ρ' l' vs := by
  have hl := rens_length l l' h
  obtain ⟨k1, k2, k3⟩ := k
  exact ⟨by rw [hl]; exact k1, by rw [hl]; exact rens_ok hm l l' _ h k2, by rw [hl]; exact k3⟩

end

theorem build_at {α : Type} : ∀ (l : List α) (i : Nat) (t : Tr α) (j : Nat), getP (path j) (build l i t) = if i ≤ j ∧ j < i + l.length then l[j - i]? else getP (path j) t
  | [], i, t, j => by simp [build]; intro h1 h2; omega
  | a :: l, i, t, j => by
    simp only [build, putP_eq]
    rw [build_at l (i + 1) _ j, get_putN]
    by_cases h1 : i + 1 ≤ j ∧ j < i + 1 + l.length
    · rw [if_pos h1, if_pos (by simp; omega)]
      have : j - i = (j - (i + 1)) + 1 := by omega
      rw [this]; simp
    · rw [if_neg h1]
      by_cases h2 : j = i
      · subst h2; simp
      · rw [if_neg h2, if_neg (by simp; omega)]

theorem runN_ok : ∀ (n i j : Nat) (m : NMap) (a : Nat), lookN a (runN' n i j m) = if i ≤ a ∧ a < i + n then some (j + (a - i)) else lookN a m
  | 0, i, j, m, a => by simp [runN']; intro h1 h2; omega
  | n + 1, i, j, m, a => by
    simp only [runN']
    rw [runN_ok n (i + 1) (j + 1) _ a, lookN_cons]
    by_cases h1 : i + 1 ≤ a ∧ a < i + 1 + n
    · rw [if_pos h1, if_pos (by omega)]; congr 1; omega
    · rw [if_neg h1]
      by_cases h2 : i = a
      · subst h2; simp
      · rw [if_neg h2, if_neg (by omega)]

theorem uniIns_ok {hp : Tr AObj} : ∀ (os : List AObj) (i : Nat) (m m' : NMap), uniIns os i hp m = some m' → LeN m m' ∧ (InjN m → InjN m') ∧
    ∀ (t : Nat) (o : AObj), os[t]? = some o → ∃ j l e l' w g m1 m2, lookN (i + t) m' = some j ∧ o = .cells l e false 0 ∧ getP (path j) hp = some (.cells l' e w g) ∧ unis l l' m1 = some m2 ∧ LeN m2 m'
  | [], i, m, m', h => by cases h; exact ⟨LeN.refl _, id, fun t o e => by simp at e⟩
  | o :: os, i, m, m', h => by
    simp only [uniIns] at h
    split at h
    · rename_i j hj
      split at h
      · rename_i l e
        split at h
        · rename_i l' e' w g hl
          split at h
          · rename_i he
            have he := beq_true he
            subst he
            split at h
            · rename_i m1 h1
              obtain ⟨a1, a2, _⟩ := unis_ok (ν := fun _ => 0) (ρ := fun _ => none) l l' m m1 h1
              obtain ⟨b1, b2, b3⟩ := uniIns_ok os (i + 1) m1 m' h
              refine ⟨a1.trans b1, fun hi => b2 (a2 hi), fun t o' et => ?_⟩
              cases t with
              | zero =>
                simp at et; subst et
                exact ⟨j, l, e, l', w, g, m, m1, b1 _ _ (a1 _ _ hj), rfl, hl, h1, b1⟩
              | succ t =>
                simp at et
                have := b3 t o' et
                rwa [show i + 1 + t = i + (t + 1) by omega] at this
            · cases h
          · cases h
        · cases h
      · cases h
    · cases h

theorem uniOuts_ok {hp : Tr AObj} : ∀ (os : List AObj) (i : Nat) (m m' : NMap), uniOuts os i hp m = some m' → LeN m m' ∧ (InjN m → InjN m') ∧
    ∀ (t : Nat) (o : AObj), os[t]? = some o → ∃ j l e l' g m1 m2, lookN (i + t) m' = some j ∧ o = .cells l e true g ∧ getP (path j) hp = some (.cells l' e true g) ∧ unis l l' m1 = some m2 ∧ LeN m2 m'
  | [], i, m, m', h => by cases h; exact ⟨LeN.refl _, id, fun t o e => by simp at e⟩
  | o :: os, i, m, m', h => by
    simp only [uniOuts] at h
    split at h
    · rename_i j hj
      split at h
      · rename_i l e g
        split at h
        · rename_i l' e' g' hl
          split at h
          · rename_i he hg
            have he := beq_true he
            have hg := beq_true hg
            subst he; subst hg
            split at h
            · rename_i m1 h1
              obtain ⟨a1, a2, _⟩ := unis_ok (ν := fun _ => 0) (ρ := fun _ => none) l l' m m1 h1
              obtain ⟨b1, b2, b3⟩ := uniOuts_ok os (i + 1) m1 m' h
              refine ⟨a1.trans b1, fun hi => b2 (a2 hi), fun t o' et => ?_⟩
              cases t with
              | zero =>
                simp at et; subst et
                exact ⟨j, l, e, l', g, m, m1, b1 _ _ (a1 _ _ hj), rfl, hl, h1, b1⟩
              | succ t =>
                simp at et
                have := b3 t o' et
                rwa [show i + 1 + t = i + (t + 1) by omega] at this
            · cases h
          · cases h
        · cases h
      · cases h
    · cases h

theorem renBs_ok {m : NMap} : ∀ (os bs : List AObj), renBs m os = some bs → bs.length = os.length ∧ ∀ (t : Nat) (o : AObj), os[t]? = some o → ∃ l e g l', o = .cells l e true g ∧ rens m l = some l' ∧ bs[t]? = some (.cells l' e true g)
  | [], bs, h => by cases h; exact ⟨rfl, fun t o e => by simp at e⟩
  | o :: os, bs, h => by
    simp only [renBs] at h
    split at h
    · rename_i l e g
      split at h
      · rename_i l' hl
        split at h
        · rename_i r hr
          cases h
          obtain ⟨a1, a2⟩ := renBs_ok os r hr
          refine ⟨by simp [a1], fun t o' et => ?_⟩
          cases t with
          | zero => simp at et; subst et; exact ⟨l, e, g, l', rfl, hl, rfl⟩
          | succ t => simp at et; simpa using a2 t o' et
        · cases h
      · cases h
    · cases h

/-- An environment that stands by itself. -/
structure Sound (E : Env) (cl : Option FuncId) : Prop where
  env : EnvOK E
  pc : E.pc = []
  given : ∀ N ν w0, Given E N ν w0 cl

section
variable {E : Env} {cl : Option FuncId} {N : Nat} {ν : Nat → Int} {w0 : World}

/-- A KNOWN CALL: what a run of it in a small memory told holds in every memory. -/
theorem memo_ok (hS : Sound E cl) {n : Nat} {M : Memo} (hrun : memoRun E cl n M = true) {args : List AV} {hp : Tr AObj} {nx : Nat} {r : CR} (h : memoAt M args hp nx = some r) :
    CallOK E N ν w0 (.f M.f) args hp nx r := by
  have hpc : ∀ p ∈ E.pc, PFok ν p := by rw [hS.pc]; intro p hp; cases hp
  intro ρ fn' a cap w hfn _ hargs hh
  have hfn : fn' = .func M.f := hfn
  subst hfn
  -- the run
  unfold memoRun at hrun
  split at hrun
  case h_2 => cases hrun
  rename_i hk
  have hk := beq_true hk
  split at hrun
  case h_2 => cases hrun
  rename_i v0 cm0 hp1 nx1 hbody
  split at hrun
  case h_2 => cases hrun
  rename_i m1 hu1
  split at hrun
  case h_2 => cases hrun
  rename_i m2 hu2
  -- the operands
  unfold memoAt at h
  split at h
  case h_2 => cases h
  rename_i ma hma
  split at h
  case h_2 => cases h
  rename_i m hm
  split at h
  case h_2 => cases h
  rename_i hlt
  split at h
  case h_2 => cases h
  rename_i v hv
  split at h
  case h_2 => cases h
  rename_i bs hbs
  dsimp only at h
  rw [lenK_eq] at h
  cases h
  obtain ⟨a1, a2, a3⟩ := unis_ok (ν := ν) (ρ := ρ) _ _ _ _ hma
  obtain ⟨b1, b2, b3⟩ := uniIns_ok _ _ _ _ hm
  have hinj : InjN m := b2 (a2 fun i i' j e _ => by cases e)
  have hbuild : ∀ j, getP (path j) (build M.ins 0 .nil) = if j < M.k then M.ins[j]? else none := fun j => by
    rw [build_at, getP_nil, hk, Nat.zero_add]; simp
  have hpl : ∀ i x, pull m ρ i = some x → ∃ j, lookN i m = some j ∧ ρ j = some x := by
    intro i x e
    unfold pull at e
    cases hl : lookN i m with
    | none => rw [hl] at e; cases e
    | some j => rw [hl] at e; exact ⟨j, rfl, e⟩
  have hh0 : HR w.heap.size ν w (pull m ρ) (build M.ins 0 .nil) M.k w := by
    refine ⟨?_, ?_, ?_, ?_, Below.refl _ _, Nat.le_refl _⟩
    · intro id o r c h1 h2
      rw [hbuild] at h1
      split at h1
      · obtain ⟨j, l, e, l', wr, g, x1, x2, e1, rfl, e2, e3, e4⟩ := b3 id o h1
        rw [Nat.zero_add] at e1
        obtain ⟨j', e5, e6⟩ := hpl id _ h2
        rw [e1] at e5; cases e5
        obtain ⟨ob, k1, cs, fz, rfl, k2, _⟩ := hh.live j _ r c e2 e6
        exact ⟨_, k1, cs, fz, rfl, unis_VRp e3 e4 k2, fun h => (by cases h), fun h => absurd h (Nat.lt_irrefl 0)⟩
      · cases h1
    · intro id r c h2
      obtain ⟨j, _, e⟩ := hpl id _ h2
      exact hh.lt j r c e
    · intro i i' o o' r c c' h1 h2 h3 h4
      rw [hbuild] at h1 h2
      split at h1
      · split at h2
        · obtain ⟨j, l, e, l', wr, g, x1, x2, e1, _, e2, _⟩ := b3 i o h1
          obtain ⟨j', l2, e', l2', wr', g', x1', x2', e1', _, e2', _⟩ := b3 i' o' h2
          rw [Nat.zero_add] at e1 e1'
          obtain ⟨k1, p1, q1⟩ := hpl i _ h3
          obtain ⟨k2, p2, q2⟩ := hpl i' _ h4
          rw [e1] at p1; cases p1
          rw [e1'] at p2; cases p2
          have := hh.inj j j' _ _ r c c' e2 e2' q1 q2
          subst this
          exact hinj i i' j e1 e1'
        · cases h2
      · cases h1
    · intro i hi
      unfold pull
      cases hl : lookN i m with
      | none => rfl
      | some j => have := ltN_ok hlt hl; omega
  have hargs0 : VRs ν (pull m ρ) M.args (a ++ cap).toList := a3 m _ b1 hargs
  have hI := ev_ok (N := w.heap.size) (ν := ν) (w0 := w) hS.env hpc (hS.given _ _ _) n
  obtain ⟨fn, f1, f2, f3, _⟩ := bodyA_ok (ν := ν) hS.env hpc hI hbody (argsV := a ++ cap) (w := w) (kd := .normal) (cs := []) hargs0 hh0 rfl
  refine ⟨_, w, (run_callFunc f1 f2 f3 : (callFunc M.f (a ++ cap)).run E.P w = _), fun cf cs => ⟨_, rfl, ?_⟩⟩
  obtain ⟨fn2, q1, q2, q3, ρ1, w', cs', fr, g1, g2, g3, g4, g5, g6, g7, g8, k1, v', k2, k3⟩ := bodyA_ok (ν := ν) hS.env hpc hI hbody (argsV := a ++ cap) (w := w) (kd := .normal) (cs := cf :: cs) hargs0 hh0 rfl
  have hcs : cs' = cf :: cs := by
    rcases g3 with h | ⟨h, _⟩
    · exact h
    · cases h
  subst hcs
  simp only at g1 g2
  -- what goes out
  obtain ⟨c1, c2, c3⟩ := uni_ok (ν := ν) (ρ := ρ1) _ _ _ _ hu1
  obtain ⟨d1, d2, d3⟩ := uniOuts_ok _ _ _ _ hu2
  have hid : ∀ i, lookN i (runN' M.k 0 0 []) = if i < M.k then some i else none := fun i => by
    rw [runN_ok]; simp [lookN]
  have hinj2 : InjN m2 := d2 (c2 fun i i' j e1 e2 => by
    rw [hid] at e1 e2
    split at e1 <;> split at e2 <;> simp_all)
  have hid2 : ∀ i, i < M.k → lookN i m2 = some i := fun i hi => d1 _ _ (c1 _ _ (by rw [hid, if_pos hi]))
  obtain ⟨r1, r2⟩ := renBs_ok _ _ hbs
  -- the new map of blocks
  let ρ' : Rho := fun i => if nx ≤ i ∧ i < nx + M.outs.length then pull m2 ρ1 (M.k + (i - nx)) else ρ i
  have hρold : ∀ i, i < nx → ρ' i = ρ i := fun i hi => by simp only [ρ']; rw [if_neg (by omega)]
  have hx : Ext ρ ρ' := fun i x e => by
    rcases Nat.lt_or_ge i nx with h | h
    · rw [hρold i h]; exact e
    · rw [hh.fresh i h] at e; cases e
  have hρnew : ∀ t, t < M.outs.length → ρ' (nx + t) = pull m2 ρ1 (M.k + t) := fun t ht => by
    simp only [ρ']; rw [if_pos (by omega)]; congr 1; omega
  have hren : ∀ i j x, lookN i (runN' M.outs.length M.k nx m) = some j → pull m2 ρ1 i = some x → ρ' j = some x := by
    intro i j x e1 e2
    rw [runN_ok] at e1
    split at e1
    · rename_i hi
      cases e1
      rw [hρnew _ (by omega), show M.k + (i - M.k) = i by omega]
      exact e2
    · have hik := ltN_ok hlt e1
      unfold pull at e2
      rw [hid2 i hik] at e2
      have e2 : ρ1 i = some x := e2
      rw [g1.old i hik] at e2
      obtain ⟨j', p1, p2⟩ := hpl i x e2
      rw [e1] at p1; cases p1
      exact hx j x p2
  have hvv : VR ν ρ' v v' := ren_ok hren _ _ _ hv (c3 m2 v' d1 k3)
  have hbl : ∀ id o, getP (path id) (build bs nx hp) = some o → (∃ t l' e g l0, id = nx + t ∧ t < M.outs.length ∧ o = .cells l' e true g ∧ rens (runN' M.outs.length M.k nx m) l0 = some l' ∧
      M.outs[t]? = some (.cells l0 e true g)) ∨ (¬(nx ≤ id ∧ id < nx + M.outs.length) ∧ getP (path id) hp = some o) := by
    intro id o h1
    rw [build_at, r1] at h1
    split at h1
    · rename_i hi
      have ht : id - nx < M.outs.length := by omega
      obtain ⟨l, e, g, l', e1, e2, e3⟩ := r2 (id - nx) _ (List.getElem?_eq_getElem ht)
      rw [e3] at h1; cases h1
      exact .inl ⟨id - nx, l', e, g, l, by omega, ht, rfl, e2, by rw [← e1]; exact List.getElem?_eq_getElem ht⟩
    · rename_i hi; exact .inr ⟨hi, h1⟩
  have hnewAt : ∀ t r c, t < M.outs.length → ρ' (nx + t) = some (r, c) → ∃ j, lookN (M.k + t) m2 = some j ∧ ρ1 j = some (r, c) := by
    intro t r c ht e
    rw [hρnew t ht] at e
    unfold pull at e
    cases hl : lookN (M.k + t) m2 with
    | none => rw [hl] at e; cases e
    | some j => rw [hl] at e; exact ⟨j, rfl, e⟩
  have hnewR : ∀ t r c, t < M.outs.length → ρ' (nx + t) = some (r, c) → w.heap.size ≤ r := by
    intro t r c ht e
    obtain ⟨j, e1, e2⟩ := hnewAt t r c ht e
    obtain ⟨j', l, e0, l', g, x1, x2, p1, p2, p3, _⟩ := d3 t _ (List.getElem?_eq_getElem ht)
    rw [e1] at p1; cases p1
    obtain ⟨ob, _, cs0, fz, rfl, _, y2, _⟩ := g2.live j _ r c p3 e2
    exact (y2 rfl).1
  have holdB : ∀ r, r < w.heap.size → w'.heap[r]? = w.heap[r]? := fun r hr => g2.below.block r hr
  refine ⟨ρ', w', ⟨hρold, Nat.le_add_right _ _⟩, ?_, v', hvv, g5.trans (.one (st_leave k1 g8 g7 (by rw [g6]; exact q1) k2))⟩
  refine ⟨?_, ?_, ?_, ?_, ?_, ?_⟩
  · intro id o r c h1 h2
    rcases hbl id o h1 with ⟨t, l', e, g, l0, rfl, ht, rfl, e2, e3⟩ | ⟨hi, h1'⟩
    · obtain ⟨j, p1, p2⟩ := hnewAt t r c ht h2
      obtain ⟨j', l, e0, l'', g', x1, x2, y1, y2, y3, y4, y5⟩ := d3 t _ e3
      rw [p1] at y1; cases y1
      cases y2
      obtain ⟨ob, z1, cs0, fz, rfl, z2, z3, z4⟩ := g2.live j _ r c y3 p2
      refine ⟨_, z1, cs0, fz, rfl, rens_VRp hren e2 (unis_VRp y4 y5 z2), fun _ => ⟨Nat.le_trans hh.base (z3 rfl).1, ?_⟩, z4⟩
      have e5 := rens_length _ _ e2
      have e6 := unis_length _ _ _ _ y4
      rw [e5, e6]
      exact (z3 rfl).2
    · have h2' : ρ id = some (r, c) := by simp only [ρ'] at h2; rwa [if_neg hi] at h2
      obtain ⟨ob, z1, z2⟩ := hh.live id o r c h1' h2'
      exact ⟨ob, by rw [holdB r (hh.lt id r c h2')]; exact z1, z2.mono hx⟩
  · intro id r c h2
    by_cases hi : nx ≤ id ∧ id < nx + M.outs.length
    · obtain ⟨j, _, p2⟩ := hnewAt (id - nx) r c (by omega) (by rw [show nx + (id - nx) = id by omega]; exact h2)
      exact g2.lt j r c p2
    · have h2' : ρ id = some (r, c) := by simp only [ρ'] at h2; rwa [if_neg hi] at h2
      have := hh.lt id r c h2'
      have := g2.below.size
      omega
  · intro i j o o' r c c' h1 h2 h3 h4
    rcases hbl i o h1 with ⟨t, l1, e1, g1', l01, rfl, ht, rfl, x2, x3⟩ | ⟨hi, h1'⟩ <;> rcases hbl j o' h2 with ⟨u, l2, e2, g2', l02, rfl, hu, rfl, y2, y3⟩ | ⟨hj, h2'⟩
    · obtain ⟨a, p1, p2⟩ := hnewAt t r c ht h3
      obtain ⟨b, p3, p4⟩ := hnewAt u r c' hu h4
      obtain ⟨a', _, _, la, ga, _, _, z1, _, z3, _⟩ := d3 t _ x3
      obtain ⟨b', _, _, lb, gb, _, _, z1', _, z3', _⟩ := d3 u _ y3
      rw [p1] at z1; cases z1
      rw [p3] at z1'; cases z1'
      have := g2.inj a b _ _ r c c' z3 z3' p2 p4
      subst this
      have := hinj2 _ _ _ p1 p3
      omega
    · have := hnewR t r c ht h3
      have h4' : ρ j = some (r, c') := by simp only [ρ'] at h4; rwa [if_neg hj] at h4
      have := hh.lt j r c' h4'
      omega
    · have := hnewR u r c' hu h4
      have h3' : ρ i = some (r, c) := by simp only [ρ'] at h3; rwa [if_neg hi] at h3
      have := hh.lt i r c h3'
      omega
    · have h3' : ρ i = some (r, c) := by simp only [ρ'] at h3; rwa [if_neg hi] at h3
      have h4' : ρ j = some (r, c') := by simp only [ρ'] at h4; rwa [if_neg hj] at h4
      exact hh.inj i j o o' r c c' h1' h2' h3' h4'
  · intro i hi
    simp only [ρ']
    rw [r1] at hi
    dsimp only at hi
    rw [if_neg (by omega)]
    exact hh.fresh i (by omega)
  · exact hh.below.trans (g2.below.mono hh.base)
  · have := hh.base
    have := g2.below.size
    omega

theorem memoL_ok (hS : Sound E cl) : ∀ (l : List Memo), (∀ M ∈ l, ∃ E' n, E'.P = E.P ∧ Sound E' cl ∧ memoRun E' cl n M = true) → ∀ {f : FuncId} {args : List AV} {hp : Tr AObj} {nx : Nat} {r : CR}, memoL l f args hp nx = some r → CallOK E N ν w0 (.f f) args hp nx r
  | [], _, _, _, _, _, _, h => by cases h
  | M :: l, hl, f, args, hp, nx, r, h => by
    simp only [memoL] at h
    split at h
    · rename_i hf
      have hf := beq_true hf
      subst hf
      split at h
      · rename_i r' hr
        cases h
        obtain ⟨E', n, hP, hS', hrun⟩ := hl M (List.mem_cons_self ..)
        have := memo_ok (N := N) (ν := ν) (w0 := w0) hS' hrun hr
        unfold CallOK at this ⊢
        rw [← hP]; exact this
      · exact memoL_ok hS l (fun M hM => hl M (List.mem_cons_of_mem _ hM)) h
    · exact memoL_ok hS l (fun M hM => hl M (List.mem_cons_of_mem _ hM)) h

end
end Pk
/- The abstract run is sound: environments out of known calls. -/
namespace Pk
open Go Go.RowKit

/-- Known calls, by function. -/
abbrev MTab := List (FuncId × List Memo)

noncomputable section
def lookT (f : FuncId) : MTab → Option (List Memo)
  | [] => none
  | p :: l => match Nat.beq p.1 f with
    | true => some p.2
    | false => lookT f l
def memosF : List Memo → List AV → Tr AObj → Nat → Option CR
  | [], _, _, _ => none
  | M :: l, args, hp, nx => match memoAt M args hp nx with
    | some r => some r
    | none => memosF l args hp nx
def ctrT (T : MTab) (f : FuncId) (args : List AV) (hp : Tr AObj) (nx : Nat) : Option CR := match lookT f T with
  | some l => memosF l args hp nx
  | none => none
end

/-- One known call is right. -/
def MOK (P : Program) (cl : Option FuncId) (M : Memo) : Prop := ∃ E n, E.P = P ∧ Sound E cl ∧ memoRun E cl n M = true

def GoodL (P : Program) (cl : Option FuncId) (f : FuncId) : List Memo → Prop
  | [] => True
  | M :: l => (M.f = f ∧ MOK P cl M) ∧ GoodL P cl f l
def GoodT (P : Program) (cl : Option FuncId) : MTab → Prop
  | [] => True
  | p :: T => GoodL P cl p.1 p.2 ∧ GoodT P cl T

theorem GoodT.look {P : Program} {cl : Option FuncId} {f : FuncId} {l : List Memo} : ∀ {T : MTab}, GoodT P cl T → lookT f T = some l → GoodL P cl f l
  | [], _, h => by cases h
  | p :: T, hg, h => by
    simp only [lookT] at h
    split at h
    · rename_i hb
      cases h
      rw [← beq_true hb]; exact hg.1
    · exact GoodT.look hg.2 h

section
variable {E : Env} {cl : Option FuncId} {N : Nat} {ν : Nat → Int} {w0 : World}

theorem memosF_ok : ∀ {l : List Memo} {f : FuncId} {args : List AV} {hp : Tr AObj} {nx : Nat} {r : CR}, GoodL E.P cl f l → memosF l args hp nx = some r → CallOK E N ν w0 (.f f) args hp nx r
  | [], _, _, _, _, _, _, h => by cases h
  | M :: l, f, args, hp, nx, r, hg, h => by
    simp only [memosF] at h
    obtain ⟨⟨hf, E', n, hP, hS, hrun⟩, hl⟩ := hg
    split at h
    · rename_i r' hr
      cases h
      have := memo_ok (N := N) (ν := ν) (w0 := w0) hS hrun hr
      rw [hf] at this
      unfold CallOK at this ⊢
      rw [← hP]; exact this
    · exact memosF_ok hl h

theorem ctrT_ok {T : MTab} (hT : GoodT E.P cl T) {f : FuncId} {args : List AV} {hp : Tr AObj} {nx : Nat} {r : CR} (h : ctrT T f args hp nx = some r) : CallOK E N ν w0 (.f f) args hp nx r := by
  unfold ctrT at h
  split at h
  · rename_i l hl; exact memosF_ok (hT.look hl) h
  · cases h

/-- maps.clone stands where it is said to stand. -/
def CloneAt (P : Program) (cl : Option FuncId) : Prop := ∀ f, cl = some f → ∃ fn, P.funcs[f]? = some fn ∧ fn.name ≠ "runtime.NumGoroutine" ∧ fn.body.isNone = true ∧ Extern.findNext fn = none ∧ Extern.find fn = some Extern.MapsClone.clone

theorem clone_given {P : Program} (h : CloneAt P cl) (f : FuncId) (hf : cl = some f) (t : TypeId) (b : Nat) (w : World) (es : Array MapEntry) (clock : Nat) (hb : w.heap[b]? = some (.map es clock)) :
    (callFunc f #[.iface t (.map (some b))]).run P w = .ok (.value (.iface t (.map (some w.heap.size)))) (newW w (.map es clock)) := by
  obtain ⟨fn, h1, h2, h3, h4, h5⟩ := h f hf
  have h3' : fn.body = none := by cases e : fn.body with
    | none => rfl
    | some c => rw [e] at h3; cases h3
  have hrun : (Extern.MapsClone.clone #[.iface t (.map (some b))]).run P w = .ok (.iface t (.map (some w.heap.size))) (newW w (.map es clock)) := by
    have e : Extern.MapsClone.clone #[.iface t (.map (some b))] = (do
      let .map entries clock ← getObj b | stuck "maps.clone: a map expected"
      pure (.iface t (.map (some (← newObj (.map entries clock))))) : Sem Value) := rfl
    rw [e]
    simp [getObj, Sem.run, hb, newW]
    first | done | rfl
  unfold callFunc
  simp [program, Sem.run_bind, Sem.run, h1, h2, h3', h4, h5, mark]
  rw [hrun]
  rfl

theorem given_of {T : MTab} (hc : CloneAt E.P cl) (hctr : E.ctr = ctrT T) (hT : GoodT E.P cl T) : Given E N ν w0 cl :=
  ⟨fun f args hp nx r h => ctrT_ok hT (by rw [hctr] at h; exact h), fun f hf t b w es clock hb => clone_given hc f hf t b w es clock hb⟩

theorem sound_of {T : MTab} (hE : EnvOK E) (hpc : E.pc = []) (hc : CloneAt E.P cl) (hctr : E.ctr = ctrT T) (hT : GoodT E.P cl T) : Sound E cl :=
  ⟨hE, hpc, fun _ _ _ => given_of hc hctr hT⟩

end

/-- The tables, built out of the program's own. -/
theorem envOK_of {P : Program} {TT : Tr TypeInfo} {FT : Tr Func} {pc : List PF} {ctr : FuncId → List AV → Tr AObj → Nat → Option CR} (hT : TT = build P.types.toList 0 .nil) (hF : FT = build P.funcs.toList 0 .nil)
    (hn : (P.funcs.toList.all fun fn => decide (fn.name ≠ "runtime.NumGoroutine")) = true) (hm : P.follows .mixedOrders = true) : EnvOK { P := P, TT := TT, FT := FT, pc := pc, ctr := ctr } := by
  subst hT; subst hF
  refine ⟨fun t i h => ?_, fun f fn h => ?_, hm⟩
  · have := build_some _ _ _ h
    rwa [Array.getElem?_toList] at this
  · have h1 := build_some _ _ _ h
    refine ⟨by rwa [Array.getElem?_toList] at h1, ?_⟩
    exact of_decide_eq_true (List.all_eq_true.1 hn fn (List.mem_of_getElem? h1))

end Pk
/- A law out of a run: what the claim's form asks behind the call. -/
namespace Pk
open Go Go.RowKit Go.ChangeShapes Go.WideShapes Go.WideMaps

section
variable {H : Type} {enc : TypeId × Value → H} {P : Program}

/-- All arguments read as they did. -/
theorem trodAll_stays (hl : laidOutB P = true) {W W' : World} (hB : Below W.heap.size W W') : ∀ {ts : List TypeId} {vs : List Value} {ds : List (DataW H)} {ps : List MemPlace},
    (ts.all fun t => P.readableRec t && decide (t < P.types.size)) = true → DataW.TrodAll enc P W 0 (fun _ => true) true ts vs ds ps → (∀ x ∈ ps, x.block < W.heap.size) →
    DataW.TrodAll enc P W' 0 (fun b => decide (b < W.heap.size)) true ts vs ds ps
  | [], vs, ds, ps, _, h, _ => by
    obtain ⟨rfl, rfl, rfl⟩ := trodAll_nil h
    exact trodAll_mk0
  | t :: ts, vs, ds, ps, hr, h, hlt => by
    obtain ⟨v, vs', d, ds', p, q, rfl, rfl, rfl, h1, h2⟩ := trodAll_cons h
    simp only [List.all_cons, Bool.and_eq_true, decide_eq_true_eq] at hr
    obtain ⟨⟨hr1, hr2⟩, hr3⟩ := hr
    have hr3 : (ts.all fun t => P.readableRec t && decide (t < P.types.size)) = true := by simpa using hr3
    exact ⟨p, q, Below.trod hl hr1 hr2 h1 hB (fun x hx => hlt x (List.mem_append_left _ hx)), trodAll_stays hl hB hr3 h2 (fun x hx => hlt x (List.mem_append_right _ hx)), rfl⟩

/-- A LAW's END: true, all that was there as it was. -/
theorem law_post {f : Func} {s : ChangeSpec} {fresh handsOn : Bool} {W W' : World} {args : Array Value} {ds : List (DataW H)} {before : List MemPlace} {tb : TypeId}
    (hl : laidOutB P = true) (hr : (f.params.toList.all fun t => P.readableRec t && decide (t < P.types.size)) = true) (hvars : s.vars = [])
    (hW : DataW.Whole enc P f.params.toList s.vars false W args.toList ds [] before) (hsp : s.fn H (ds ++ []) = { results := [.lit (.bool true)], args := ds })
    (hres : f.resultTypes = #[tb]) (hb : P.underlying tb = some .bool) (hB : Below W.heap.size W W') : s.post enc P f false fresh handsOn false W args (.bool true) W' := by
  have hlt : ∀ x ∈ before, x.block < W.heap.size := fun x hx => by simpa using hW.lt x hx
  have hW' := hW
  obtain ⟨p, q, hA, hV, hpq, hz, hn⟩ := hW
  rw [hvars] at hV
  obtain ⟨_, rfl⟩ := trodVars_none hV
  subst hpq
  have hA' := trodAll_stays hl hB hr hA (fun x hx => hlt x (List.mem_append_left _ hx))
  refine ⟨ds, [], p ++ [], [], p, [], hW', ?_, ?_, ?_, World.keptBut_mono (fun x hx => absurd hx id) (hB.frame fun _ => False), fun h => (by cases h)⟩
  · rw [hsp, hres]; exact trodAll_mk1 (shut_bool hb _)
  · rw [hsp]; exact hA'
  · rw [hvars, hsp]; rfl

/-- An array of numbers, opened. -/
theorem open_nums {k e : TypeId} {n : Nat} {q : IntKind} {W : World} {base b0 : Nat} {r : Reach} {sp : Nat → Bool} {held : Bool} (hu : P.underlying k = some (.array n e)) (he : P.underlying e = some (.int q)) (hc : P.cellsOf e = 1) (hk : P.cellsOf k = n)
    {v : Value} (hval : Value.okWide P W r b0 k v) {d : DataW H} {ps : List MemPlace} (hd : DataW.Trod enc P W base sp held k v d ps) :
    ∃ xs : List Int, xs.length = n ∧ v = .agg (xs.map fun x => Value.int q x).toArray ∧ ∀ x ∈ xs, (Lit.int q x).wf = true := by
  simp only [Value.okWide, hu] at hval
  obtain ⟨cs, rfl, hcs, _⟩ := hval
  obtain ⟨fuel, hf⟩ := hd
  obtain ⟨ys, m, rfl, _, hlen, hn, hel⟩ := DataW.trod_array hu hf
  simp only [Value.cells] at hlen hel
  have key : ∀ i, i < n → ∃ z, cs.toList[i]? = some (.int q z) ∧ (Lit.int q z).wf = true := by
    intro i hi
    have h1 := hel i hi
    rw [hc, Nat.mul_one, List.getElem?_eq_getElem (by omega : i < ys.length)] at h1
    obtain ⟨z, e1, _, w1⟩ := DataW.trod_int he h1
    refine ⟨z, ?_, w1⟩
    have h0 : ((cs.toList.drop i).take 1)[0]? = some (.int q z) := by rw [e1]; rfl
    simpa using h0
  have hsz : cs.toList.length = n := by rw [Array.length_toList, hcs, hk]
  refine ⟨cs.toList.map fun v => match v with | .int _ z => z | _ => 0, by simpa using hsz, ?_, ?_⟩
  · congr 1
    apply Array.toList_inj.1
    simp only [List.map_map]
    apply List.ext_getElem?
    intro i
    rw [List.getElem?_map]
    rcases Nat.lt_or_ge i n with hi | hi
    · obtain ⟨z, hz, _⟩ := key i hi
      rw [hz]; rfl
    · rw [List.getElem?_eq_none (by omega)]; rfl
  · intro x hx
    obtain ⟨v, hv, rfl⟩ := List.mem_map.1 hx
    obtain ⟨i, hi⟩ := List.mem_iff_getElem?.1 hv
    have hil : i < n := by have := (List.getElem?_eq_some_iff.1 hi).1; omega
    obtain ⟨z, hz, w1⟩ := key i hil
    rw [hi] at hz; cases hz
    exact w1

end

/-- No go statement anywhere: the call starts no goroutine. -/
theorem goesBy_none {P : Program} {c : OpenClaim} (hs : c.start = .entering) (h : P.funcs.toList.any Func.goes = false) : false = c.goesBy P := by
  have hf : ∀ g : Nat, ((P.funcs[g]?).any Func.goes) = false := by
    intro g
    cases e : P.funcs[g]? with
    | none => rfl
    | some fn =>
      have hm : fn ∈ P.funcs.toList := by
        rw [← Array.getElem?_toList] at e
        exact List.mem_of_getElem? e
      have := List.any_eq_false.1 h fn hm
      simpa using this
  have hall : ∀ f, P.goes f = false := by
    intro f
    unfold Program.goes
    rw [Bool.or_eq_false_iff]
    refine ⟨?_, ?_⟩
    · have e : (fun g : Nat => (P.funcs[g]?).any Func.goes) = fun _ => false := funext hf
      rw [e]; simp
    · have e : P.funcs.any Func.goes = false := by rw [← Array.any_toList]; exact h
      rw [e]; simp
  unfold OpenClaim.goesBy Program.goesAt Program.goesFrom
  rw [hs]
  cases P.funcNamed c.func with
  | none => rfl
  | some f => simp [hall f]

/-- Nothing is known of memory when the run begins. -/
theorem HR.start (ν : Nat → Int) (W : World) : HR W.heap.size ν W (fun _ => none) .nil 0 W := by
  refine ⟨fun id o r c h => ?_, fun _ _ _ h => ?_, fun i j o o' r c c' h => ?_, fun _ _ => rfl, Below.refl _ _, Nat.le_refl _⟩
  · rw [getP_nil] at h; cases h
  · cases h
  · rw [getP_nil] at h; cases h

noncomputable section
def okTrue (r : Option DR) : Bool := match r with
  | some r => match r.co with
    | .ret v => match v with
      | .bool b => b
      | _ => false
    | _ => false
  | none => false
end

/-- A LAW's CALL, RUN: it answers true, and leaves what was there. -/
theorem law_calls {E : Env} {cl : Option FuncId} {ν : Nat → Int} {n : Nat} {f : FuncId} {args : List AV} {argsV : Array Value} {W : World} (hE : EnvOK E) (hpc : ∀ p ∈ E.pc, PFok ν p) (hG : Given E W.heap.size ν W cl)
    (hrun : okTrue (bodyA E (ev E cl n) f args .no .nil 0) = true) (ha : VRs ν (fun _ => none) args argsV.toList) :
    Calls E.P f argsV W fun e W' => e = .returned (.bool true) ∧ Below W.heap.size W W' := by
  unfold okTrue at hrun
  split at hrun
  · rename_i r hr
    obtain ⟨co, cm, hp, nx⟩ := r
    simp only at hrun
    split at hrun
    · rename_i v
      split at hrun
      · rename_i b
        subst hrun
        refine (run_calls (cm := .no) hE hpc hG hr ha (HR.start ν W)).mono fun e W' h => ?_
        cases e with
        | returned v' =>
          obtain ⟨ρ', _, h1, h2⟩ := h
          rw [VR_bool.1 h2]
          exact ⟨rfl, h1.below⟩
        | panicked ch => exact h.elim
        | outgrown => exact h.elim
      · cases hrun
    · cases hrun
  · cases hrun

end Pk
