/- The abstract run of the model, proved right (part 4 of 7). For every program. -/
import Derived.Test.YtimpkpgndnchiaaGreatDoorPkC
set_option linter.unusedSectionVars false
set_option linter.unusedSimpArgs false
set_option linter.unusedVariables false
/- The abstract run is sound: operations that act (stores, maps). -/
namespace Pk
open Go Go.RowKit

theorem setObjK_eq {β : Type} (s : St) (id : Nat) (o : AObj) (k : St → β) : setObjK s id o k = k ⟨s.tm, putT (some o) (path id) s.hp, s.nx, s.ds, s.cm⟩ := by
  cases s; simp only [setObjK]; rw [putP_eq]
theorem newK_eq {β : Type} (s : St) (o : AObj) (k : Nat → St → β) : newK s o k = k s.nx ⟨s.tm, putT (some o) (path s.nx) s.hp, s.nx + 1, s.ds, s.cm⟩ := by
  cases s; simp only [newK]; rw [putP_eq, frc_eq]

/-- What an operation that turns memory has come to. -/
def NextIs (n : Next) (v : Value) : Prop := n = .value v ∨ (n = .skip ∧ v = undef)

/-- An operation that acts by itself: value, or panic. -/
def AOk (E : Env) (N : Nat) (ν : Nat → Int) (w0 : World) (ρ : Rho) (s : St) (a : Act) (o : Oper) (w : World) : OR → Prop
  | .val v s' => ∃ ρ' n v' w', (execOp a.eval o).run E.P w = .ok n w' ∧ NextIs n v' ∧ VR ν ρ' v v' ∧ HR N ν w0 ρ' s'.hp s'.nx w' ∧ Grow s.nx ρ ρ' s'.nx ∧
      s'.tm = s.tm ∧ s'.ds = s.ds ∧ s'.cm = s.cm
  | .pan ch s' => ∃ v v', ch = [⟨v, false⟩] ∧ (execOp a.eval o).run E.P w = .halt (.panic v') w ∧ VR ν ρ v v' ∧ s' = s

section
variable {N : Nat} {ν : Nat → Int} {ρ : Rho} {E : Env} {w0 w : World} {s : St}

/-- Nothing to give: memory turned at one block, or not at all. -/
theorem AOk.unit {a : Act} {o : Oper} {w' : World} {hp' : Tr AObj} (n : Next) (hr : (execOp a.eval o).run E.P w = .ok n w') (hn : NextIs n undef) (hh : HR N ν w0 ρ hp' s.nx w') :
    AOk E N ν w0 ρ s a o w (.val undefA ⟨s.tm, hp', s.nx, s.ds, s.cm⟩) :=
  ⟨ρ, n, undef, w', hr, hn, VR_tup.2 ⟨[], VRs_nil.2 rfl, rfl⟩, hh, Grow.refl _ _, rfl, rfl, rfl⟩

theorem VRp.lay {l c : List AV} {cs vs : List Value} {off : Nat} (h : VRp ν ρ l cs) (k : VRs ν ρ c vs) (sc : Sc vs) (hle : off + c.length ≤ l.length) :
    VRp ν ρ (l.take off ++ c ++ l.drop (off + c.length)) (cs.take off ++ vs ++ cs.drop (off + vs.length)) := by
  have hl := k.length
  have h1 := h.1
  have hlen : (l.take off ++ c ++ l.drop (off + c.length)).length = l.length := by simp; omega
  have e : (cs.take off ++ vs ++ cs.drop (off + vs.length)).take l.length = (cs.take l.length).take off ++ vs ++ (cs.take l.length).drop (off + c.length) := by
    rw [List.append_assoc, List.take_append, List.take_append]
    rw [List.take_take, List.take_take, Nat.min_eq_right (by omega : off ≤ l.length), Nat.min_eq_left (by omega : off ≤ l.length)]
    have e1 : l.length - (cs.take off).length = l.length - off := by simp; omega
    rw [e1, List.take_of_length_le (by omega : vs.length ≤ l.length - off), List.append_assoc]
    congr 2
    rw [List.drop_take, hl]
    congr 1
    omega
  refine ⟨by rw [hlen]; simp; omega, ?_, ?_⟩
  · rw [hlen, e]
    exact ((h.2.1.take off).append k).append (h.2.1.drop _)
  · rw [hlen, e]
    exact ((h.2.2.sub fun x hx => List.mem_of_mem_take hx).append sc).append (h.2.2.sub fun x hx => List.mem_of_mem_drop hx)

/-- Cells laid into a block that is the run's own. -/
theorem HR.lay {hp : Tr AObj} {nx : Nat} {id r c off g : Nat} {l m l2 : List AV} {e : TypeId} {vs : List Value} (h : HR N ν w0 ρ hp nx w) (hid : ρ id = some (r, c))
    (hl : getP (path id) hp = some (.cells l e true g)) (hm : VRs ν ρ m vs) (sc : Sc vs) (he : layO m off l = some l2) :
    ∃ w', (storeCells ⟨r, off, none⟩ vs).run E.P w = .ok () w' ∧ HR N ν w0 ρ (putT (some (.cells l2 e true g)) (path id) hp) nx w' := by
  obtain ⟨ob, h1, h2⟩ := h.live id _ r c hl hid
  obtain ⟨cs, fz, rfl, hp', hw, hg⟩ := h2
  obtain ⟨hN, hz⟩ := hw rfl
  unfold layO at he
  split at he
  · rename_i hle
    cases he
    have hlen := hm.length
    have hpl := hp'.1
    simp only [Array.length_toList] at hpl
    obtain ⟨w', cs', e1, e2, e3⟩ := run_storeCells_list (P := E.P) (r := r) (e := e) (fz := fz) vs off 0 cs w sc h1 (by omega) (fun j h1 h2 => by omega)
    refine ⟨w', e1, h.set hid hl hN e2 ⟨cs', fz, rfl, ?_, fun _ => ⟨hN, ?_⟩, fun h0 => ?_⟩⟩
    · rw [e3]
      simp only [Nat.add_zero]
      exact hp'.lay hm sc hle
    · rcases hz with hz | hz
      · exact .inl hz
      · right; simp; omega
    · have hsz : cs'.size = cs.size := by rw [← Array.length_toList, e3]; simp; omega
      rw [hsz]; exact hg h0
  · cases he

variable (hE : EnvOK E) {a : Act} (ht : TR ν ρ s.tm a.tmps) (hh : HR N ν w0 ρ s.hp s.nx w) {o : Oper} {r : OR} {I : IH} {rnd : Option Nat}
include hE ht hh

theorem aStore_ok {t : TypeId} {x y : Operand} (ho : o.op = .store t x y) (h : (storeF E t x y).run I rnd s = some r) : AOk E N ν w0 ρ s a o w r := by
  unfold storeF at h
  split at h
  · rename_i n hn
    simp only at h
    split at h
    · rename_i id off hx
      split at h
      · rename_i v hy
        split at h
        · rename_i l e g hb
          split at h
          · rename_i c hc
            rw [lenK_eq] at h
            split at h
            · rename_i hm
              have hm := beq_true hm
              rw [layK_eq] at h
              split at h
              · rename_i l2 hl
                rw [setObjK_eq] at h
                cases h
                obtain ⟨b, ⟨cc, hbc⟩, ex⟩ := VR_ptr.1 (evF_ok ht hx)
                have hv := cells_ok (evF_ok ht hy) hc
                obtain ⟨w', h1, h2⟩ := HR.lay (E := E) hh hbc hb hv.1 hv.2 hl
                refine AOk.unit .skip ?_ (.inr ⟨rfl, rfl⟩) h2
                have hsz : (a.eval y).cells.size = n := by rw [← Array.length_toList, hv.1.length]; omega
                rw [execOp, ho]; dsimp only
                rw [ex]
                simp only [Instr.storeAt, Instr.sureAddr, storeVar, Sem.run_bind, Sem.run_pure, Result.andThen_ok, szOf_ok hE hn, hsz]
                simp [h1]
              · cases h
            · cases h
          · cases h
        · cases h
      · cases h
    · cases h
  · cases h

omit hE ht hh in
theorem findA_spec {q : EQ} {k : AV} : ∀ (es : List AEnt) (n i : Nat) (v : AV), findA q k es n = some (some (i, v)) → ∃ j e, i = n + j ∧ es[j]? = some e ∧ e.val = v ∧ q.run k e.key = some true
  | [], n, i, v, h => by cases h
  | e :: es, n, i, v, h => by
    unfold findA at h
    split at h
    · rename_i hq
      cases h
      exact ⟨0, e, rfl, rfl, rfl, hq⟩
    · obtain ⟨j, e', h1, h2, h3, h4⟩ := findA_spec es _ i v h
      exact ⟨j + 1, e', by omega, h2, h3, h4⟩
    · cases h

omit ht hh hE in
theorem sameS_ok {a b : AV} {x y : Value} (h : sameS a b = true) (ha : VR ν ρ a x) (hb : VR ν ρ b y) : x = y ∧ ∀ n, Instr.sameBits n x x = true := by
  unfold sameS at h
  split at h
  · split at h
    · split at h
      · rename_i hk
        have := kEq_ok hk; subst this
        rw [ieq_ok, beq_iff_eq] at h
        subst h
        obtain rfl := VR_int.1 ha
        obtain rfl := VR_int.1 hb
        exact ⟨rfl, fun n => by cases n <;> simp [Instr.sameBits]⟩
      · cases h
    · cases h
  · split at h
    · split at h
      · rename_i hk
        have := kEq_ok hk; subst this
        have := beq_true h; subst this
        obtain ⟨rfl, _⟩ := VR_sym.1 ha
        obtain ⟨rfl, _⟩ := VR_sym.1 hb
        exact ⟨rfl, fun n => by cases n <;> simp [Instr.sameBits]⟩
      · cases h
    · cases h
  · split at h
    · obtain ⟨rfl, h1⟩ := VR_str.1 ha
      obtain ⟨rfl, h2⟩ := VR_str.1 hb
      rw [strEq_ok h1 h2, decide_eq_true_eq] at h
      rw [strOf_ext h]
      exact ⟨rfl, fun n => by cases n <;> simp [Instr.sameBits, beq_toListBytes]⟩
    · cases h
  · split at h
    · rename_i p _ q
      obtain rfl := VR_bool.1 ha
      obtain rfl := VR_bool.1 hb
      cases p <;> cases q <;> first | (cases h; done) | exact ⟨rfl, fun n => by cases n <;> simp [Instr.sameBits]⟩
    · cases h
  · cases h

omit ht hh hE in
theorem sameL_ok : ∀ {l m : List AV} {xs ys : List Value}, sameL l m = true → VRs ν ρ l xs → VRs ν ρ m ys → xs = ys ∧ ∀ n, ((xs.zip xs).all fun (x, y) => Instr.sameBits n x y) = true
  | [], [], xs, ys, h, ha, hb => by
    rw [VRs_nil] at ha hb; subst ha; subst hb; exact ⟨rfl, fun n => rfl⟩
  | [], b :: m, xs, ys, h, ha, hb => by cases h
  | a :: l, [], xs, ys, h, ha, hb => by cases h
  | a :: l, b :: m, xs, ys, h, ha, hb => by
    obtain ⟨x, xs, h1, h2, rfl⟩ := VRs_cons.1 ha
    obtain ⟨y, ys, h3, h4, rfl⟩ := VRs_cons.1 hb
    simp only [sameL] at h
    split at h
    · rename_i hs
      obtain ⟨rfl, k1⟩ := sameS_ok hs h1 h3
      obtain ⟨rfl, k2⟩ := sameL_ok h h2 h4
      exact ⟨rfl, fun n => by simp only [List.zip_cons_cons, List.all_cons, k1, k2, Bool.and_self]⟩
    · cases h

omit ht hh hE in
theorem sameK_ok {a b : AV} {x y : Value} (h : sameK a b = true) (ha : VR ν ρ a x) (hb : VR ν ρ b y) : Instr.sameBits 10000 y x = true := by
  unfold sameK at h
  split at h
  · split at h
    · obtain ⟨xs, h1, _, rfl⟩ := VR_agg.1 ha
      obtain ⟨ys, h2, _, rfl⟩ := VR_agg.1 hb
      obtain ⟨rfl, k⟩ := sameL_ok h h1 h2
      have := k 9999
      simp only [Instr.sameBits, BEq.rfl, Bool.true_and]
      exact this
    · cases h
  · obtain ⟨rfl, k⟩ := sameS_ok h ha hb
    exact k 10000

omit hE ht hh in
theorem modK_eq {β : Type} (k' v : AV) : ∀ (l : List AEnt) (n : Nat) (k : List AEnt → β), modK k' v l n k = k (l.modify n fun e => ⟨k', v, e.born⟩)
  | [], n, k => by cases n <;> rfl
  | e :: l, 0, k => rfl
  | e :: l, n + 1, k => by
    show modK k' v l n _ = _
    rw [modK_eq k' v l n]; rfl

omit hE ht hh in
theorem EntRs.get {es : List AEnt} {fs : List MapEntry} (h : EntRs ν ρ es fs) {i : Nat} {e : AEnt} (he : es[i]? = some e) : ∃ f, fs[i]? = some f ∧ EntR ν ρ e f := by
  induction es generalizing fs i with
  | nil => cases he
  | cons x es ih =>
    obtain ⟨f, r, h1, h2, rfl⟩ := h
    cases i with
    | zero => cases he; exact ⟨f, rfl, h1⟩
    | succ i => exact ih h2 he

omit hE ht hh in
theorem EntRs.modify {es : List AEnt} {fs : List MapEntry} (h : EntRs ν ρ es fs) (n : Nat) {f : AEnt → AEnt} {g : MapEntry → MapEntry} (hfg : ∀ e x, EntR ν ρ e x → EntR ν ρ (f e) (g x)) :
    EntRs ν ρ (es.modify n f) (fs.modify n g) := by
  induction es generalizing fs n with
  | nil => cases h; cases n <;> rfl
  | cons x es ih =>
    obtain ⟨y, r, h1, h2, rfl⟩ := h
    cases n with
    | zero => exact ⟨g y, r, hfg _ _ h1, h2, rfl⟩
    | succ n => exact ⟨y, _, h1, ih h2 n, rfl⟩

omit hE ht hh in
theorem EntRs.append {es es2 : List AEnt} {fs fs2 : List MapEntry} (h : EntRs ν ρ es fs) (k : EntRs ν ρ es2 fs2) : EntRs ν ρ (es ++ es2) (fs ++ fs2) := by
  induction es generalizing fs with
  | nil => cases h; exact k
  | cons x es ih => obtain ⟨y, r, h1, h2, rfl⟩ := h; exact ⟨y, _, h1, ih h2, rfl⟩

omit hE ht hh in
theorem EntRs.one {e : AEnt} {f : MapEntry} (h : EntR ν ρ e f) : EntRs ν ρ [e] [f] := ⟨f, [], h, rfl, rfl⟩

/-- A map turned. -/
theorem HR.setMap {hp : Tr AObj} {nx id r c clock clock' : Nat} {es es' : List AEnt} {fs fs' : Array MapEntry} (h : HR N ν w0 ρ hp nx w) (hid : ρ id = some (r, c))
    (hl : getP (path id) hp = some (.map es clock)) (hb : w.heap[r]? = some (.map fs clock)) (hN : N ≤ r) (he : EntRs ν ρ es' fs'.toList) :
    (setObj r (.map fs' clock')).run E.P w = .ok () { w with heap := w.heap.setIfInBounds r (.map fs' clock') } ∧
    HR N ν w0 ρ (putT (some (.map es' clock')) (path id) hp) nx { w with heap := w.heap.setIfInBounds r (.map fs' clock') } :=
  ⟨by simp [setObj, Sem.run, hb], h.set hid hl hN ⟨rfl, rfl, rfl, rfl⟩ ⟨fs', rfl, he, hN⟩⟩

theorem aMapUpd_ok {t : TypeId} {m k x : Operand} (ho : execOp a.eval o = (do Instr.mapUpdate t (a.eval m) (a.eval k) (a.eval x); pure .skip : Sem Next)) (h : (mapUpdF E t m k x).run I rnd s = some r) :
    AOk E N ν w0 ρ s a o w r := by
  unfold mapUpdF at h
  split at h
  · rename_i kt et hu
    split at h
    · rename_i qq hq
      obtain ⟨hp1, rfl⟩ := keyQ_ok hq
      obtain ⟨kd, hkd⟩ := plainT_und hp1
      simp only at h
      split at h
      · rename_i id hm
        split at h
        · rename_i key v hk hx
          split at h
          · rename_i es clock hko hb
            have hko := keyOk_ok hko
            have em := evF_ok ht hm
            have ek := evF_ok ht hk
            have ex := evF_ok ht hx
            obtain ⟨b, ⟨c, hbc⟩, em⟩ := VR_map.1 em
            obtain ⟨ob, h1, fs, rfl, h2, h3⟩ := hh.live id _ b c hb hbc
            have hg : (getObj b).run E.P w = .ok (.map fs clock) w := by simp [getObj, Sem.run, h1]
            have hck := checkKey_ok (ν := ν) (ρ := ρ) hE false 20 kt key (a.eval k) 10000 w hp1 ek hko (by omega)
            split at h
            · rename_i i v0 hf
              split at h
              case h_2 => cases h
              rename_i e hn
              split at h
              · rename_i hks
                rw [modK_eq, setObjK_eq] at h
                cases h
                rw [nth_eq] at hn
                obtain ⟨r', e1, v', rfl, e2⟩ := findKey_ok (ν := ν) (ρ := ρ) hE hkd ek (by omega : 20 ≤ 10000) w h2 hf
                obtain ⟨f, hf1, hf2⟩ := h2.get hn
                have hf1' : fs[i]? = some f := by simpa using hf1
                have k2 := sameK_ok hks ek hf2.1
                have hset := HR.setMap (E := E) (clock' := clock) (es' := es.modify i fun e => ⟨key, v, e.born⟩) (fs' := fs.modify i fun e => { e with key := a.eval k, val := a.eval x }) hE ht hh hh hbc hb h1 h3 (by
                  rw [Array.toList_modify]
                  exact h2.modify i fun e x hx => ⟨ek, ex, hx.2.2⟩)
                refine AOk.unit .skip ?_ (.inr ⟨rfl, rfl⟩) hset.2
                rw [ho, em]
                simp only [Instr.mapUpdate, Sem.run_bind, run_und hE hu, Result.andThen_ok, hg, hck, e1, Instr.keyThatStays, hf1', Option.map_some, Option.getD_some, k2, if_true, Sem.run_pure, hset.1]
              · cases h
            · rename_i hf
              rw [appK_eq, frc_eq, setObjK_eq] at h
              cases h
              obtain ⟨r', e1, e2⟩ := findKey_ok (ν := ν) (ρ := ρ) hE hkd ek (by omega : 20 ≤ 10000) w h2 hf
              have : r' = none := e2
              subst this
              have hset := HR.setMap (E := E) (clock' := clock + 1) (es' := es ++ [⟨key, v, clock⟩]) (fs' := fs.push { key := a.eval k, val := a.eval x, born := clock }) hE ht hh hh hbc hb h1 h3 (by
                rw [Array.toList_push]
                exact h2.append (EntRs.one ⟨ek, ex, rfl⟩))
              refine AOk.unit .skip ?_ (.inr ⟨rfl, rfl⟩) hset.2
              rw [ho, em]
              simp only [Instr.mapUpdate, Sem.run_bind, run_und hE hu, Result.andThen_ok, hg, hck, e1, hset.1, Sem.run_pure]
            · cases h
          · cases h
        · cases h
      · cases h
    · cases h
  · cases h

theorem aMapEnt_ok {t : TypeId} {m k : Operand} (ho : o.op = .mapEntry t m k) (h : (mapEntF E t m k).run I rnd s = some r) :
    AOk E N ν w0 ρ s a o w r := by
  unfold mapEntF at h
  split at h
  · rename_i kt et hu
    split at h
    · rename_i qq z hq hz
      obtain ⟨hp1, rfl⟩ := keyQ_ok hq
      obtain ⟨kd, hkd⟩ := plainT_und hp1
      simp only at h
      split at h
      · rename_i id hm
        split at h
        · rename_i key hk
          split at h
          · rename_i es clock hko hb
            have hko := keyOk_ok hko
            have em := evF_ok ht hm
            have ek := evF_ok ht hk
            obtain ⟨b, ⟨c, hbc⟩, em⟩ := VR_map.1 em
            obtain ⟨ob, h1, fs, rfl, h2, h3⟩ := hh.live id _ b c hb hbc
            have hg : (getObj b).run E.P w = .ok (.map fs clock) w := by simp [getObj, Sem.run, h1]
            have hck := checkKey_ok (ν := ν) (ρ := ρ) hE false 20 kt key (a.eval k) 10000 w hp1 ek hko (by omega)
            split at h
            · rename_i i v0 hf
              split at h
              case h_2 => cases h
              rename_i e hn
              split at h
              · rename_i hks
                rw [modK_eq, setObjK_eq] at h
                cases h
                rw [nth_eq] at hn
                obtain ⟨r', e1, v', rfl, e2⟩ := findKey_ok (ν := ν) (ρ := ρ) hE hkd ek (by omega : 20 ≤ 10000) w h2 hf
                obtain ⟨j, e', hi, hj, hv, hqe⟩ := findA_spec _ _ _ _ hf
                have hi : i = j := by omega
                subst hi
                rw [hn] at hj; cases hj
                obtain ⟨f, hf1, hf2⟩ := h2.get hn
                have hf1' : fs[i]? = some f := by simpa using hf1
                have k2 := sameK_ok hks ek hf2.1
                have hmod : EntRs ν ρ (es.modify i fun e => ⟨key, v0, e.born⟩) (fs.modify i fun e => { e with key := a.eval k }).toList := by
                  have hes : (es.modify i fun e => (⟨key, v0, e.born⟩ : AEnt)) = es.modify i fun e => ⟨key, e.val, e.born⟩ := by
                    apply List.ext_getElem?
                    intro q
                    rw [List.getElem?_modify, List.getElem?_modify]
                    by_cases hq : i = q
                    · subst hq; rw [hn]; simp [hv]
                    · simp [hq]
                  rw [hes, Array.toList_modify]
                  exact h2.modify i fun e x hx => ⟨ek, hx.2.1, hx.2.2⟩
                have hset := HR.setMap (E := E) (clock' := clock) hE ht hh hh hbc hb h1 h3 hmod
                refine ⟨ρ, .value (.tuple #[v', goInt e.born]), _, _, ?_, .inl rfl, VR_tup.2 ⟨[v', goInt e.born], VRs_cons.2 ⟨_, _, e2, VRs.one (VR_int.2 rfl), rfl⟩, rfl⟩, hset.2, Grow.refl _ _, rfl, rfl, rfl⟩
                rw [execOp, ho]; dsimp only
                rw [em]
                simp only [Instr.mapEntry, Sem.run_bind, run_und hE hu, Result.andThen_ok, hg, hck, e1, Instr.keyThatStays, hf1', Option.map_some, Option.getD_some, k2, if_true, Sem.run_pure, hset.1, hf2.2.2]
              · cases h
            · rename_i hf
              rw [appK_eq, frc_eq, setObjK_eq] at h
              cases h
              obtain ⟨z', hz1, hz2⟩ := zeroA_ok (ν := ν) (ρ := ρ) hE hz w
              obtain ⟨r', e1, e2⟩ := findKey_ok (ν := ν) (ρ := ρ) hE hkd ek (by omega : 20 ≤ 10000) w h2 hf
              have : r' = none := e2
              subst this
              have hset := HR.setMap (E := E) (clock' := clock + 1) (es' := es ++ [⟨key, z, clock⟩]) (fs' := fs.push { key := a.eval k, val := z', born := clock }) hE ht hh hh hbc hb h1 h3 (by
                rw [Array.toList_push]
                exact h2.append (EntRs.one ⟨ek, hz2, rfl⟩))
              refine ⟨ρ, .value (.tuple #[z', goInt clock]), _, _, ?_, .inl rfl, VR_tup.2 ⟨[z', goInt clock], VRs_cons.2 ⟨_, _, hz2, VRs.one (VR_int.2 rfl), rfl⟩, rfl⟩, hset.2, Grow.refl _ _, rfl, rfl, rfl⟩
              rw [execOp, ho]; dsimp only
              rw [em]
              simp only [Instr.mapEntry, Sem.run_bind, run_und hE hu, Result.andThen_ok, hg, hck, e1, hz1, hset.1, Sem.run_pure]
            · cases h
          · cases h
        · cases h
      · cases h
    · cases h
  · cases h

end
end Pk
/- The abstract run is sound: operations that act (more of maps, ranges). -/
namespace Pk
open Go Go.RowKit

section
variable {N : Nat} {ν : Nat → Int} {ρ : Rho} {E : Env} {w0 w : World} {s : St}

theorem entK_eq {β : Type} (b : Nat) (v : AV) : ∀ (l : List AEnt) (k : Option (List AEnt) → β), entK b v l k = k (entK b v l fun r => r)
  | [], k => rfl
  | e :: l, k => by
    unfold entK
    split
    · rfl
    · rw [entK_eq b v l]
      conv => rhs; rw [entK_eq b v l]
      cases entK b v l fun r => r <;> rfl

theorem entK_ok {b : Nat} {v : AV} {v' : Value} (hv : VR ν ρ v v') : ∀ (l l2 : List AEnt) (fs : List MapEntry), EntRs ν ρ l fs → (entK b v l fun r => r) = some l2 →
    ∃ i, fs.findIdx? (fun e => (e.born : Int) == (b : Int)) = some i ∧ EntRs ν ρ l2 (fs.modify i fun e => { e with val := v' })
  | [], l2, fs, h, he => by cases he
  | e :: l, l2, fs, h, he => by
    obtain ⟨f, r, h1, h2, rfl⟩ := h
    unfold entK at he
    split at he
    · rename_i hb
      have hb := beq_true hb
      cases he
      refine ⟨0, ?_, ⟨{ f with val := v' }, r, ⟨h1.1, hv, h1.2.2⟩, h2, rfl⟩⟩
      rw [List.findIdx?_cons, h1.2.2, hb]
      simp
    · rename_i hb
      have hb := beq_false hb
      rw [entK_eq b v l] at he
      cases hl : entK b v l fun r => r with
      | none => rw [hl] at he; cases he
      | some l3 =>
        rw [hl] at he; cases he
        obtain ⟨i, k1, k2⟩ := entK_ok hv l l3 r h2 hl
        refine ⟨i + 1, ?_, ⟨f, _, h1, k2, rfl⟩⟩
        rw [List.findIdx?_cons, h1.2.2, k1]
        have : ((e.born : Int) == (b : Int)) = false := by simp; exact_mod_cast hb
        rw [this]; simp

theorem delAt_eq {β : Type} : ∀ (l : List AEnt) (n : Nat) (k : List AEnt → β), delAt l n k = k (l.eraseIdx n)
  | [], n, k => by cases n <;> rfl
  | e :: l, 0, k => rfl
  | e :: l, n + 1, k => by
    show delAt l n _ = _
    rw [delAt_eq l n]; rfl

theorem EntRs.erase {es : List AEnt} {fs : List MapEntry} (h : EntRs ν ρ es fs) (n : Nat) : EntRs ν ρ (es.eraseIdx n) (fs.eraseIdx n) := by
  induction es generalizing fs n with
  | nil => cases h; exact rfl
  | cons x es ih =>
    obtain ⟨y, r, h1, h2, rfl⟩ := h
    cases n with
    | zero => exact h2
    | succ n => exact ⟨y, _, h1, ih h2 n, rfl⟩

/-- The value of a thing that gives no value, as memory is. -/
theorem AOk.same {a : Act} {o : Oper} {v : AV} {v' : Value} {w' : World} (hr : (execOp a.eval o).run E.P w = .ok (.value v') w') (hv : VR ν ρ v v') (hh : HR N ν w0 ρ s.hp s.nx w') :
    AOk E N ν w0 ρ s a o w (.val v s) := ⟨ρ, .value v', v', w', hr, .inl rfl, hv, hh, Grow.refl _ _, rfl, rfl, rfl⟩

/-- A new block behind a pointer. -/
theorem AOk.fresh {a : Act} {o : Oper} {ob : Obj} {oa : AObj} (hh : HR N ν w0 ρ s.hp s.nx w)
    (hr : (execOp a.eval o).run E.P w = .ok (.value (.pointer (some ⟨w.heap.size, 0, none⟩))) (newW w ob)) (ho : OR' N ν ρ w.heap.size 0 oa ob) :
    AOk E N ν w0 ρ s a o w (.val (.ptr s.nx 0) ⟨s.tm, putT (some oa) (path s.nx) s.hp, s.nx + 1, s.ds, s.cm⟩) :=
  ⟨extR ρ s.nx w.heap.size 0, _, _, _, hr, .inl rfl, VR_ptr.2 ⟨w.heap.size, ⟨0, by simp [extR]⟩, rfl⟩, hh.new (NewW.new w ob) ho, Grow.new hh _ _, rfl, rfl, rfl⟩

variable (hE : EnvOK E) {a : Act} (ht : TR ν ρ s.tm a.tmps) (hh : HR N ν w0 ρ s.hp s.nx w) {o : Oper} {r : OR} {I : IH} {rnd : Option Nat}
include hE ht hh

theorem aEntStore_ok {t : TypeId} {m st x : Operand} (ho : o.op = .entryStore t m st x) (h : (entStoreF m st x).run I rnd s = some r) : AOk E N ν w0 ρ s a o w r := by
  simp only [entStoreF] at h
  split at h
  · rename_i id k b v hm hst hx
    split at h
    · rename_i es clock hb
      rw [entK_eq] at h
      split at h
      · rename_i l2 hl
        rw [setObjK_eq] at h
        cases h
        obtain ⟨bb, ⟨c, hbc⟩, em⟩ := VR_map.1 (evF_ok ht hm)
        obtain ⟨ob, h1, fs, rfl, h2, h3⟩ := hh.live id _ bb c hb hbc
        obtain ⟨i, k1, k2⟩ := entK_ok (evF_ok ht hx) es l2 fs.toList h2 hl
        have hg : (getObj bb).run E.P w = .ok (.map fs clock) w := by simp [getObj, Sem.run, h1]
        have hset := HR.setMap (E := E) (clock' := clock) (es' := l2) (fs' := fs.modify i fun e => { e with val := a.eval x }) hE ht hh hh hbc hb h1 h3 (by rw [Array.toList_modify]; exact k2)
        have k1' : fs.findIdx? (fun e => (e.born : Int) == (b : Int)) = some i := by
          have e : ∀ (l : List MapEntry) p, l.toArray.findIdx? p = l.findIdx? p := fun l p => by simp
          have := e fs.toList (fun e => (e.born : Int) == (b : Int))
          rw [Array.toArray_toList] at this
          rw [this, k1]
        have est : a.eval st = .int k (b : Int) := VR_int.1 (evF_ok ht hst)
        refine AOk.unit .skip ?_ (.inr ⟨rfl, rfl⟩) hset.2
        rw [execOp, ho]; dsimp only
        rw [em, est]
        simp only [Instr.entryStore, Sem.run_bind, Result.andThen_ok, hg, asInt, asIntOf, Sem.run_pure, k1', hset.1]
      · cases h
    · cases h
  · cases h

theorem aDel_ok {ts : Array TypeId} {xs : Array Operand} {m k : Operand} {t : TypeId} {l2 : List TypeId} (hxs : xs.toList = [m, k]) (hts : ts.toList = t :: l2)
    (ho : execOp a.eval o = (do pure (.value (← Builtin.delete_ ts o.type (xs.map a.eval))) : Sem Next)) (h : (delF E t m k).run I rnd s = some r) :
    AOk E N ν w0 ρ s a o w r := by
  have hx0 : (xs.map a.eval)[0]? = some (a.eval m) := by rw [← Array.getElem?_toList, Array.toList_map, hxs]; rfl
  have hx1 : (xs.map a.eval)[1]? = some (a.eval k) := by rw [← Array.getElem?_toList, Array.toList_map, hxs]; rfl
  have ht0 : ts[0]? = some t := by rw [← Array.getElem?_toList, hts]; rfl
  have hv : VR ν ρ undefA (.tuple #[]) := VR_tup.2 ⟨[], VRs_nil.2 rfl, rfl⟩
  unfold delF at h
  split at h
  · rename_i kt et hu
    split at h
    · rename_i qq hq
      obtain ⟨hp1, rfl⟩ := keyQ_ok hq
      obtain ⟨kd, hkd⟩ := plainT_und hp1
      simp only at h
      split at h
      · rename_i key hk
        split at h
        · rename_i hko
          have hko := keyOk_ok hko
          have ek := evF_ok ht hk
          have hck := fun b => checkKey_ok (ν := ν) (ρ := ρ) hE b 20 kt key (a.eval k) 10000 w hp1 ek hko (by omega)
          split at h
          · rename_i hm
            cases h
            refine AOk.same ?_ hv hh
            rw [ho]
            simp [Builtin.delete_, hx0, hx1, ht0, run_und hE hu, VR_nmap.1 (evF_ok ht hm), hck]
          · rename_i id hm
            split at h
            · rename_i es clock hb
              obtain ⟨bb, ⟨c, hbc⟩, em⟩ := VR_map.1 (evF_ok ht hm)
              obtain ⟨ob, h1, fs, rfl, h2, h3⟩ := hh.live id _ bb c hb hbc
              have hg : (getObj bb).run E.P w = .ok (.map fs clock) w := by simp [getObj, Sem.run, h1]
              split at h
              · rename_i i v0 hf
                rw [delAt_eq, setObjK_eq] at h
                cases h
                obtain ⟨r', e1, v', rfl, e2⟩ := findKey_ok (ν := ν) (ρ := ρ) hE hkd ek (by omega : 20 ≤ 10000) w h2 hf
                have hset := HR.setMap (E := E) (clock' := clock) (es' := es.eraseIdx i) (fs' := fs.eraseIdxIfInBounds i) hE ht hh hh hbc hb h1 h3 (by
                  rw [Array.toList_eraseIdxIfInBounds]; exact h2.erase i)
                refine AOk.unit (.value (.tuple #[])) ?_ (.inl rfl) hset.2
                rw [ho]
                simp only [Builtin.delete_, hx0, hx1, ht0, run_und hE hu, em, Sem.run_bind, Result.andThen_ok, hg, hck, e1, hset.1, Sem.run_pure]
              · rename_i hf
                cases h
                obtain ⟨r', e1, e2⟩ := findKey_ok (ν := ν) (ρ := ρ) hE hkd ek (by omega : 20 ≤ 10000) w h2 hf
                have : r' = none := e2
                subst this
                have hset := HR.setMap (E := E) (clock' := clock) (es' := es) (fs' := fs) hE ht hh hh hbc hb h1 h3 h2
                refine AOk.same ?_ hv (hset.2.congr fun i => (HR.put_same hb i).symm)
                rw [ho]
                simp only [Builtin.delete_, hx0, hx1, ht0, run_und hE hu, em, Sem.run_bind, Result.andThen_ok, hg, hck, e1, hset.1, Sem.run_pure]
              · cases h
            · cases h
          · cases h
        · cases h
      · cases h
    · cases h
  · cases h

theorem aClear_ok {ts : Array TypeId} {xs : Array Operand} {x : Operand} {t : TypeId} {l2 : List TypeId} (hxs : xs.toList = [x]) (hts : ts.toList = t :: l2)
    (ho : execOp a.eval o = (do pure (.value (← Builtin.clear_ ts o.type (xs.map a.eval))) : Sem Next)) (h : (clearF E t x).run I rnd s = some r) :
    AOk E N ν w0 ρ s a o w r := by
  have hx0 : (xs.map a.eval)[0]? = some (a.eval x) := by rw [← Array.getElem?_toList, Array.toList_map, hxs]; rfl
  have ht0 : ts[0]? = some t := by rw [← Array.getElem?_toList, hts]; rfl
  have hv : VR ν ρ undefA (.tuple #[]) := VR_tup.2 ⟨[], VRs_nil.2 rfl, rfl⟩
  unfold clearF at h
  split at h
  · rename_i kt et hu
    simp only at h
    split at h
    · rename_i hx
      cases h
      refine AOk.same ?_ hv hh
      rw [ho]
      simp [Builtin.clear_, hx0, ht0, run_und hE hu, VR_nmap.1 (evF_ok ht hx)]
    · rename_i id hx
      split at h
      · rename_i es clock hb
        rw [setObjK_eq] at h
        cases h
        obtain ⟨bb, ⟨c, hbc⟩, em⟩ := VR_map.1 (evF_ok ht hx)
        obtain ⟨ob, h1, fs, rfl, h2, h3⟩ := hh.live id _ bb c hb hbc
        have hg : (getObj bb).run E.P w = .ok (.map fs clock) w := by simp [getObj, Sem.run, h1]
        have hset := HR.setMap (E := E) (clock' := clock) (es' := []) (fs' := #[]) hE ht hh hh hbc hb h1 h3 rfl
        refine AOk.unit (.value (.tuple #[])) ?_ (.inl rfl) hset.2
        rw [ho]
        simp only [Builtin.clear_, hx0, ht0, run_und hE hu, em, Sem.run_bind, Result.andThen_ok, hg, hset.1, Sem.run_pure]
      · cases h
    · cases h
  · rename_i e hu
    split at h
    · rename_i z hz
      simp only at h
      split at h
      · rename_i hx
        cases h
        refine AOk.same ?_ hv hh
        rw [ho]
        simp [Builtin.clear_, hx0, ht0, run_und hE hu, VR_nslice.1 (evF_ok ht hx)]
      · rename_i id off n cap ex hx
        obtain ⟨b, c, off', cap', hbc, hs, ev⟩ := VR_slice.1 (evF_ok ht hx)
        split at h
        · cases h
          refine AOk.same ?_ hv hh
          rw [ho]
          simp [Builtin.clear_, hx0, ht0, run_und hE hu, ev]
        · rename_i n
          split at h
          · rename_i l e' g hb
            rw [repK_eq, layK_eq] at h
            split at h
            · rename_i l2 hl
              rw [setObjK_eq] at h
              cases h
              obtain ⟨v, hv1, hc⟩ := zeroC_ok hz
              obtain ⟨v', k1, k2⟩ := zeroA_ok (ν := ν) (ρ := ρ) hE hv1 w
              have hc := cells_ok k2 hc
              have hoff : off' = off := by
                cases ex with
                | true => exact (hs.2.1 rfl).1
                | false =>
                  rcases (hs.2.2 rfl).2.1 with h | h
                  · exact h
                  · have := hs.1; omega
              subst hoff
              have hzc : (Builtin.zeroCells v'.cells (n + 1)).toList = (List.replicate (n + 1) v'.cells.toList).flatten := rep_range _ _ _ rfl
              obtain ⟨w', h1, h2⟩ := HR.lay (E := E) hh hbc hb (hc.1.replicate (n + 1)) (fun x hx => by
                obtain ⟨l, hl, hx⟩ := List.mem_flatten.1 hx
                rw [(List.mem_replicate.1 hl).2] at hx
                exact hc.2 x hx) hl
              refine AOk.unit (.value (.tuple #[])) ?_ (.inl rfl) h2
              rw [ho]
              simp only [Builtin.clear_, hx0, ht0, run_und hE hu, ev, Sem.run_bind, Result.andThen_ok, k1, hzc, h1, Sem.run_pure]
            · cases h
          · cases h
      · cases h
    · cases h
  · cases h

theorem aRange_ok {t : TypeId} {x : Operand} (ho : o.op = .range t x) (h : (rangeOverF E t x).run I rnd s = some r) : AOk E N ν w0 ρ s a o w r := by
  have hr : ∀ ob, (Instr.range t (a.eval x)).run E.P w = .ok (.pointer (some ⟨w.heap.size, 0, none⟩)) (newW w ob) → (execOp a.eval o).run E.P w = .ok (.value (.pointer (some ⟨w.heap.size, 0, none⟩))) (newW w ob) := by
    intro ob e
    rw [execOp, ho]; dsimp only
    simp only [Sem.run_bind, e, Result.andThen_ok, Sem.run_pure]
  unfold rangeOverF at h
  split at h
  · rename_i hu
    simp only at h
    split at h
    · rename_i n v hx
      simp only [newPtr] at h
      rw [newK_eq] at h
      cases h
      refine AOk.fresh hh (hr (.stringIter (strOf n v) 0) ?_) ⟨rfl, hh.base⟩
      rw [(VR_str.1 (evF_ok ht hx)).1]
      simp [Instr.range, run_und hE hu, newW]
    · cases h
  · rename_i kt et hu
    simp only at h
    split at h
    · rename_i hx
      simp only [newPtr] at h
      rw [newK_eq] at h
      cases h
      refine AOk.fresh hh (hr (.mapIter none 0 #[] 0) ?_) ⟨⟨none, rfl, rfl⟩, hh.base⟩
      rw [VR_nmap.1 (evF_ok ht hx)]
      simp [Instr.range, run_und hE hu, newW]
    · rename_i id hx
      split at h
      · rename_i es clock hb
        simp only [newPtr] at h
        rw [newK_eq] at h
        cases h
        obtain ⟨bb, ⟨c, hbc⟩, em⟩ := VR_map.1 (evF_ok ht hx)
        obtain ⟨ob, h1, fs, rfl, h2, h3⟩ := hh.live id _ bb c hb hbc
        have hg : (getObj bb).run E.P w = .ok (.map fs clock) w := by simp [getObj, Sem.run, h1]
        refine AOk.fresh hh (hr (.mapIter (some bb) clock #[] clock) ?_) ⟨⟨some bb, rfl, bb, ⟨c, hbc⟩, rfl⟩, hh.base⟩
        rw [em]
        simp [Instr.range, run_und hE hu, newW, hg]
      · cases h
    · cases h
  · cases h

theorem aPanic_ok {x : Operand} (ho : (execOp a.eval o).run E.P w = ((Instr.panic (a.eval x)).run E.P w).andThen fun v w => .ok (.value v) w) (h : (panicF x).run I rnd s = some r) : AOk E N ν w0 ρ s a o w r := by
  simp only [panicF] at h
  split at h
  · rename_i t v hx
    cases h
    have ev := evF_ok ht hx
    refine ⟨_, a.eval x, rfl, ?_, ev, rfl⟩
    obtain ⟨y, _, e⟩ := VR_iface.1 ev
    rw [ho, e]
    rfl
  · cases h

end
end Pk
/- The abstract run is sound: operations that act (steps of a range). -/
namespace Pk
open Go Go.RowKit

theorem strOf_getElem {n v i : Nat} (hi : i < n) : (strOf n v)[i]? = some (UInt8.ofNat (v / 256 ^ i % 256)) := by
  have hlt : i < (strOf n v).size := by rw [strOf_size]; exact hi
  rw [ByteArray.getElem?_lt' _ _ hlt]
  congr 1
  show (strOf n v).data[i] = _
  simp [strOf, bytesOf]

theorem strOf_get! {n v i : Nat} (hi : i < n) : (strOf n v).get! i = UInt8.ofNat (v / 256 ^ i % 256) := by
  have hlt : i < (strOf n v).data.size := by have : (strOf n v).data.size = n := strOf_size n v; omega
  have h := strOf_getElem (v := v) hi
  rw [ByteArray.getElem?_lt' _ _ (by rw [strOf_size]; exact hi)] at h
  have h : (strOf n v).data[i] = UInt8.ofNat (v / 256 ^ i % 256) := by injection h
  rw [← h]
  show (strOf n v).data[i]! = _
  rw [getElem!_pos _ i hlt]

theorem strAt_eq (v i : Nat) : strAt v i = v / 256 ^ i % 256 := by unfold strAt; rw [shr8]; rfl

section
variable {N : Nat} {ν : Nat → Int} {ρ : Rho} {E : Env} {w0 w : World} {s : St}

theorem unseen_eq {β : Type} (seen : List Nat) : ∀ (l : List AEnt) (k : List AEnt → β), unseen seen l k = k (l.filter fun e => !seenB e.born seen)
  | [], k => rfl
  | e :: l, k => by
    unfold unseen
    split
    · rename_i h
      rw [unseen_eq seen l, List.filter_cons]; simp [h]
    · rename_i h
      rw [unseen_eq seen l, List.filter_cons]; simp [h]

theorem seenB_ok (b : Nat) : ∀ (l : List Nat), seenB b l = l.contains b
  | [] => rfl
  | c :: l => by
    unfold seenB
    split
    · rename_i h; have := beq_true h; subst this; simp
    · rename_i h
      have := beq_false h
      rw [seenB_ok b l, List.contains_cons]
      have : (b == c) = false := by simp; exact fun e => this e.symm
      rw [this, Bool.false_or]

theorem allFrom_ok (c : Nat) : ∀ (l : List AEnt), allFrom c l = l.all fun e => decide (c ≤ e.born)
  | [] => rfl
  | e :: l => by
    unfold allFrom
    split
    · rename_i h; have := Nat.le_of_ble_eq_true h; rw [allFrom_ok c l]; simp [this]
    · rename_i h; have := ble_false h; simp; intro h2; omega

theorem EntRs.filter {es : List AEnt} {fs : List MapEntry} (h : EntRs ν ρ es fs) (p : Nat → Bool) : EntRs ν ρ (es.filter fun e => p e.born) (fs.filter fun f => p f.born) := by
  induction es generalizing fs with
  | nil => cases h; exact rfl
  | cons x es ih =>
    obtain ⟨y, r, h1, h2, rfl⟩ := h
    rw [List.filter_cons, List.filter_cons, h1.2.2]
    by_cases hp : p x.born = true
    · rw [if_pos hp, if_pos hp]; exact ⟨y, _, h1, ih h2, rfl⟩
    · rw [if_neg hp, if_neg hp]; exact ih h2

theorem EntRs.all {es : List AEnt} {fs : List MapEntry} (h : EntRs ν ρ es fs) (p : Nat → Bool) : (fs.all fun f => p f.born) = es.all fun e => p e.born := by
  induction es generalizing fs with
  | nil => cases h; rfl
  | cons x es ih =>
    obtain ⟨y, r, h1, h2, rfl⟩ := h
    simp only [List.all_cons, h1.2.2, ih h2]

theorem lastN_ok : ∀ (l : List Nat) (b : Nat), lastN l = some b → l.toArray.back? = some b
  | [], b, h => by cases h
  | [n], b, h => by cases h; rfl
  | n :: m :: l, b, h => by
    have := lastN_ok (m :: l) b h
    simp only [List.back?_toArray] at this ⊢
    rw [List.getLast?_cons_cons]; exact this

theorem bornAt_ok {b : Nat} : ∀ (es : List AEnt) (fs : List MapEntry) (e : AEnt), EntRs ν ρ es fs → bornAt b es = some e → ∃ f, fs.find? (·.born == b) = some f ∧ EntR ν ρ e f
  | [], fs, e, h, hb => by cases hb
  | x :: es, fs, e, h, hb => by
    obtain ⟨y, r, h1, h2, rfl⟩ := h
    unfold bornAt at hb
    split at hb
    · rename_i hq
      have hq := beq_true hq
      cases hb
      exact ⟨y, by rw [List.find?_cons]; simp [h1.2.2, hq], h1⟩
    · rename_i hq
      have hq := beq_false hq
      obtain ⟨f, k1, k2⟩ := bornAt_ok es r e h2 hb
      refine ⟨f, ?_, k2⟩
      rw [List.find?_cons, h1.2.2]
      have : (x.born == b) = false := by simpa using hq
      rw [this]; exact k1

variable (hE : EnvOK E) {a : Act} (ht : TR ν ρ s.tm a.tmps) (hh : HR N ν w0 ρ s.hp s.nx w) {o : Oper} {r : OR} {I : IH} {rnd : Option Nat}
include hE ht hh

theorem aNext_ok {it : Operand} {isS : Bool} (ho : o.op = .next it isS) (h : (nextF it isS).run I rnd s = some r) : AOk E N ν w0 ρ s a o w r := by
  have hr : ∀ v w', (Instr.next (a.eval it) isS o.type).run E.P w = .ok v w' → (execOp a.eval o).run E.P w = .ok (.value v) w' := by
    intro v w' e
    rw [execOp, ho]; dsimp only
    simp only [Sem.run_bind, e, Result.andThen_ok, Sem.run_pure]
  have hover : VR ν ρ (.tup [.bool false]) (.tuple #[.bool false]) := VR_tup.2 ⟨[.bool false], VRs.one (VR_bool.2 rfl), rfl⟩
  unfold nextF at h
  split at h
  · simp only at h
    split at h
    · rename_i id hx
      split at h
      · rename_i n v pos hb
        obtain ⟨b, ⟨c, hbc⟩, em⟩ := VR_ptr.1 (evF_ok ht hx)
        obtain ⟨ob, h1, rfl, h3⟩ := hh.live id _ b c hb hbc
        have hg : (getObj b).run E.P w = .ok (.stringIter (strOf n v) pos) w := by simp [getObj, Sem.run, h1]
        unfold nextS at h
        split at h
        · rename_i hlt
          have hlt := ble_false hlt
          rw [frc_eq] at h
          split at h
          · rename_i hb2
            have hb2 := ble_false hb2
            rw [frc_eq, setObjK_eq] at h
            cases h
            have hs : (setObj b (.stringIter (strOf n v) (pos + 1))).run E.P w = .ok () { w with heap := w.heap.setIfInBounds b (.stringIter (strOf n v) (pos + 1)) } := by simp [setObj, Sem.run, h1]
            rw [strAt_eq] at hb2 ⊢
            have hb3 : (UInt8.ofNat (v / 256 ^ pos % 256)).toNat = v / 256 ^ pos % 256 := by simp
            have hd : Utf8.decode (strOf n v) pos = (v / 256 ^ pos % 256, 1) := by
              unfold Utf8.decode
              simp only [Nat.add_zero, strOf_get! hlt, hb3]
              rw [if_pos (by omega)]
            refine ⟨ρ, _, .tuple #[.bool true, goInt pos, .int .i32 (v / 256 ^ pos % 256 : Nat)], { w with heap := w.heap.setIfInBounds b (.stringIter (strOf n v) (pos + 1)) }, hr _ _ ?_, .inl rfl, VR_tup.2 ⟨[.bool true, goInt pos, .int .i32 (v / 256 ^ pos % 256 : Nat)], VRs_cons.2 ⟨_, _, VR_bool.2 rfl, VRs_cons.2 ⟨_, _, VR_int.2 rfl, VRs.one (VR_int.2 rfl), rfl⟩, rfl⟩, rfl⟩,
              hh.set hbc hb h3 ⟨rfl, rfl, rfl, rfl⟩ ⟨rfl, h3⟩, Grow.refl _ _, rfl, rfl, rfl⟩
            rw [em]
            simp only [Instr.next, Sem.run_bind, hg, Result.andThen_ok, strOf_size, hlt, if_true, hd, hs, Sem.run_pure]
          · cases h
        · rename_i hlt
          have hlt := Nat.le_of_ble_eq_true hlt
          cases h
          refine AOk.same (hr _ _ ?_) hover hh
          rw [em]
          simp only [Instr.next, Sem.run_bind, hg, Result.andThen_ok, strOf_size]
          rw [if_neg (by omega)]
          rfl
      · cases h
    · cases h
  · simp only at h
    split at h
    · rename_i id hx
      split at h
      · rename_i m since seen stepped hb
        obtain ⟨b, ⟨c, hbc⟩, em⟩ := VR_ptr.1 (evF_ok ht hx)
        obtain ⟨ob, h1, ⟨m', rfl, hm⟩, h3⟩ := hh.live id _ b c hb hbc
        split at h
        · have hm : m' = none := hm
          subst hm
          cases h
          have hg : (getObj b).run E.P w = .ok (.mapIter none since seen.toArray stepped) w := by simp [getObj, Sem.run, h1]
          refine AOk.same (hr _ _ ?_) hover hh
          rw [em]
          simp only [Instr.next, Sem.run_bind, hg, Result.andThen_ok]
          rfl
        · rename_i m
          obtain ⟨mb, ⟨mc, hmb⟩, rfl⟩ : ∃ b, AtR ρ m b ∧ m' = some b := hm
          have hg : (getObj b).run E.P w = .ok (.mapIter (some mb) since seen.toArray stepped) w := by simp [getObj, Sem.run, h1]
          unfold nextM at h
          split at h
          · rename_i es clock hmo
            obtain ⟨ob, k1, fs, rfl, k2, k3⟩ := hh.live m _ mb mc hmo hmb
            have hgm : (getObj mb).run E.P w = .ok (.map fs clock) w := by simp [getObj, Sem.run, k1]
            split at h
            · cases h
              have hfs : fs = #[] := by
                have : fs.toList = [] := k2
                simpa using this
              subst hfs
              refine AOk.same (hr _ _ ?_) hover hh
              rw [em]
              have hf : ∀ p : MapEntry → Bool, (#[] : Array MapEntry).filter p = #[] := fun p => by simp
              simp only [Instr.next, Sem.run_bind, hg, Result.andThen_ok, hgm, hf]
              simp [choose, Sem.run, Question.forced]
            · rename_i e0 es0
              split at h
              · cases h
              · rename_i hall
                -- the entries that have not been seen
                have hguard : (!seen.toArray.isEmpty && !fs.isEmpty && fs.all (fun f => decide (f.born ≥ stepped))) = false := by
                  cases seen with
                  | nil => simp
                  | cons sn seen =>
                    have hall : allFrom stepped (e0 :: es0) = false := hall
                    rw [allFrom_ok] at hall
                    have := EntRs.all k2 (fun n => decide (stepped ≤ n))
                    rw [hall] at this
                    have e : fs.all (fun f => decide (f.born ≥ stepped)) = fs.toList.all (fun f => decide (stepped ≤ f.born)) := by
                      rw [← Array.all_toList]
                    rw [e, this]; simp
                rw [unseen_eq] at h
                have hleft : EntRs ν ρ ((e0 :: es0).filter fun e => !seenB e.born seen) (fs.filter fun f => !seen.toArray.contains f.born).toList := by
                  have := k2.filter fun n => !seenB n seen
                  rw [Array.toList_filter]
                  have e : (fun (f : MapEntry) => !seen.toArray.contains f.born) = fun f => !seenB f.born seen := by
                    funext f; rw [seenB_ok]; simp
                  rw [e]; exact this
                generalize hL : (e0 :: es0).filter (fun e => !seenB e.born seen) = L at h hleft
                generalize hF : fs.filter (fun f => !seen.toArray.contains f.born) = F at hleft
                have hrun : ∀ (v : Value) (w' : World), ((do
                    let old := F.filter (·.born < since)
                    let new := F.filter (·.born ≥ since)
                    let candidates := (if old.isEmpty then #[none] else #[]) ++ (old ++ new).map some
                    match candidates[← choose (.mapNext candidates.size)]? with
                    | some (some e) =>
                      setObj b (.mapIter (some mb) since (seen.toArray.push e.born) clock)
                      pure (.tuple #[.bool true, e.key, e.val])
                    | some none => pure (.tuple #[.bool false])
                    | none => stuck "Next: no such candidate") : Sem Value).run E.P w = .ok v w' → (Instr.next (a.eval it) false o.type).run E.P w = .ok v w' := by
                  intro v w' e
                  rw [em]
                  simp only [Instr.next, Sem.run_bind, hg, Result.andThen_ok, hgm, hguard, Bool.false_eq_true, if_false, hF]
                  simp only [Sem.run_bind] at e
                  exact e
                split at h
                · cases h
                  have : F = #[] := by
                    have : F.toList = [] := hleft
                    simpa using this
                  subst this
                  refine AOk.same (hr _ _ (hrun _ _ ?_)) hover hh
                  simp [choose, Sem.run, Question.forced]
                · rename_i e l
                  split at h
                  · unfold nextOne at h
                    split at h
                    · rename_i hlt
                      have hlt := ble_false hlt
                      rw [appK_eq, setObjK_eq] at h
                      cases h
                      obtain ⟨f, r, q1, q2, q3⟩ := hleft
                      have : r = [] := q2
                      subst this
                      have hF1 : F = #[f] := by
                        apply Array.ext'; rw [q3]
                      subst hF1
                      have hs : (setObj b (.mapIter (some mb) since (seen.toArray.push f.born) clock)).run E.P w = .ok () { w with heap := w.heap.setIfInBounds b (.mapIter (some mb) since (seen.toArray.push f.born) clock) } := by simp [setObj, Sem.run, h1]
                      refine ⟨ρ, _, .tuple #[.bool true, f.key, f.val], { w with heap := w.heap.setIfInBounds b (.mapIter (some mb) since (seen.toArray.push f.born) clock) }, hr _ _ (hrun _ _ ?_), .inl rfl, VR_tup.2 ⟨[.bool true, f.key, f.val], VRs_cons.2 ⟨_, _, VR_bool.2 rfl, VRs_cons.2 ⟨_, _, q1.1, VRs.one q1.2.1, rfl⟩, rfl⟩, rfl⟩,
                        hh.set hbc hb h3 (ob := .mapIter (some mb) since (seen.toArray.push f.born) clock) ⟨rfl, rfl, rfl, rfl⟩ ⟨⟨some mb, ?_, mb, ⟨mc, hmb⟩, rfl⟩, h3⟩, Grow.refl _ _, rfl, rfl, rfl⟩
                      · have hf1 : f.born < since := by rw [q1.2.2]; exact hlt
                        have hf2 : ¬ f.born ≥ since := by omega
                        have e1 : (#[f].filter fun f => decide (f.born < since)) = #[f] := by simp [hf1]
                        have e2 : (#[f].filter fun f => decide (f.born ≥ since)) = #[] := by simp [hf1]
                        rw [e1, e2]
                        have hch : (choose (.mapNext 1)).run E.P w = .ok 0 w := by simp [choose, Sem.run, Question.forced]
                        rw [List.push_toArray] at hs ⊢
                        simp [hch]
                        rw [hs]
                        rfl
                      · rw [q1.2.2]; simp
                    · cases h
                  · cases h
          · cases h
      · cases h
    · cases h

theorem aEntry_ok {it : Operand} (ho : o.op = .entry it) (h : (entryF it).run I rnd s = some r) : AOk E N ν w0 ρ s a o w r := by
  simp only [entryF] at h
  split at h
  · rename_i id hx
    split at h
    · rename_i m since seen stepped hb
      split at h
      · rename_i st hl
        split at h
        · rename_i es clock hmo
          split at h
          · rename_i hc
            have hc := beq_true hc
            subst hc
            split at h
            · rename_i e hf
              cases h
              obtain ⟨b, ⟨c, hbc⟩, em⟩ := VR_ptr.1 (evF_ok ht hx)
              obtain ⟨ob, h1, ⟨m', rfl, hm⟩, h3⟩ := hh.live id _ b c hb hbc
              obtain ⟨mb, ⟨mc, hmb⟩, rfl⟩ : ∃ b, AtR ρ m b ∧ m' = some b := hm
              obtain ⟨ob, k1, fs, rfl, k2, k3⟩ := hh.live m _ mb mc hmo hmb
              have hg : (getObj b).run E.P w = .ok (.mapIter (some mb) since seen.toArray clock) w := by simp [getObj, Sem.run, h1]
              have hgm : (getObj mb).run E.P w = .ok (.map fs clock) w := by simp [getObj, Sem.run, k1]
              obtain ⟨f, q1, q2⟩ := bornAt_ok es fs.toList e k2 hf
              have q1' : fs.find? (·.born == st) = some f := by rw [← q1]; simp
              refine AOk.same (v' := .tuple #[f.key, f.val]) ?_ (VR_tup.2 ⟨[f.key, f.val], VRs_cons.2 ⟨_, _, q2.1, VRs.one q2.2.1, rfl⟩, rfl⟩) hh
              rw [execOp, ho]; dsimp only
              rw [em]
              simp only [Instr.entry, Sem.run_bind, hg, Result.andThen_ok, lastN_ok _ _ hl, hgm, bne_self_eq_false, Bool.false_eq_true, if_false, q1', Sem.run_pure]
            · cases h
          · cases h
        · cases h
      · cases h
    · cases h
  · cases h

end
end Pk
/- The abstract run is sound: append. -/
namespace Pk
open Go Go.RowKit

theorem growBy_le (n : Nat) : ∀ (r c : Nat), Builtin.growBy n r c ≤ (c + 768) * 2 ^ r
  | 0, c => by simp [Builtin.growBy]
  | r + 1, c => by
    unfold Builtin.growBy
    split
    · calc c ≤ c + 768 := Nat.le_add_right _ _
        _ ≤ (c + 768) * 2 ^ (r + 1) := Nat.le_mul_of_pos_right _ (Nat.pow_pos (by decide))
    · have h := growBy_le n r (c + (c + 768) / 4)
      have h2 : c + (c + 768) / 4 + 768 ≤ (c + 768) * 2 := by omega
      calc _ ≤ _ := h
        _ ≤ (c + 768) * 2 * 2 ^ r := Nat.mul_le_mul_right _ h2
        _ = (c + 768) * 2 ^ (r + 1) := by rw [Nat.mul_assoc, Nat.pow_succ, Nat.mul_comm 2]

theorem nextslicecap_le {need old : Nat} (h1 : need < 16777216) (h2 : old < need) : Builtin.nextslicecap need old ≤ 536870912 := by
  have h3 := growBy_le need 4 old
  have e : (2 : Nat) ^ 4 = 16 := by decide
  rw [e] at h3
  clear e
  unfold Builtin.nextslicecap
  by_cases c1 : need > 2 * old
  · rw [if_pos c1]; exact Nat.le_trans (Nat.le_of_lt h1) (by decide)
  · rw [if_neg c1]
    by_cases c2 : old < 256
    · rw [if_pos c2]; exact Nat.le_trans (Nat.mul_le_mul_left 2 (Nat.le_of_lt c2)) (by decide)
    · rw [if_neg c2]
      refine Nat.le_trans h3 (Nat.le_trans (Nat.mul_le_mul_right 16 (Nat.add_le_add_right (Nat.le_of_lt (Nat.lt_trans h2 h1)) 768)) (by decide))

section
variable {N : Nat} {ν : Nat → Int} {ρ : Rho} {E : Env} {w0 w : World}

/-- A block known under a new number. -/
theorem HR.move {w' : World} {hp : Tr AObj} {nx id r c : Nat} {o o' : AObj} {ob : Obj} (h : HR N ν w0 ρ hp nx w) (hid : ρ id = some (r, c)) (hl : getP (path id) hp = some o) (hN : N ≤ r)
    (hw : SetW w w' r ob) (ho : OR' N ν ρ r c o' ob) : HR N ν w0 (extR ρ nx r c) (putT (some o') (path nx) (putT none (path id) hp)) (nx + 1) w' := by
  have hx := extR_ext h r c
  have hr := h.lt id r c hid
  have hsz : w'.heap.size = w.heap.size := by rw [hw.heap]; simp
  have hold : ∀ k, k ≠ r → w'.heap[k]? = w.heap[k]? := fun k hk => by rw [hw.heap, Array.getElem?_setIfInBounds_ne (Ne.symm hk)]
  have hlive : ∀ i o, i ≠ nx → getP (path i) (putT (some o') (path nx) (putT none (path id) hp)) = some o → i ≠ id ∧ getP (path i) hp = some o := by
    intro i o hi h1
    rw [get_putN, if_neg hi, get_putN] at h1
    by_cases hj : i = id
    · rw [if_pos hj] at h1; cases h1
    · rw [if_neg hj] at h1; exact ⟨hj, h1⟩
  refine ⟨?_, ?_, ?_, ?_, ?_, ?_⟩
  · intro i o2 r2 c2 h1 h2
    unfold extR at h2
    by_cases hi : i = nx
    · rw [if_pos hi] at h2
      rw [get_putN, if_pos hi] at h1
      cases h1; cases h2
      exact ⟨ob, by rw [hw.heap]; simp [hr], ho.mono hx⟩
    · rw [if_neg hi] at h2
      obtain ⟨k1, k2⟩ := hlive i o2 hi h1
      have hne : r2 ≠ r := fun e => k1 (h.inj i id o2 o r c2 c k2 hl (by rw [h2, e]) hid)
      obtain ⟨ob', h3, h4⟩ := h.live i o2 r2 c2 k2 h2
      exact ⟨ob', by rw [hold r2 hne]; exact h3, h4.mono hx⟩
  · intro i r2 c2 h2
    unfold extR at h2
    rw [hsz]
    by_cases hi : i = nx
    · rw [if_pos hi] at h2; cases h2; exact hr
    · rw [if_neg hi] at h2; exact h.lt i r2 c2 h2
  · intro i j o1 o2 r2 c1 c2 h1 h2 h3 h4
    unfold extR at h3 h4
    by_cases hi : i = nx <;> by_cases hj : j = nx
    · rw [hi, hj]
    · rw [if_pos hi] at h3; rw [if_neg hj] at h4
      cases h3
      obtain ⟨k1, k2⟩ := hlive j o2 hj h2
      exact absurd (h.inj j id o2 o _ c2 _ k2 hl h4 hid) k1
    · rw [if_neg hi] at h3; rw [if_pos hj] at h4
      cases h4
      obtain ⟨k1, k2⟩ := hlive i o1 hi h1
      exact absurd (h.inj i id o1 o _ c1 _ k2 hl h3 hid) k1
    · rw [if_neg hi] at h3; rw [if_neg hj] at h4
      obtain ⟨_, k2⟩ := hlive i o1 hi h1
      obtain ⟨_, k4⟩ := hlive j o2 hj h2
      exact h.inj i j o1 o2 r2 c1 c2 k2 k4 h3 h4
  · intro i hi
    unfold extR
    rw [if_neg (by omega)]
    exact h.fresh i (by omega)
  · exact h.below.trans ⟨hw.os, hw.tape, hw.output, by omega, fun k hk => hold k (by omega)⟩
  · rw [hsz]; exact h.base

variable (hE : EnvOK E)
include hE

/-- The cells of a slice, loaded. -/
theorem load_ok {hp : Tr AObj} {nx id r c off m : Nat} {l l2 : List AV} {e : TypeId} {wr : Bool} {g : Nat} (h : HR N ν w0 ρ hp nx w) (hid : ρ id = some (r, c))
    (hl : getP (path id) hp = some (.cells l e wr g)) (ht : takeO m (l.drop off) = some l2) :
    ∃ cs : Array Value, (∀ w1 : World, w1.heap = w.heap → (loadCells ⟨r, off, none⟩ m).run E.P w1 = .ok cs w1) ∧ VRs ν ρ l2 cs.toList ∧ Sc cs.toList ∧ l2.length = m := by
  have hlen : l2.length = m := by
    unfold takeO at ht
    split at ht
    · cases ht; rw [List.length_take]; omega
    · cases ht
  obtain ⟨ob, h1, h2⟩ := h.live id _ r c hl hid
  obtain ⟨cs, fz, rfl, hp', _⟩ := h2
  rcases sub_ok hp' ht with ⟨k, sc, hle⟩ | ⟨rfl, rfl⟩
  · refine ⟨((cs.toList.drop off).take m).toArray, fun w1 hw1 => ?_, by simpa using k, by simpa using sc, hlen⟩
    have hlen2 : ((cs.toList.drop off).take m).length = m := by simp at hle ⊢; omega
    have := run_loadCells_list (P := E.P) w1 ⟨r, off, none⟩ ((cs.toList.drop off).take m) (fun j x hx => by
      rw [addr_add]
      rw [List.getElem?_take] at hx
      split at hx
      · rw [List.getElem?_drop] at hx
        simp only [World.cell?, hw1, h1, Option.isSome_none, Bool.false_eq_true, if_false]
        simpa using hx
      · cases hx)
    rwa [hlen2] at this
  · exact ⟨#[], fun w1 _ => by simp [loadCells, loadCellsFrom], VRs_nil.2 rfl, Sc.nil, rfl⟩

/-- What is appended, wherever the capacity has been drawn. -/
theorem added_ok {hp : Tr AObj} {nx : Nat} {e : TypeId} {size n : Nat} {new : List AV} {x : AV} {xv : Value} (hh : HR N ν w0 ρ hp nx w) (hx : VR ν ρ x xv)
    (h : (addedF E e size false).run hp x = some (n, new)) :
    (∀ w1, (Builtin.lenOf xv).run E.P w1 = .ok n w1) ∧ new.length = n * size ∧
      ∃ arr : Array Value, (∀ w1 : World, w1.heap = w.heap → (Builtin.firstCells size n xv).run E.P w1 = .ok arr w1) ∧ VRs ν ρ new arr.toList ∧ Sc arr.toList := by
  simp only [addedF] at h
  split at h
  · cases h
    obtain rfl := VR_nslice.1 hx
    exact ⟨fun _ => rfl, by simp, #[], fun _ _ => rfl, VRs_nil.2 rfl, Sc.nil⟩
  · rename_i m v
    split at h
    · rename_i hs
      have hs := beq_true hs
      subst hs
      rw [byteCellsK_eq] at h
      cases h
      obtain ⟨rfl, hv⟩ := VR_str.1 hx
      have key : ∀ (b : ByteArray) k, b.size = k → b.extract 0 k = b := by intro b k h; subst h; simp
      have harr : ((strOf n v).extract 0 n).data.map (fun b => Value.int .u8 (b.toNat : Int)) = ((bytesOf n v).map fun b => Value.int .u8 (b.toNat : Int)).toArray := by
        apply Array.ext'
        rw [key _ _ (strOf_size n v), Array.toList_map]
        simp [strOf]
      refine ⟨fun w1 => ?_, by simp [bytesOf_length], ((bytesOf n v).map fun b => Value.int .u8 (b.toNat : Int)).toArray, fun w1 _ => ?_, ?_, ?_⟩
      · simp [Builtin.lenOf, strOf_size]
      · simp only [Builtin.firstCells, Sem.run_pure]
        rw [harr]
      · exact byteCells_VRs _
      · exact byteCells_Sc _
    · cases h
  · rename_i id off len cap ex
    split at h
    · rename_i l el wr g hb
      rw [frc_eq] at h
      simp only [takeK_eq, dropN_eq] at h
      split at h
      · rename_i l2 hl
        cases h
        obtain ⟨r, c, off', cap', hr, hs, rfl⟩ := VR_slice.1 hx
        have hlen : new.length = n * size := by
          unfold takeO at hl
          split at hl
          · cases hl; rw [List.length_take]; simp only [List.length_drop] at *; have : Nat.mul n size = n * size := rfl; omega
          · cases hl
        refine ⟨fun _ => rfl, hlen, ?_⟩
        by_cases h0 : n * size = 0
        · have hn : new = [] := List.eq_nil_of_length_eq_zero (by omega)
          subst hn
          exact ⟨#[], fun w1 _ => by simp [Builtin.firstCells, h0, loadCells, loadCellsFrom], VRs_nil.2 rfl, Sc.nil⟩
        · have hoff : off' = off := by
            cases ex with
            | true => exact (hs.2.1 rfl).1
            | false =>
              rcases (hs.2.2 rfl).2.1 with h | h
              · exact h
              · have := hs.1
                have : n = 0 := by omega
                subst this; simp at h0
          subst hoff
          obtain ⟨cs, h1, h2, h3, _⟩ := load_ok (E := E) hE hh hr hb hl
          exact ⟨cs, fun w1 hw1 => h1 w1 hw1, h2, h3⟩
      · cases h
    · cases h
  · cases h

end
end Pk
/- The abstract run is sound: append, joined. -/
namespace Pk
open Go Go.RowKit

section
variable {N : Nat} {ν : Nat → Int} {ρ : Rho} {E : Env} {w0 w : World} {s : St}
variable (hE : EnvOK E)

/-- What is appended, as append asks for it. -/
structure AddOk (E : Env) (ν : Nat → Int) (ρ : Rho) (ts : Array TypeId) (e : TypeId) (size : Nat) (w : World) (xv : Value) (n : Nat) (new : List AV) : Prop where
  len : new.length = n * size
  /-- in place -/
  inPlace : ∃ arr : Array Value, VRs ν ρ new arr.toList ∧ Sc arr.toList ∧
    (∀ (args : Array Value) (ty t : TypeId) (base : Option Addr) (sLen sCap : Nat) (i : TypeInfo), ts[0]? = some t → und E t = some (.slice e) → args[0]? = some (.slice base sLen sCap) → args[1]? = some xv → infoA E e = some i → i.size = size → i.bytes < 65536 → sLen + n ≤ sCap →
      ∀ r, ((match base with | some a => storeCells (a.add (sLen * size)) arr.toList | none => pure ()) : Sem Unit).run E.P w = .ok () r →
        (Builtin.append_ ts ty args).run E.P w = .ok (.slice base (sLen + n) sCap) r) ∧
    (∀ (args : Array Value) (ty t : TypeId) (base : Option Addr) (sLen sCap : Nat) (i : TypeInfo) (z : Value) (old : Array Value), ts[0]? = some t → und E t = some (.slice e) → args[0]? = some (.slice base sLen sCap) → args[1]? = some xv → infoA E e = some i → i.size = size →
      i.bytes < 65536 → sCap < sLen + n → sLen + n < 16777216 → (∀ w1 : World, w1.heap = w.heap → (Builtin.firstCells size sLen (.slice base sLen sCap)).run E.P w1 = .ok old w1) →
      (zeroValue e).run E.P w.drew = .ok z w.drew →
        ∃ c, sLen + n ≤ c ∧ (Builtin.append_ ts ty args).run E.P w = .ok (.slice (some ⟨w.heap.size, 0, none⟩) (sLen + n) c) (newW w.drew (.cells (old ++ arr ++ Builtin.zeroCells z.cells (c - (sLen + n))) e)))

include hE

theorem addOk_false {ts : Array TypeId} {t : TypeId} {l : List TypeId} {e : TypeId} {size n : Nat} {new : List AV} {x : AV} {xv : Value} (hts : ts.toList = t :: l) (hz : zerosT E l = some false)
    (hh : HR N ν w0 ρ s.hp s.nx w) (hx : VR ν ρ x xv) (h : (addedF E e size false).run s.hp x = some (n, new)) : AddOk E ν ρ ts e size w xv n new := by
  obtain ⟨h1, h2, arr, h3, h4, h5⟩ := added_ok hE hh hx h
  have hzr : ts[1]? = none ∨ ∃ u d, ts[1]? = some u ∧ und E u = some d ∧ ∀ k, d ≠ .int k := by
    have e1 : ts[1]? = l[0]? := by rw [← Array.getElem?_toList, hts]; rfl
    rw [e1]
    unfold zerosT at hz
    split at hz
    · exact .inl rfl
    · rename_i u l2
      split at hz
      · cases hz
      · rename_i d hd hu
        exact .inr ⟨u, d, rfl, hu, fun k e => hd k e⟩
      · cases hz
  refine ⟨h2, arr, h4, h5, ?_, ?_⟩
  · intro args ty t' base sLen sCap i k1 k2 k3 k4 ki kb kc k6 r hr
    have hsz : (Go.sizeOf e).run E.P w = .ok size w := by simp [Go.sizeOf, info_run hE ki, kb]
    have hfin : ((do
        let new ← Builtin.firstCells size n xv
        match base with
          | some a => do
            storeCells (a.add (sLen * size)) new.toList
            pure (Value.slice base (sLen + n) sCap)
          | _ => pure (Value.slice base (sLen + n) sCap)) : Sem Value).run E.P w = .ok (.slice base (sLen + n) sCap) r := by
      simp only [Sem.run_bind, h3 w rfl, Result.andThen_ok]
      cases base with
      | none => simp only [Sem.run_pure] at hr ⊢; cases hr; rfl
      | some a => simp only [Sem.run_bind, hr, Result.andThen_ok, Sem.run_pure]
    simp only [Builtin.append_, k1, k3, k4, Sem.run_bind, run_und hE k2, Result.andThen_ok, hsz]
    rcases hzr with e1 | ⟨u, d, e1, e2, e3⟩
    · simp only [e1, Sem.run_bind, Sem.run_pure, Result.andThen_ok, Bool.false_eq_true, if_false, h1, k6, if_true, Bool.not_false, h3 w rfl]
      simp only [Sem.run_bind, h3 w rfl, Result.andThen_ok] at hfin
      exact hfin
    · simp only [e1, Sem.run_bind, run_und hE e2, Result.andThen_ok]
      cases d with
      | int k => exact (e3 k rfl).elim
      | _ =>
        simp only [Sem.run_bind, Sem.run_pure, Result.andThen_ok, Bool.false_eq_true, if_false, h1, k6, if_true, Bool.not_false, h3 w rfl]
        simp only [Sem.run_bind, h3 w rfl, Result.andThen_ok] at hfin
        exact hfin
  · intro args ty t' base sLen sCap i z old k1 k2 k3 k4 k5 k6 k7 k8 k9 k10 k11
    have hsz : (Go.sizeOf e).run E.P w = .ok size w := by simp [Go.sizeOf, info_run hE k5, k6]
    have hb : ¬ Builtin.nextslicecap (sLen + n) sCap * i.bytes > 2 ^ 48 := Nat.not_lt.2 (
      Nat.le_trans (Nat.mul_le_mul (nextslicecap_le k9 k8) (Nat.le_of_lt k7)) (by decide))
    have hmax : ¬ (((sLen + n : Nat) : Int) > IntKind.i64.max) := by
      have e : IntKind.i64.max = 9223372036854775807 := by decide
      rw [e]; omega
    have hmax' : ¬ (((sLen + n : Nat) : Int) > IntKind.i64.max ∧ (False ∨ i.bytes = 0)) := fun h => hmax h.1
    have hcap : ¬ (sLen + n ≤ sCap) := Nat.not_le.2 k8
    have hch : (choose (.appendCap (sLen + n) sCap e)).run E.P w = .ok (Question.cut (.appendCap (sLen + n) sCap e) (w.tape w.drawn (.appendCap (sLen + n) sCap e))) w.drew := rfl
    have hin : (typeInfo e).run E.P w = .ok i w := info_run hE k5 w
    have hin2 : (typeInfo e).run E.P w.drew = .ok i w.drew := info_run hE k5 _
    refine ⟨Question.cut (.appendCap (sLen + n) sCap e) (w.tape w.drawn (.appendCap (sLen + n) sCap e)), ?_, ?_⟩
    · simp only [Question.cut]; omega
    · generalize Question.cut (.appendCap (sLen + n) sCap e) (w.tape w.drawn (.appendCap (sLen + n) sCap e)) = c at hch
      simp only [Builtin.append_, k1, k3, k4, Sem.run_bind, run_und hE k2, Result.andThen_ok, hsz]
      rcases hzr with e1 | ⟨u, d, e1, e2, e3⟩
      · simp only [e1, Sem.run_bind, Sem.run_pure, Result.andThen_ok, Bool.false_eq_true, if_false, h1, Bool.not_false, if_true, hcap, hin, hmax', hb, hch, hin2, run_askRoom, k10 _ (show w.drew.heap = w.heap from rfl), h3 _ (show w.drew.heap = w.heap from rfl), k11, run_newRow]
        rfl
      · simp only [e1, Sem.run_bind, run_und hE e2, Result.andThen_ok]
        cases d with
        | int k => exact (e3 k rfl).elim
        | _ =>
          simp only [Sem.run_bind, Sem.run_pure, Result.andThen_ok, Bool.false_eq_true, if_false, h1, Bool.not_false, if_true, hcap, hin, hmax', hb, hch, hin2, run_askRoom, k10 _ (show w.drew.heap = w.heap from rfl), h3 _ (show w.drew.heap = w.heap from rfl), k11, run_newRow]
          rfl

theorem addOk_true {ts : Array TypeId} {t : TypeId} {l : List TypeId} {e : TypeId} {size n : Nat} {new : List AV} {x : AV} {xv : Value} (hts : ts.toList = t :: l) (hz : zerosT E l = some true)
    (hh : HR N ν w0 ρ s.hp s.nx w) (hx : VR ν ρ x xv) (h : (addedF E e size true).run s.hp x = some (n, new)) : AddOk E ν ρ ts e size w xv n new := by
  simp only [addedF] at h
  split at h
  case h_2 => cases h
  rename_i z hzn
  simp only at h
  split at h
  case h_2 => cases h
  rename_i k m
  split at h
  case h_2 => cases h
  rename_i hlt
  have hlt := ble_false hlt
  rw [repK_eq] at h
  cases h
  have hx' : xv = .int k (n : Int) := VR_int.1 hx
  subst hx'
  have hzv : ∃ zv : Value, (∀ w1, (zeroValue e).run E.P w1 = .ok zv w1) ∧ z.length = size ∧ VRs ν ρ z zv.cells.toList ∧ Sc zv.cells.toList := by
    unfold zeroN at hzn
    split at hzn
    · rename_i z' hz'
      rw [lenK_eq] at hzn
      split at hzn
      · rename_i hb
        have hb := beq_true hb
        cases hzn
        obtain ⟨v, hv, hc⟩ := zeroC_ok hz'
        obtain ⟨v', h1, h2⟩ := zeroA_ok (ν := ν) (ρ := ρ) hE hv w
        have hc := cells_ok h2 hc
        refine ⟨v', fun w1 => ?_, by omega, hc⟩
        obtain ⟨v2, h3, h4⟩ := zeroA_ok (ν := ν) (ρ := ρ) hE hv w1
        have : v2 = v' := by
          simp only [zeroValue, Sem.run_bind] at h1 h3
          unfold zeroA at hv
          split at hv
          · rename_i ii hi
            simp only [info_run hE hi, Result.andThen_ok] at h1 h3
            split at hv
            · rename_i q hq
              simp only [hq, Sem.run_pure] at h1 h3
              cases h1; cases h3; rfl
            · cases hv
          · cases hv
        rw [this] at h3; exact h3
      · cases hzn
    · cases hzn
  obtain ⟨zv, hzr, hzl, hzc, hzs⟩ := hzv
  have hzsz : zv.cells.size = size := by rw [← Array.length_toList, hzc.length, hzl]
  have hzT : ∃ u k', ts[1]? = some u ∧ und E u = some (.int k') := by
    have e1 : ts[1]? = l[0]? := by rw [← Array.getElem?_toList, hts]; rfl
    rw [e1]
    unfold zerosT at hz
    split at hz
    · cases hz
    · rename_i u l2
      split at hz
      · rename_i k' hu; exact ⟨u, k', rfl, hu⟩
      · cases hz
      · cases hz
  obtain ⟨u, k', e1, e2⟩ := hzT
  have w1 : IntKind.i64.wrap (n : Int) = n := wrap_range (by simp [IntKind.min, IntKind.signed, IntKind.bits] <;> omega) (by simp [IntKind.max, IntKind.signed, IntKind.bits] <;> omega)
  have hneg : ¬ ((n : Int) < 0) := by omega
  let arr : Array Value := if n * size = 0 then #[] else Builtin.zeroCells zv.cells n
  have harr : arr.toList = (List.replicate n zv.cells.toList).flatten := by
    simp only [arr]
    by_cases h0 : n * size = 0
    · rw [if_pos h0]
      rcases Nat.mul_eq_zero.1 h0 with rfl | h
      · rfl
      · have : zv.cells.toList = [] := List.eq_nil_of_length_eq_zero (by rw [Array.length_toList]; omega)
        rw [this]; simp
    · rw [if_neg h0]; exact rep_range _ _ _ rfl
  have happ : ∀ w1, ((if n * size = 0 then pure #[] else do let __do_lift ← zeroValue e; pure (Builtin.zeroCells __do_lift.cells n)) : Sem (Array Value)).run E.P w1 = .ok arr w1 := by
    intro w1
    simp only [arr]
    by_cases h0 : n * size = 0
    · rw [if_pos h0, if_pos h0]; rfl
    · rw [if_neg h0, if_neg h0]; simp only [Sem.run_bind, hzr, Result.andThen_ok, Sem.run_pure]
  refine ⟨?_, arr, by rw [harr]; exact hzc.replicate n, ?_, ?_, ?_⟩
  · simp [hzl]
  · rw [harr]
    intro x hx
    obtain ⟨l, hl, hx⟩ := List.mem_flatten.1 hx
    rw [(List.mem_replicate.1 hl).2] at hx
    exact hzs x hx
  · intro args ty t' base sLen sCap i k1 k2 k3 k4 ki kb kc k6 r hr
    have hsz : (Go.sizeOf e).run E.P w = .ok size w := by simp [Go.sizeOf, info_run hE ki, kb]
    have hmul : n * i.bytes ≤ 4294967296 := Nat.le_trans (Nat.mul_le_mul (show n ≤ 65536 by omega) (show i.bytes ≤ 65536 by omega)) (by decide)
    have hbig : ¬ ((n : Int) * (i.bytes : Int) > 2 ^ 48) := by
      have := Int.ofNat_le.2 hmul
      rw [Int.natCast_mul] at this
      omega
    have hin : (typeInfo e).run E.P w = .ok i w := info_run hE ki w
    simp only [Builtin.append_, k1, k3, k4, Sem.run_bind, run_und hE k2, Result.andThen_ok, hsz, e1, run_und hE e2, Sem.run_pure, if_true, asInt, asIntOf, w1, hneg, if_false, hin, hbig, Int.toNat_natCast, k6, Bool.not_true, Bool.false_eq_true, happ]
    cases base with
    | none => simp only [Sem.run_pure] at hr ⊢; cases hr; rfl
    | some a => simp only [Sem.run_bind, hr, Result.andThen_ok, Sem.run_pure]
  · intro args ty t' base sLen sCap i z old k1 k2 k3 k4 k5 k6 k7 k8 k9 k10 k11
    have hsz : (Go.sizeOf e).run E.P w = .ok size w := by simp [Go.sizeOf, info_run hE k5, k6]
    have hmul : n * i.bytes ≤ 4294967296 := Nat.le_trans (Nat.mul_le_mul (show n ≤ 65536 by omega) (show i.bytes ≤ 65536 by omega)) (by decide)
    have hbig : ¬ ((n : Int) * (i.bytes : Int) > 2 ^ 48) := by
      have := Int.ofNat_le.2 hmul
      rw [Int.natCast_mul] at this
      omega
    have hb : ¬ Builtin.nextslicecap (sLen + n) sCap * i.bytes > 2 ^ 48 := Nat.not_lt.2 (
      Nat.le_trans (Nat.mul_le_mul (nextslicecap_le k9 k8) (Nat.le_of_lt k7)) (by decide))
    have hmax : ¬ (((sLen + n : Nat) : Int) > IntKind.i64.max) := by
      have e : IntKind.i64.max = 9223372036854775807 := by decide
      rw [e]; omega
    have hmax' : ¬ (((sLen + n : Nat) : Int) > IntKind.i64.max ∧ (True ∨ i.bytes = 0)) := fun h => hmax h.1
    have hcap : ¬ (sLen + n ≤ sCap) := Nat.not_le.2 k8
    have hch : (choose (.appendCap (sLen + n) sCap e)).run E.P w = .ok (Question.cut (.appendCap (sLen + n) sCap e) (w.tape w.drawn (.appendCap (sLen + n) sCap e))) w.drew := rfl
    have hin : (typeInfo e).run E.P w = .ok i w := info_run hE k5 w
    have hin2 : (typeInfo e).run E.P w.drew = .ok i w.drew := info_run hE k5 _
    refine ⟨Question.cut (.appendCap (sLen + n) sCap e) (w.tape w.drawn (.appendCap (sLen + n) sCap e)), ?_, ?_⟩
    · simp only [Question.cut]; omega
    · generalize Question.cut (.appendCap (sLen + n) sCap e) (w.tape w.drawn (.appendCap (sLen + n) sCap e)) = c at hch
      simp only [Builtin.append_, k1, k3, k4, Sem.run_bind, run_und hE k2, Result.andThen_ok, hsz, e1, run_und hE e2, Sem.run_pure, if_true, asInt, asIntOf, w1, hneg, if_false, hin, hbig, Int.toNat_natCast, Bool.not_true, Bool.false_eq_true, hcap, hmax', hb, hch, hin2, run_askRoom, k10 _ (show w.drew.heap = w.heap from rfl), happ, k11, run_newRow]
      rfl

end
end Pk
/- The abstract run is sound: append, joined. -/
namespace Pk
open Go Go.RowKit

section
variable {N : Nat} {ν : Nat → Int} {ρ : Rho} {E : Env} {w0 w : World} {s : St}
variable (hE : EnvOK E) {a : Act} (ht : TR ν ρ s.tm a.tmps) (hh : HR N ν w0 ρ s.hp s.nx w) {o : Oper} {r : OR}
include hE ht hh

/-- A new block for what was there and what comes. -/
theorem grow_ok {ts : Array TypeId} {args : Array Value} {e t : TypeId} {size n : Nat} {new old : List AV} {xv : Value} {i : TypeInfo} {z : List AV} {base : Option Addr} {sLen sCap : Nat} {oldc : Array Value}
    (had : AddOk E ν ρ ts e size w xv n new) (k1 : ts[0]? = some t) (k2 : und E t = some (.slice e)) (k3 : args[0]? = some (.slice base sLen sCap)) (k4 : args[1]? = some xv)
    (k5 : infoA E e = some i) (k6 : i.size = size) (k7 : i.bytes < 65536) (hz : zeroN E e size = some z) (k8 : sCap < sLen + n) (k9 : sLen + n < 16777216)
    (k10 : ∀ w1 : World, w1.heap = w.heap → (Builtin.firstCells size sLen (.slice base sLen sCap)).run E.P w1 = .ok oldc w1) (ho : VRs ν ρ old oldc.toList) (hs : Sc oldc.toList) (hl : old.length = sLen * size) (ty : TypeId) :
    ∃ c ob w', sLen + n ≤ c ∧ (Builtin.append_ ts ty args).run E.P w = .ok (.slice (some ⟨w.heap.size, 0, none⟩) (sLen + n) c) w' ∧ NewW w w' ob ∧ OR' N ν ρ w.heap.size c (.cells (old ++ new) e true size) ob := by
  obtain ⟨hlen, arr, hv, sc, _, hgrow⟩ := had
  obtain ⟨hzl, zv, hz1, hz2, hz3⟩ := zeroN_ok (a := a) hE ht hh hz w.drew
  obtain ⟨c, hc, hr⟩ := hgrow args ty t base sLen sCap i zv oldc k1 k2 k3 k4 k5 k6 k7 k8 k9 k10 hz1
  refine ⟨c, _, _, hc, hr, ⟨rfl, rfl, rfl, rfl⟩, ?_⟩
  have hzsz : zv.cells.size = size := by rw [← Array.length_toList, hz2.length, hzl]
  have hol : oldc.toList.length = sLen * size := by rw [ho.length, hl]
  have hal : arr.toList.length = n * size := by rw [hv.length, hlen]
  have htot : (oldc.toList ++ arr.toList).length = (sLen + n) * size := by rw [List.length_append, hol, hal, Nat.add_mul]
  refine ⟨_, (0, 0), rfl, ⟨?_, ?_, ?_⟩, fun _ => ⟨hh.base, .inl rfl⟩, fun _ => ⟨?_, .inl rfl⟩⟩
  · simp only [Array.toList_append, List.length_append] at *
    omega
  · have : (old ++ new).length = (oldc.toList ++ arr.toList).length := by simp only [List.length_append]; omega
    rw [this]
    simp only [Array.toList_append]
    rw [List.take_left]
    exact ho.append hv
  · have : (old ++ new).length = (oldc.toList ++ arr.toList).length := by simp only [List.length_append]; omega
    rw [this]
    simp only [Array.toList_append]
    rw [List.take_left]
    exact hs.append sc
  · have hzc : (Builtin.zeroCells zv.cells (c - (sLen + n))).size = (c - (sLen + n)) * size := by simp [Builtin.zeroCells, hzsz]
    rw [Array.size_append, Array.size_append, hzc]
    have e1 : oldc.size = sLen * size := by rw [← Array.length_toList, hol]
    have e2 : arr.size = n * size := by rw [← Array.length_toList, hal]
    rw [e1, e2, ← Nat.add_mul, ← Nat.add_mul]
    congr 1
    omega

theorem aAppend_ok {ts : Array TypeId} {xs : Array Operand} {x y : Operand} {I : IH} {rnd : Option Nat} (hxs : xs.toList = [x, y])
    (ho : execOp a.eval o = (do pure (.value (← Builtin.append_ ts o.type (xs.map a.eval))) : Sem Next)) (h : (appendF E ts.toList x y).run I rnd s = some r) :
    AOk E N ν w0 ρ s a o w r := by
  have k3 : (xs.map a.eval)[0]? = some (a.eval x) := by rw [← Array.getElem?_toList, Array.toList_map, hxs]; rfl
  have k4 : (xs.map a.eval)[1]? = some (a.eval y) := by rw [← Array.getElem?_toList, Array.toList_map, hxs]; rfl
  have hex : ∀ v w', (Builtin.append_ ts o.type (xs.map a.eval)).run E.P w = .ok v w' → (execOp a.eval o).run E.P w = .ok (.value v) w' := by
    intro v w' e
    rw [ho]
    simp only [Sem.run_bind, e, Result.andThen_ok, Sem.run_pure]
  generalize hts : ts.toList = tl at h
  unfold appendF at h
  split at h
  · cases h
  rename_i t l
  have k1 : ts[0]? = some t := by rw [← Array.getElem?_toList, hts]; rfl
  split at h
  case h_2 => cases h
  rename_i e k2
  split at h
  case h_2 => cases h
  rename_i i k5
  split at h
  case h_2 => cases h
  rename_i zs z hb1 hb2 hzs hz
  have k7 := ble_false hb1
  simp only at h
  split at h
  case h_2 => cases h
  rename_i xa hy
  split at h
  case h_2 => cases h
  rename_i n new hadd
  split at h
  case h_2 => cases h
  rename_i av hx
  have ey := evF_ok ht hy
  have ex := evF_ok ht hx
  have had : AddOk E ν ρ ts e i.size w (a.eval y) n new := by
    cases zs with
    | false => exact addOk_false hE hts hzs hh ey hadd
    | true => exact addOk_true hE hts hzs hh ey hadd
  obtain ⟨hlen, arr, hv, sc, hin, hgr⟩ := had
  have had : AddOk E ν ρ ts e i.size w (a.eval y) n new := ⟨hlen, arr, hv, sc, hin, hgr⟩
  unfold appendTo at h
  split at h
  · -- no slice yet
    rw [VR_nslice.1 ex] at k3
    split at h
    · cases h
      have := hin (xs.map a.eval) o.type t none 0 0 i k1 k2 k3 k4 k5 rfl k7 (Nat.le_refl _) w rfl
      exact AOk.same (hex _ _ this) (VR_nslice.2 rfl) hh
    · rename_i n
      unfold growNew at h
      split at h
      case h_2 => cases h
      rename_i hb
      have hb := ble_false hb
      rw [newK_eq] at h
      cases h
      obtain ⟨c, ob, w', q1, q2, q3, q4⟩ := grow_ok (a := a) (old := []) (oldc := #[]) (sLen := 0) (sCap := 0) hE ht hh had k1 k2 k3 k4 k5 rfl k7 hz (by omega) (by omega) (fun _ _ => rfl) (VRs_nil.2 rfl) Sc.nil (by simp) o.type
      rw [Nat.zero_add] at q1 q2
      exact ⟨extR ρ s.nx w.heap.size c, _, _, w', hex _ _ q2, .inl rfl, VR_slice.2 ⟨w.heap.size, c, 0, c, by simp [extR], ⟨Nat.le_refl _, fun h => (by cases h), fun _ => ⟨q1, .inl rfl, fun _ _ => rfl⟩⟩, rfl⟩, hh.new q3 q4, Grow.new hh _ _, rfl, rfl, rfl⟩
  · rename_i id off len cap exx
    obtain ⟨b, c, off', cap', hbc, hs, ev⟩ := VR_slice.1 ex
    rw [ev] at k3
    rw [frc_eq] at h
    have hcc : cap ≤ cap' := by
      cases exx with
      | true => rw [(hs.2.1 rfl).2]; exact Nat.le_refl _
      | false => exact (hs.2.2 rfl).1
    split at h
    · rename_i hle
      have hle : len + n ≤ cap := Nat.le_of_ble_eq_true hle
      have hin := hin (xs.map a.eval) o.type t _ len cap' i k1 k2 k3 k4 k5 rfl k7 (Nat.le_trans hle hcc)
      have hvr : VR ν ρ (.slice id off (len + n) cap exx) (.slice (some ⟨b, off', none⟩) (len + n) cap') := VR_slice.2 ⟨b, c, off', cap', hbc, ⟨hle, hs.2.1, hs.2.2⟩, rfl⟩
      split at h
      · cases h
        have hnil : arr.toList = [] := List.eq_nil_of_length_eq_zero (by rw [hv.length, hlen]; simp)
        have := hin w (by rw [hnil]; rfl)
        exact AOk.same (hex _ _ this) hvr hh
      · rename_i n
        split at h
        case h_2 => cases h
        rename_i l' e' g hb
        rw [frc_eq, layK_eq] at h
        split at h
        case h_2 => cases h
        rename_i l2 hl
        rw [setObjK_eq] at h
        cases h
        have hoff : off' = off := by
          cases exx with
          | true => exact (hs.2.1 rfl).1
          | false =>
            rcases (hs.2.2 rfl).2.1 with h | h
            · exact h
            · omega
        subst hoff
        obtain ⟨w', h1, h2⟩ := HR.lay (E := E) hh hbc hb hv sc hl
        have := hin w' (by simp only [addr_add]; exact h1)
        exact ⟨ρ, _, _, w', hex _ _ this, .inl rfl, hvr, h2, Grow.refl _ _, rfl, rfl, rfl⟩
    · rename_i hle
      have hle : cap < len + n := ble_false hle
      split at h
      case h_2 => cases h
      rename_i l' e' wr g hb
      rw [frc_eq] at h
      simp only [takeK_eq, dropN_eq] at h
      split at h
      case h_1 => cases h
      rename_i old hold
      rw [appK_eq] at h
      cases exx with
      | true =>
        obtain ⟨rfl, rfl⟩ := hs.2.1 rfl
        simp only at h
        unfold growNew at h
        split at h
        case h_2 => cases h
        rename_i hb2
        have hb2 := ble_false hb2
        rw [newK_eq] at h
        cases h
        obtain ⟨oldc, h1, h2, h3, h4⟩ := load_ok (E := E) hE hh hbc hb hold
        obtain ⟨cc, ob, w', q1, q2, q3, q4⟩ := grow_ok (a := a) (old := old) (oldc := oldc) hE ht hh had k1 k2 k3 k4 k5 rfl k7 hz hle hb2 h1 h2 h3 h4 o.type
        exact ⟨extR ρ s.nx w.heap.size cc, _, _, w', hex _ _ q2, .inl rfl, VR_slice.2 ⟨w.heap.size, cc, 0, cc, by simp [extR], ⟨Nat.le_refl _, fun h => (by cases h), fun _ => ⟨q1, .inl rfl, fun _ _ => rfl⟩⟩, rfl⟩, hh.new q3 q4, Grow.new hh _ _, rfl, rfl, rfl⟩
      | false =>
        simp only at h
        split at h
        case h_2 => cases h
        split at h
        case h_2 => cases h
        rename_i hg hcap1 hsz1 hee
        have hg := beq_true hg
        have hcap1 := Nat.le_of_ble_eq_true hcap1
        have hsz1 := Nat.le_of_ble_eq_true hsz1
        have hee := beq_true hee
        subst hg; subst hee
        obtain ⟨g1, g2, g3⟩ := hs.2.2 rfl
        have hoff : off' = 0 := by
          rcases g2 with h | h
          · exact h
          · omega
        subst hoff
        have hcc2 : cap' = c := g3 rfl (by omega)
        subst hcc2
        unfold growOr at h
        split at h
        case h_2 => cases h
        rename_i hb2
        have hb2 : len + n < 16777216 := ble_false hb2
        simp only [putP_eq, newK_eq] at h
        cases h
        by_cases hpl : len + n ≤ cap'
        · -- in its place
          obtain ⟨ob, h1, cs, fz, rfl, hp', hw, hgg⟩ := hh.live id _ b cap' hb hbc
          obtain ⟨hN, _⟩ := hw rfl
          obtain ⟨hcs, hfz⟩ := hgg (by omega)
          have hal : arr.toList.length = n * i.size := by rw [hv.length, hlen]
          have hol : old.length = len * i.size := by
            unfold takeO at hold
            split at hold
            · cases hold; rw [List.length_take]; have : Nat.mul len i.size = len * i.size := rfl; omega
            · cases hold
          have hmul : (len + n) * i.size ≤ cap' * i.size := Nat.mul_le_mul_right _ hpl
          have hadd : len * i.size + n * i.size = (len + n) * i.size := (Nat.add_mul _ _ _).symm
          obtain ⟨w', cs', e1, e2, e3⟩ := run_storeCells_list (P := E.P) (r := b) (e := e) (fz := fz) arr.toList (0 + len * i.size) 0 cs w sc h1 (by omega) (fun j h1 h2 => by
            rcases hfz with h | h
            · omega
            · omega)
          have := hin (xs.map a.eval) o.type t _ len cap' i k1 k2 k3 k4 k5 rfl k7 hpl w' (by simp only [addr_add]; exact e1)
          have hcl : cs'.toList.length = cs.toList.length := by
            rw [e3]; simp only [List.length_append, List.length_take, List.length_drop, Array.length_toList, Nat.zero_add, Nat.add_zero] at *; omega
          have htk : cs'.toList.take (old ++ new).length = cs.toList.take (len * i.size) ++ arr.toList := by
            rw [e3]
            simp only [Nat.zero_add, Nat.add_zero]
            have : (old ++ new).length = (cs.toList.take (len * i.size) ++ arr.toList).length := by
              simp only [List.length_append, List.length_take, Array.length_toList] at *; omega
            rw [this, List.take_left]
          have hold2 : VRs ν ρ old (cs.toList.take (len * i.size)) ∧ Sc (cs.toList.take (len * i.size)) := by
            rcases sub_ok hp' hold with ⟨k, sc, _⟩ | ⟨h0, rfl⟩
            · simpa using And.intro k sc
            · have h0 : len * i.size = 0 := h0
              rw [h0]; exact ⟨VRs_nil.2 (by simp), by simpa using Sc.nil⟩
          refine ⟨extR ρ s.nx b cap', _, _, w', hex _ _ this, .inl rfl, VR_slice.2 ⟨b, cap', 0, cap', by simp [extR], ⟨Nat.le_refl _, fun h => (by cases h), fun _ => ⟨hpl, .inl rfl, fun _ _ => rfl⟩⟩, rfl⟩,
            hh.move hbc hb hN e2 ⟨cs', fz, rfl, ⟨?_, ?_, ?_⟩, fun _ => ⟨hN, ?_⟩, fun _ => ⟨?_, ?_⟩⟩, Grow.new hh _ _, rfl, rfl, rfl⟩
          · rw [hcl]; simp only [List.length_append, Array.length_toList] at *; omega
          · rw [htk]; exact hold2.1.append hv
          · rw [htk]; exact hold2.2.append sc
          · rcases hfz with h | h
            · exact .inl h
            · right; simp only [List.length_append] at *; omega
          · simp only [Array.length_toList] at hcl; omega
          · simp only [Array.length_toList] at hcl; rw [hcl]; exact hfz
        · obtain ⟨oldc, h1, h2, h3, h4⟩ := load_ok (E := E) hE hh hbc hb hold
          obtain ⟨cc, ob, w', q1, q2, q3, q4⟩ := grow_ok (a := a) (old := old) (oldc := oldc) hE ht hh had k1 k2 k3 k4 k5 rfl k7 hz (by omega) hb2 h1 h2 h3 h4 o.type
          exact ⟨extR ρ s.nx w.heap.size cc, _, _, w', hex _ _ q2, .inl rfl, VR_slice.2 ⟨w.heap.size, cc, 0, cc, by simp [extR], ⟨Nat.le_refl _, fun h => (by cases h), fun _ => ⟨q1, .inl rfl, fun _ _ => rfl⟩⟩, rfl⟩, (hh.kill id).new q3 q4, Grow.new hh _ _, rfl, rfl, rfl⟩
  · cases h

end
end Pk
/- The abstract run is sound: the operations that act by themselves, all. -/
namespace Pk
open Go Go.RowKit

/-- Does the operation act by itself (no call, no deferred call, no recover)? -/
def alone (op : Op) : Bool := match op with
  | .defer _ => false
  | .call ⟨.builtin b, _, _⟩ => match b with
    | .recover => false
    | _ => true
  | .call _ => false
  | _ => true

section
variable {N : Nat} {ν : Nat → Int} {ρ : Rho} {E : Env} {w0 w : World} {s : St}
variable (hE : EnvOK E) {a : Act} (ht : TR ν ρ s.tm a.tmps) (hh : HR N ν w0 ρ s.hp s.nx w) {o : Oper} {r : OR} {I : IH} {rnd : Option Nat}
include hE ht hh

theorem actor_ok (hal : alone o.op = true) (h : (actor E o.op).run I rnd s = some r) : AOk E N ν w0 ρ s a o w r := by
  generalize ho : o.op = op at h hal
  unfold actor at h
  split at h
  · rename_i x
    simp only [assignF] at h
    split at h
    · rename_i v hx
      cases h
      exact AOk.same (by rw [execOp, ho]; rfl) (evF_ok ht hx) hh
    · cases h
  · exact aStore_ok hE ht hh ho h
  · exact aMapUpd_ok hE ht hh (by rw [execOp, ho]) h
  · exact aMapUpd_ok hE ht hh (by rw [execOp, ho]) h
  · exact aMapEnt_ok hE ht hh ho h
  · exact aEntStore_ok hE ht hh ho h
  · exact aRange_ok hE ht hh ho h
  · exact aNext_ok hE ht hh ho h
  · exact aEntry_ok hE ht hh ho h
  · exact aPanic_ok hE ht hh (by rw [execOp, ho]; dsimp only; rw [Sem.run_bind]; rfl) h
  · cases hal
  · rename_i b xs ts
    have hex : ∀ s : Sem Value, (∀ c, builtin b ts o.type c (xs.map a.eval) = (do pure (.value (← s)) : Sem Next)) → execOp a.eval o = (do pure (.value (← s)) : Sem Next) := by
      intro s e
      rw [execOp, ho]
      exact e _
    unfold builtinF at h
    split at h
    · split at h
      · rename_i x y hxs
        exact aAppend_ok hE ht hh hxs (hex _ fun _ => rfl) h
      · cases h
    · split at h
      · rename_i m k t l hxs hts
        exact aDel_ok hE ht hh hxs hts (hex _ fun _ => rfl) h
      · cases h
    · split at h
      · rename_i x t l hxs hts
        exact aClear_ok hE ht hh hxs hts (hex _ fun _ => rfl) h
      · cases h
    · split at h
      · rename_i x hxs
        have hx0 : (xs.map a.eval).getD 0 .nilIface = a.eval x := by
          have : (xs.map a.eval)[0]? = some (a.eval x) := by rw [← Array.getElem?_toList, Array.toList_map, hxs]; rfl
          rw [Array.getD_eq_getD_getElem?, this]; rfl
        refine aPanic_ok hE ht hh ?_ h
        rw [hex (Instr.panic ((xs.map a.eval).getD 0 .nilIface)) fun _ => rfl, hx0, Sem.run_bind]
        rfl
      · cases h
    · cases hal
    · cases h
  · cases hal
  · cases h

end
end Pk
