/- The abstract run of the model, proved right (part 3 of 7). For every program. -/
import Derived.Test.YtimpkpgndnchiaaGreatDoorPkB
set_option linter.unusedSectionVars false
set_option linter.unusedSimpArgs false
set_option linter.unusedVariables false
/- The abstract run is sound: the operations that change nothing that is there. -/
namespace Pk
open Go Go.RowKit

/-- A block more; all else as it was. -/
structure NewW (w w' : World) (ob : Obj) : Prop where
  heap : w'.heap = w.heap.push ob
  os : w'.os = w.os
  tape : w'.tape = w.tape
  output : w'.output = w.output

/-- What a quiet operation has come to. -/
def QRes (N : Nat) (ν : Nat → Int) (ρ : Rho) (hp : Tr AObj) (w w' : World) (v' : Value) : QR → Prop
  | .val v => VR ν ρ v v' ∧ w' = w
  | .mrk v id => VR ν ρ v v' ∧ ∃ r l e g cs fz, AtR ρ id r ∧ getP (path id) hp = some (.cells l e true g) ∧ w.heap[r]? = some (.cells cs e fz) ∧ w' = w.freeze ⟨r, cs.size, none⟩ 1
  | .ptr o => v' = .pointer (some ⟨w.heap.size, 0, none⟩) ∧ ∃ ob c, NewW w w' ob ∧ OR' N ν ρ w.heap.size c o ob
  | .slc o len cap ex => ∃ ob c cap', v' = .slice (some ⟨w.heap.size, 0, none⟩) len cap' ∧ SlR 0 len cap ex c 0 cap' ∧ NewW w w' ob ∧ OR' N ν ρ w.heap.size c o ob
  | .mp o => v' = .map (some w.heap.size) ∧ ∃ ob c, NewW w w' ob ∧ OR' N ν ρ w.heap.size c o ob

section
variable {N : Nat} {ν : Nat → Int} {ρ : Rho} {E : Env} {hp : Tr AObj} {nx : Nat} {w0 w : World}

/-- An operation that gives a value and leaves the world. -/
def QOk (E : Env) (N : Nat) (ν : Nat → Int) (ρ : Rho) (hp : Tr AObj) (a : Act) (o : Oper) (w : World) (q : QR) : Prop :=
  ∃ v' w', (execOp a.eval o).run E.P w = .ok (.value v') w' ∧ QRes N ν ρ hp w w' v' q

theorem QOk.val {a : Act} {o : Oper} {s : Sem Value} {r : AV} (he : execOp a.eval o = (do pure (.value (← s)) : Sem Next)) (h : ∃ v', s.run E.P w = .ok v' w ∧ VR ν ρ r v') :
    QOk E N ν ρ hp a o w (.val r) := by
  obtain ⟨v', h1, h2⟩ := h
  exact ⟨v', w, by rw [he]; simp [h1], h2, rfl⟩

theorem q1_run {x : Operand} {f : F1} {tm : Tr AV} {q : QR} (h : (q1 x f).run tm hp = some q) : ∃ v r, (evF x).run tm = some v ∧ f.run v = some r ∧ q = .val r := by
  simp only [q1] at h
  split at h
  · rename_i v hv
    split at h
    · rename_i r hr
      cases h; exact ⟨v, r, hv, hr, rfl⟩
    · cases h
  · cases h

theorem q2_run {x y : Operand} {f : F2} {tm : Tr AV} {q : QR} (h : (q2 x y f).run tm hp = some q) :
    ∃ v u r, (evF x).run tm = some v ∧ (evF y).run tm = some u ∧ f.run v u = some r ∧ q = .val r := by
  simp only [q2] at h
  split at h
  · rename_i v hv
    split at h
    · rename_i u hu
      split at h
      · rename_i r hr
        cases h; exact ⟨v, u, r, hv, hu, hr, rfl⟩
      · cases h
    · cases h
  · cases h

variable (hE : EnvOK E) (hpc : ∀ p ∈ E.pc, PFok ν p)
variable {tm : Tr AV} {a : Act} (ht : TR ν ρ tm a.tmps) (hh : HR N ν w0 ρ hp nx w)

/-! Loads. -/
include hE ht hh in
theorem qLoad_ok {o : Oper} {t : TypeId} {x : Operand} (ho : o.op = .load t x) {q : QR} (h : (qLoad E t x).run tm hp = some q) : QOk E N ν ρ hp a o w q := by
  simp only [qLoad] at h
  split at h
  · rename_i id off hx
    split at h
    · rename_i l e wr g hb
      split at h
      · rename_i v hv
        cases h
        obtain ⟨r, ⟨c, hr⟩, ev⟩ := VR_ptr.1 (evF_ok ht hx)
        obtain ⟨ob, h1, h2⟩ := hh.live id _ r c hb hr
        obtain ⟨cs, fz, rfl, hp, _⟩ := h2
        obtain ⟨v', h3, h4⟩ := loadVar_ok hE h1 hp hv
        exact .val (s := Instr.loadAt t (a.eval x)) (by rw [execOp, ho]) ⟨v', by rw [ev]; simpa [Instr.loadAt, Instr.sureAddr] using h3, h4⟩
      · cases h
    · cases h
  · cases h

/-! Conversions. -/
theorem bytesK_eq : ∀ (l : List AV) {β : Type} (k : Option (Nat × Nat) → β), bytesK l k = k (bytesK l fun r => r)
  | [], β, k => rfl
  | a :: l, β, k => by
    unfold bytesK
    split
    · split
      · rfl
      · rw [bytesK_eq l]
        conv => rhs; rw [bytesK_eq l]
        cases bytesK l fun r => r <;> rfl
    · rfl

theorem bytesK_ok : ∀ (l : List AV) (vs : List Value) (n v : Nat), VRs ν ρ l vs → (bytesK l fun r => r) = some (n, v) →
    v < 256 ^ n ∧ ∃ bs : List UInt8, vs = bs.map (fun b => Value.int .u8 b.toNat) ∧ bytesOf n v = bs ∧ bs.length = l.length
  | [], vs, n, v, hv, h => by
    cases h
    rw [VRs_nil] at hv; subst hv
    exact ⟨by simp, [], rfl, rfl, rfl⟩
  | a :: l, vs, n, v, hv, h => by
    obtain ⟨x, r, vx, vr, rfl⟩ := VRs_cons.1 hv
    unfold bytesK at h
    split at h
    · rename_i b
      split at h
      · cases h
      · rename_i hb
        have hb := ble_false hb
        rw [bytesK_eq l] at h
        cases hl : bytesK l fun r => r with
        | none => rw [hl] at h; cases h
        | some p =>
          obtain ⟨m, u⟩ := p
          rw [hl] at h
          simp only [Option.some.injEq, Prod.mk.injEq] at h
          obtain ⟨rfl, rfl⟩ := h
          obtain ⟨hu, bs, rfl, e, hlen⟩ := bytesK_ok l r m u vr hl
          obtain rfl := VR_int.1 vx
          have e0 : Nat.add b (Nat.mul 256 u) = b + 256 * u := rfl
          rw [e0]
          refine ⟨by show b + 256 * u < 256 ^ (m + 1); rw [Nat.pow_succ]; omega, UInt8.ofNat b :: bs, ?_, ?_, by simp [hlen]⟩
          · simp [Nat.mod_eq_of_lt hb]
          · show bytesOf (m + 1) _ = _
            rw [bytesOf_succ]
            have e1 : (b + 256 * u) % 256 = b := by omega
            have e2 : (b + 256 * u) / 256 = u := by omega
            rw [e1, e2, e]
    · cases h

theorem byteCellsK_eq {β : Type} : ∀ (n v : Nat) (k : List AV → β), byteCellsK n v k = k ((bytesOf n v).map fun b => AV.int .u8 (.ofNat b.toNat))
  | 0, v, k => rfl
  | n + 1, v, k => by
    unfold byteCellsK
    rw [frc_eq, frc_eq, byteCellsK_eq n, bytesOf_succ]
    have e1 : Nat.mod v 256 = v % 256 := rfl
    have e2 : Nat.div v 256 = v / 256 := rfl
    rw [e1, e2]
    simp

theorem byteCells_VRs (bs : List UInt8) : VRs ν ρ (bs.map fun b => AV.int .u8 (.ofNat b.toNat)) (bs.map fun b => Value.int .u8 b.toNat) := by
  induction bs with
  | nil => exact VRs_nil.2 rfl
  | cons b bs ih => exact VRs_cons.2 ⟨_, _, VR_int.2 rfl, ih, rfl⟩

theorem byteCells_Sc (bs : List UInt8) : Sc (bs.map fun b => Value.int .u8 b.toNat) := by
  intro v hv; obtain ⟨b, _, rfl⟩ := List.mem_map.1 hv; rfl

/-- The bytes of a run of cells, pushed one by one. -/
theorem push_bytes (f : Value → ByteArray → Sem (ForInStep ByteArray)) (hf : ∀ (b : UInt8) (s : ByteArray), f (.int .u8 (b.toNat : Int)) s = pure (.yield (s.push (UInt8.ofNat ((b.toNat : Int).toNat)))))
    (bs : List UInt8) (s : ByteArray) (w : World) (P : Program) :
    (forIn (m := Sem) (bs.map fun b => Value.int .u8 (b.toNat : Int)).toArray s f).run P w = .ok ⟨(s.data.toList ++ bs).toArray⟩ w := by
  rw [← Array.forIn_toList]
  induction bs generalizing s with
  | nil => simp
  | cons b bs ih =>
    simp only [List.map_cons, List.forIn_cons, Sem.run_bind, Sem.run_pure, Result.andThen_ok, hf]
    have := ih (s.push (UInt8.ofNat ((b.toNat : Int).toNat)))
    simp only at this ⊢
    rw [this]
    simp [ByteArray.push]

end
end Pk
/- The abstract run is sound: conversions, what is made. -/
namespace Pk
open Go Go.RowKit

theorem wrap_range {k : IntKind} {n : Int} (h1 : k.min ≤ n) (h2 : n ≤ k.max) : k.wrap n = n := by
  apply wrapA_ok
  cases n with
  | ofNat m =>
    have : m < hi k := by
      have h2 : (m : Int) ≤ k.max := h2
      cases k <;> simp [IntKind.max, IntKind.signed, IntKind.bits, hi] at * <;> omega
    simp only [wrapA]
    rw [show Nat.ble (hi k) m = false from by
      cases hb : Nat.ble (hi k) m with
      | false => rfl
      | true => have := ble_true hb; omega]
  | negSucc m =>
    have hs : sgn k = true := by
      cases k <;> first | rfl | (rw [show IntKind.min _ = 0 from rfl] at h1; simp at h1; done) | (simp [IntKind.min, IntKind.signed] at h1; omega)
    have : m < hi k := by
      rw [Int.negSucc_eq] at h1
      cases k <;> first | (exact absurd hs (by decide)) | (simp [IntKind.min, IntKind.signed, IntKind.bits, hi] at * <;> omega)
    simp only [wrapA]
    rw [show Nat.ble (hi k) m = false from by
      cases hb : Nat.ble (hi k) m with
      | false => rfl
      | true => have := ble_true hb; omega]
    simp [hs]

theorem modify_push {α : Type} (xs : Array α) (x : α) (f : α → α) : (xs.push x).modify xs.size f = xs.push (f x) := by
  apply Array.ext'
  apply List.ext_getElem?
  intro i
  simp only [Array.getElem?_toList, Array.getElem?_modify, Array.getElem?_push]
  by_cases h : xs.size = i
  · subst h; simp
  · rw [if_neg h]
    have : ¬ i = xs.size := fun e => h e.symm
    simp [this]

section
variable {N : Nat} {ν : Nat → Int} {ρ : Rho} {E : Env} {hp : Tr AObj} {nx : Nat} {w0 w : World}
variable (hE : EnvOK E)
variable {tm : Tr AV} {a : Act} (ht : TR ν ρ tm a.tmps) (hh : HR N ν w0 ρ hp nx w)
include hE ht hh

omit ht hh hE in
theorem isBytes_ok {t e : TypeId} (h : isBytes E t = some e) : und E t = some (.slice e) ∧ und E e = some (.int .u8) := by
  unfold isBytes at h
  split at h
  · rename_i e' he
    split at h
    · rename_i hu; cases h; exact ⟨he, hu⟩
    · cases h
  · cases h

theorem run_stringToBytes {e : TypeId} (n v : Nat) (hv : v < 256 ^ n) : ∃ w' cap ob, (Conv.stringToBytes e (strOf n v)).run E.P w = .ok (.slice (some ⟨w.heap.size, 0, none⟩) n cap) w' ∧ n ≤ cap ∧ NewW w w' ob ∧
    OR' N ν ρ w.heap.size cap (.cells ((bytesOf n v).map fun b => AV.int .u8 (.ofNat b.toNat)) e true 1) ob := by
  generalize hcap : Question.cut (.appendCap (strOf n v).size 0 e) (w.tape w.drawn (.appendCap (strOf n v).size 0 e)) = cap
  have hle : n ≤ cap := by
    rw [← hcap]; simp only [Question.cut, strOf_size]; omega
  rw [strOf_size] at hcap
  have hd : (strOf n v).data.toList = bytesOf n v := by simp [strOf]
  have hmap : ((strOf n v).data.map fun b => Value.int .u8 (b.toNat : Int)) = ((bytesOf n v).map fun b => Value.int .u8 (b.toNat : Int)).toArray := by
    apply Array.ext'; rw [Array.toList_map, hd]
  let cs : Array Value := ((bytesOf n v).map fun b => Value.int .u8 (b.toNat : Int)).toArray ++ Array.replicate (cap - n) (.int .u8 0)
  have hsz : cs.size = cap := by simp [cs, bytesOf_length]; omega
  refine ⟨{ w with heap := w.heap.push (.cells cs e (cap, cap + 1)), drawn := w.drawn + 1 }, cap, .cells cs e (cap, cap + 1), ?_, hle, ⟨rfl, rfl, rfl, rfl⟩, ?_⟩
  · unfold Conv.stringToBytes
    simp only [Sem.run_bind, run_choose, Question.forced, Bool.false_eq_true, if_false, Result.andThen_ok, hcap, strOf_size, hmap]
    simp only [newRow, markStringish, Sem.run_bind, run_newObj, Result.andThen_ok, Sem.run_pure, run_shape, World.shape?, Array.getElem?_push_size]
    simp only [Result.andThen_ok, Sem.run_bind, run_freeze, Sem.run_pure, World.freeze, Nat.one_ne_zero, if_false]
    rw [modify_push]
    simp only [BEq.rfl, if_true]
    show Result.ok _ _ = Result.ok _ _
    simp only [cs] at hsz ⊢
    rw [hsz]
  · refine ⟨cs, (cap, cap + 1), rfl, ?_, fun _ => ⟨hh.base, ?_⟩, fun _ => ⟨by simp [hsz], ?_⟩⟩
    · have hl : ((bytesOf n v).map fun b => AV.int .u8 (.ofNat b.toNat)).length = n := by simp [bytesOf_length]
      have htk : cs.toList.take n = (bytesOf n v).map fun b => Value.int .u8 (b.toNat : Int) := by
        simp only [cs, Array.toList_append]
        rw [List.take_append_of_le_length (by simp [bytesOf_length]), List.take_of_length_le (by simp [bytesOf_length])]
      refine ⟨by rw [hl]; simp [hsz, hle], ?_, ?_⟩
      · rw [hl, htk]; exact byteCells_VRs _
      · rw [hl, htk]; exact byteCells_Sc _
    · right; simp [bytesOf_length, hle]
    · right; simp [hsz]

theorem conv_ok {o : Oper} {src dst : TypeId} {x : Operand} (ho : o.op = .convert src dst x) {q : QR} (h : (convF E src dst x).run tm hp = some q) : QOk E N ν ρ hp a o w q := by
  have hex : execOp a.eval o = (do pure (.value (← convert src dst (a.eval x))) : Sem Next) := by rw [execOp, ho]
  unfold convF at h
  split at h
  · cases h
  · rename_i ds hs
    have hs' := run_und hE hs w
    split at h
    · -- to a number
      rename_i k hd
      have hd' := run_und hE hd w
      obtain ⟨v, r, hx, hr, rfl⟩ := q1_run h
      have ev := evF_ok ht hx
      refine .val hex ?_
      cases v <;> try (cases hr; done)
      · obtain ⟨i, e, rfl⟩ := mkI_ok hr
        rw [VR_int.1 ev]
        exact ⟨.int k i, by simp [convert, hs', hd', Conv.intToInt, wrapA_ok e], VR_int.2 rfl⟩
      · rename_i k' i
        simp only [convInt] at hr
        split at hr
        · rename_i hk
          have := kEq_ok hk; subst this
          cases hr
          obtain ⟨e1, e2, e3⟩ := VR_sym.1 ev
          rw [e1]
          exact ⟨.int k (ν i), by simp [convert, hs', hd', Conv.intToInt, wrap_range e2 e3], VR_sym.2 ⟨rfl, e2, e3⟩⟩
        · cases hr
    · -- to a text
      rename_i hd
      have hd' := run_und hE hd w
      split at h
      · obtain ⟨v, r, hx, hr, rfl⟩ := q1_run h
        have ev := evF_ok ht hx
        refine .val hex ?_
        cases v <;> try (cases hr; done)
        cases hr
        obtain ⟨e1, e2⟩ := VR_str.1 ev
        rw [e1]
        exact ⟨_, by simp [convert, hs', hd'], VR_str.2 ⟨rfl, e2⟩⟩
      · split at h
        · rename_i e he
          obtain ⟨hse, hue⟩ := isBytes_ok he
          rw [hs] at hse; cases hse
          have hue' := run_und hE hue w
          simp only [convBS] at h
          split at h
          · rename_i hx
            cases h
            refine .val hex ?_
            rw [VR_nslice.1 (evF_ok ht hx)]
            exact ⟨.string .empty, by simp [convert, hs', hd', hue', Conv.bytesToString], VR_str.2 ⟨rfl, by decide⟩⟩
          · rename_i id off len cap ex hx
            split at h
            · rename_i l el wr g hb
              simp only [takeK_eq, dropN_eq] at h
              split at h
              · rename_i l2 hl2
                rw [bytesK_eq] at h
                split at h
                · rename_i n v hn
                  simp only [frc_eq, Option.some.injEq] at h
                  subst h
                  refine .val hex ?_
                  obtain ⟨r, c, off', cap', hr, ⟨hlc, hs1, hs2⟩, ev⟩ := VR_slice.1 (evF_ok ht hx)
                  obtain ⟨ob, h1, h2⟩ := hh.live id _ r c hb hr
                  obtain ⟨cs, fz, rfl, hp', _⟩ := h2
                  rw [ev]
                  rcases sub_ok hp' hl2 with ⟨k, sc, hle⟩ | ⟨rfl, rfl⟩
                  · obtain ⟨hv, bs, e1, e2, e3⟩ := bytesK_ok _ _ _ _ k hn
                    have hoff : len = 0 ∨ off' = off := by
                      cases ex with
                      | true => exact .inr (hs1 rfl).1
                      | false => rcases (hs2 rfl).2.1 with h | h
                                 · exact .inr h
                                 · exact .inl (by omega)
                    have hlen : bs.length = len := by
                      have := congrArg List.length e1
                      simp at this hle
                      omega
                    have hn' : n = len := by
                      have := congrArg List.length e2
                      rw [bytesOf_length] at this; omega
                    refine ⟨.string (strOf n v), ?_, VR_str.2 ⟨rfl, hv⟩⟩
                    have hld : (loadCells ⟨r, off', none⟩ len).run E.P w = .ok (bs.map fun b => Value.int .u8 (b.toNat : Int)).toArray w := by
                      rcases hoff with h0 | h0
                      · subst h0
                        have : bs = [] := List.length_eq_zero_iff.1 hlen
                        subst this
                        simp [loadCells, loadCellsFrom]
                      · subst h0
                        have := run_loadCells_list (P := E.P) w ⟨r, off', none⟩ (bs.map fun b => Value.int .u8 (b.toNat : Int)) (fun j y hy => by
                          rw [addr_add]
                          rw [← e1, List.getElem?_take] at hy
                          split at hy
                          · rw [List.getElem?_drop] at hy
                            simp only [World.cell?, h1, Option.isSome_none, Bool.false_eq_true, if_false]
                            simpa using hy
                          · cases hy)
                        rwa [List.length_map, hlen] at this
                    simp only [convert, Sem.run_bind, hs', hd', Result.andThen_ok, hue', Conv.bytesToString, hld]
                    rw [push_bytes _ (fun b s => rfl) bs .empty w E.P]
                    simp only [Result.andThen_ok, Sem.run_pure]
                    show Result.ok (Value.string ⟨([] ++ bs).toArray⟩) w = _
                    unfold strOf
                    rw [e2, List.nil_append]
                  · have : n = 0 ∧ v = 0 := by
                      have : (bytesK ([] : List AV) fun r => r) = some (0, 0) := rfl
                      rw [this] at hn; cases hn; exact ⟨rfl, rfl⟩
                    obtain ⟨rfl, rfl⟩ := this
                    refine ⟨.string (strOf 0 0), ?_, VR_str.2 ⟨rfl, by decide⟩⟩
                    have hld : (loadCells ⟨r, off', none⟩ 0).run E.P w = .ok #[] w := by simp [loadCells, loadCellsFrom]
                    simp only [convert, Sem.run_bind, hs', hd', Result.andThen_ok, hue', Conv.bytesToString, hld]
                    rw [show (#[] : Array Value) = (([] : List UInt8).map fun b => Value.int .u8 (b.toNat : Int)).toArray from rfl, push_bytes _ (fun b s => rfl) [] .empty w E.P]
                    rfl
                · cases h
              · cases h
            · cases h
          · cases h
        · cases h
      · cases h
    · -- to a slice
      rename_i e0 hd
      have hd' := run_und hE hd w
      split at h
      · rename_i e he
        obtain ⟨hse, hue⟩ := isBytes_ok he
        rw [hd] at hse; cases hse
        have hue' := run_und hE hue w
        split at h
        · simp only [convSB] at h
          split at h
          · rename_i n v hx
            rw [byteCellsK_eq] at h
            cases h
            obtain ⟨e1, e2⟩ := VR_str.1 (evF_ok ht hx)
            obtain ⟨w', cap, ob, h1, h2, h3, h4⟩ := run_stringToBytes (N := N) (w := w) (e := e0) hE ht hh n v e2
            refine ⟨_, w', ?_, ob, cap, cap, rfl, ⟨Nat.le_refl _, fun h => (by cases h), fun _ => ⟨h2, .inl rfl, fun _ _ => rfl⟩⟩, h3, h4⟩
            rw [hex, e1]
            simp [convert, hs', hd', hue', h1]
          · cases h
        · split at h
          · rename_i hsd
            have := beq_true hsd; subst this
            simp only [convBB] at h
            split at h
            · rename_i id off len cap ex hx
              split at h
              · rename_i l el wr g hb
                split at h
                · cases h
                  have ev := evF_ok ht hx
                  obtain ⟨r, c, off', cap', hr, hsl, ev'⟩ := VR_slice.1 ev
                  obtain ⟨ob, h1, h2⟩ := hh.live id _ r c hb hr
                  obtain ⟨cs, fz, rfl, hp', _⟩ := h2
                  refine ⟨a.eval x, w.freeze ⟨r, cs.size, none⟩ 1, ?_, ev, r, l, el, g, cs, fz, ⟨c, hr⟩, hb, h1, rfl⟩
                  rw [hex, ev']
                  rw [hs] at hd; cases hd
                  simp [convert, hs', hue', markStringish, World.shape?, h1]
                · cases h
              · cases h
            · cases h
          · cases h
        · cases h
      · cases h
    · cases h
end
end Pk
/- The abstract run is sound: operations that read, and that make. -/
namespace Pk
open Go Go.RowKit

section
variable {N : Nat} {ν : Nat → Int} {ρ : Rho} {E : Env} {hp : Tr AObj} {nx : Nat} {w0 w : World}
variable (hE : EnvOK E)
variable {tm : Tr AV} {a : Act} (ht : TR ν ρ tm a.tmps) (hh : HR N ν w0 ρ hp nx w) {o : Oper} {q : QR}

theorem zeroC_ok {t : TypeId} {z : List AV} (h : zeroC E t = some z) : ∃ v, zeroA E t = some v ∧ cellsA v = some z := by
  unfold zeroC at h
  split at h
  · rename_i v hv; exact ⟨v, hv, h⟩
  · cases h

/-- A new row of cells. -/
def newW (w : World) (ob : Obj) : World := { w with heap := w.heap.push ob }
theorem NewW.new (w : World) (ob : Obj) : NewW w (newW w ob) ob := ⟨rfl, rfl, rfl, rfl⟩
theorem run_newRow (w : World) (t : TypeId) (cs : Array Value) : (newRow t cs).run E.P w = .ok ⟨w.heap.size, 0, none⟩ (newW w (.cells cs t)) := rfl
theorem run_newVar (w : World) (t : TypeId) (v : Value) : (newVar t v).run E.P w = .ok ⟨w.heap.size, 0, none⟩ (newW w (.cells v.cells t)) := rfl

theorem OR'.new (hN : N ≤ w.heap.size) {l : List AV} {cs : Array Value} (h : VRp ν ρ l cs.toList) (t : TypeId) (c : Nat) : OR' N ν ρ w.heap.size c (.cells l t true 0) (.cells cs t) :=
  ⟨cs, (0, 0), rfl, h, fun _ => ⟨hN, .inl rfl⟩, fun h => absurd h (Nat.lt_irrefl 0)⟩

include hE ht hh

theorem qMove_ok {x : Operand} (ho : o.op = .move x) (h : (q0 x).run tm hp = some q) : QOk E N ν ρ hp a o w q := by
  simp only [q0] at h
  split at h
  · rename_i v hv
    cases h
    exact ⟨a.eval x, w, by rw [execOp, ho]; rfl, evF_ok ht hv, rfl⟩
  · cases h

theorem qPick_ok {c x y : Operand} (ho : o.op = .pick c x y) (h : (qop E (.pick c x y)).run tm hp = some q) : QOk E N ν ρ hp a o w q := by
  simp only [qop] at h
  split at h
  · rename_i hc
    have hc := VR_bool.1 (evF_ok ht hc)
    split at h
    · rename_i v hv
      cases h
      exact ⟨a.eval x, w, by rw [execOp, ho]; dsimp only; rw [hc]; simp [asBool], evF_ok ht hv, rfl⟩
    · cases h
  · rename_i hc
    have hc := VR_bool.1 (evF_ok ht hc)
    split at h
    · rename_i v hv
      cases h
      exact ⟨a.eval y, w, by rw [execOp, ho]; dsimp only; rw [hc]; simp [asBool], evF_ok ht hv, rfl⟩
    · cases h
  · cases h

theorem qAlloc_ok {t : TypeId} (ho : o.op = .alloc t) (h : (qop E (.alloc t)).run tm hp = some q) : QOk E N ν ρ hp a o w q := by
  simp only [qop] at h
  split at h
  · rename_i z hz
    cases h
    obtain ⟨v, hv, hc⟩ := zeroC_ok hz
    obtain ⟨v', h1, h2⟩ := zeroA_ok (ν := ν) (ρ := ρ) hE hv w
    have hc := cells_ok h2 hc
    refine ⟨.pointer (some ⟨w.heap.size, 0, none⟩), newW w (.cells v'.cells t), ?_, rfl, _, 0, .new _ _, .new hh.base (.ofVRs hc.1 hc.2) t 0⟩
    rw [execOp, ho]; dsimp only
    simp [Instr.alloc, h1, run_newVar]
  · cases h

theorem qBox_ok {t : TypeId} {x : Operand} (ho : o.op = .box t x) (h : (qop E (.box t x)).run tm hp = some q) : QOk E N ν ρ hp a o w q := by
  simp only [qop] at h
  split at h
  · rename_i v hv
    split at h
    · rename_i c hc
      cases h
      have hc := cells_ok (evF_ok ht hv) hc
      refine ⟨.pointer (some ⟨w.heap.size, 0, none⟩), newW w (.cells (a.eval x).cells t), ?_, rfl, _, 0, .new _ _, .new hh.base (.ofVRs hc.1 hc.2) t 0⟩
      rw [execOp, ho]
      simp [Instr.box, run_newVar]
    · cases h
  · cases h

theorem qNil_ok {x : Operand} (ho : o.op = .nilCheck x) (h : (qop E (.nilCheck x)).run tm hp = some q) : QOk E N ν ρ hp a o w q := by
  simp only [qop] at h
  obtain ⟨v, r, hx, hr, rfl⟩ := q1_run h
  have ev := evF_ok ht hx
  refine ⟨a.eval x, w, ?_, ?_, rfl⟩
  · rw [execOp, ho]; dsimp only
    cases v <;> try (cases hr; done)
    · obtain ⟨r', _, e⟩ := VR_ptr.1 ev
      rw [e]; rfl
    · rename_i fn l m
      cases fn
      · obtain ⟨fn', a', b', hf, _, _, e⟩ := VR_func.1 ev
        rw [e, show fn' = _ from hf]; rfl
      · cases hr
    · obtain ⟨y, _, e⟩ := VR_iface.1 ev
      rw [e]; rfl
  · cases v <;> try (cases hr; done)
    · cases hr; exact ev
    · rename_i fn l m
      cases fn
      · cases hr; exact ev
      · cases hr
    · cases hr; exact ev

theorem qUn_ok {op : UnOp} {t : TypeId} {x : Operand} (ho : o.op = .unOp op t x) (h : (q1 x (unF op)).run tm hp = some q) : QOk E N ν ρ hp a o w q := by
  obtain ⟨v, r, hx, hr, rfl⟩ := q1_run h
  have ev := evF_ok ht hx
  refine .val (s := Op.unary op (a.eval x)) (by rw [execOp, ho]) ?_
  unfold unF at hr
  split at hr
  · simp only at hr
    split at hr
    · rename_i b
      rw [VR_bool.1 ev]
      refine ⟨.bool (!b), rfl, ?_⟩
      cases b <;> cases hr <;> exact VR_bool.2 rfl
    · cases hr
  · simp only at hr
    split at hr
    · rename_i k n
      rw [VR_int.1 ev]
      have := arith_ok (P := E.P) (ν := ν) (ρ := ρ) (t := 0) hr w
      simpa [binOp, Op.unary] using this
    · cases hr
  · cases hr

theorem qIface_ok {t : TypeId} {x : Operand} (ho : o.op = .makeInterface t x) (h : (qop E (.makeInterface t x)).run tm hp = some q) : QOk E N ν ρ hp a o w q := by
  simp only [qop] at h
  split at h
  · cases h
  · rename_i d hd hu
    obtain ⟨v, r, hx, hr, rfl⟩ := q1_run h
    cases hr
    refine .val (s := Instr.makeInterface t (a.eval x)) (by rw [execOp, ho]) ⟨.iface t (a.eval x), ?_, VR_iface.2 ⟨_, evF_ok ht hx, rfl⟩⟩
    simp only [Instr.makeInterface, Sem.run_bind, run_und hE hu, Result.andThen_ok]
    cases d <;> first | rfl | exact absurd rfl (hd _)
  · cases h

theorem qFunc_ok {f : FuncId} {l m : Array Operand} (ho : o.op = .makeFunc (.func f) l m) (h : (qop E (.makeFunc (.func f) l m)).run tm hp = some q) : QOk E N ν ρ hp a o w q := by
  simp only [qop] at h
  split at h
  · rename_i l1 m1 h1 h2
    cases h
    refine .val (s := Instr.makeFunc (.func f) (l.map a.eval) (m.map a.eval)) (by rw [execOp, ho]) ⟨_, rfl, VR_func.2 ⟨.func f, _, _, rfl, evL_ok ht h1, evL_ok ht h2, ?_⟩⟩
    simp only [Value.func.injEq, true_and]
    constructor <;> (apply Array.ext'; simp)
  · cases h

theorem qMap_ok {t : TypeId} (ho : o.op = .makeMap t none) (h : (qop E (.makeMap t none)).run tm hp = some q) : QOk E N ν ρ hp a o w q := by
  simp only [qop] at h
  cases h
  refine ⟨.map (some w.heap.size), newW w (.map #[] 0), ?_, rfl, _, 0, .new _ _, #[], rfl, rfl, hh.base⟩
  rw [execOp, ho]
  rfl

theorem qExtract_ok {x : Operand} {i : Nat} (ho : o.op = .extract x i) (h : (qop E (.extract x i)).run tm hp = some q) : QOk E N ν ρ hp a o w q := by
  simp only [qop] at h
  obtain ⟨v, r, hx, hr, rfl⟩ := q1_run h
  simp only at hr
  split at hr
  · rename_i l
    obtain ⟨cs, hc, e⟩ := VR_tup.1 (evF_ok ht hx)
    rw [nth_eq] at hr
    obtain ⟨v', h1, h2⟩ := hc.get hr
    refine .val (s := Instr.extract (a.eval x) i) (by rw [execOp, ho]) ⟨v', ?_, h2⟩
    rw [e]
    simp [Instr.extract, h1]
  · cases hr

theorem fieldOf_ok {s : TypeId} {f : Nat} {fd : Field} (h : fieldOf E s f = some fd) : ∃ fs, und E s = some (.struct fs) ∧ fs[f]? = some fd := by
  unfold fieldOf at h
  split at h
  · rename_i fs hu
    rw [nth_eq] at h
    exact ⟨fs, hu, by simpa using h⟩
  · cases h

theorem qFieldAddr_ok {s : TypeId} {x : Operand} {f : Nat} (ho : o.op = .fieldAddr s x f) (h : (qop E (.fieldAddr s x f)).run tm hp = some q) : QOk E N ν ρ hp a o w q := by
  simp only [qop] at h
  obtain ⟨v, r, hx, hr, rfl⟩ := q1_run h
  unfold fieldAddrF at hr
  split at hr
  · rename_i fd hf
    split at hr
    · rename_i n hn
      simp only at hr
      split at hr
      · rename_i id off
        rw [frc_eq] at hr
        cases hr
        obtain ⟨fs, hu, hfd⟩ := fieldOf_ok (a := a) hE ht hh hf
        obtain ⟨b, hb, e⟩ := VR_ptr.1 (evF_ok ht hx)
        refine .val (s := Instr.fieldAt s (a.eval x) f) (by rw [execOp, ho]) ⟨.pointer (some ⟨b, off + fd.offset, none⟩), ?_, VR_ptr.2 ⟨b, hb, rfl⟩⟩
        rw [e]
        simp [Instr.fieldAt, run_und hE hu, hfd, Instr.sureAddr, fieldPlace, szOf_ok hE hn, addr_add]
      · cases hr
    · cases hr
  · cases hr

theorem qField_ok {s : TypeId} {x : Operand} {f : Nat} (ho : o.op = .field s x f) (h : (qop E (.field s x f)).run tm hp = some q) : QOk E N ν ρ hp a o w q := by
  simp only [qop] at h
  obtain ⟨v, r, hx, hr, rfl⟩ := q1_run h
  unfold fieldF at hr
  split at hr
  · rename_i fd hf
    simp only at hr
    split at hr
    · rename_i l
      obtain ⟨fs, hu, hfd⟩ := fieldOf_ok (a := a) hE ht hh hf
      obtain ⟨cs, hc, sc, e⟩ := VR_agg.1 (evF_ok ht hx)
      obtain ⟨v', h1, h2⟩ := partF_ok hE (cs := cs.toArray) (VRp.ofVRs hc sc) hr w
      refine .val (s := Instr.field s (a.eval x) f) (by rw [execOp, ho]) ⟨v', ?_, h2⟩
      rw [e]
      simp [Instr.field, run_und hE hu, hfd, asAgg, h1]
    · cases hr
  · cases hr

theorem qIndexAddr_ok {t : TypeId} {x y : Operand} (ho : o.op = .indexAddr t x y) (h : (qop E (.indexAddr t x y)).run tm hp = some q) : QOk E N ν ρ hp a o w q := by
  simp only [qop] at h
  obtain ⟨v, u, r, hx, hy, hr, rfl⟩ := q2_run h
  refine .val (s := Instr.indexAt t (a.eval x) (a.eval y)) (by rw [execOp, ho]) ?_
  have ex := evF_ok ht hx
  have ey := evF_ok ht hy
  unfold indexAddrF at hr
  split at hr
  · rename_i e hu
    split at hr
    · rename_i n hn
      simp only at hr
      split at hr
      · rename_i k i
        split at hr
        · rename_i id off len cap ex'
          split at hr
          · rename_i hb
            have hb := ble_false hb
            rw [frc_eq] at hr
            cases hr
            obtain ⟨b, c, off', cap', hb', hs, e⟩ := VR_slice.1 ex
            have h1 : off' = off := by
              cases ex' with
              | true => exact (hs.2.1 rfl).1
              | false =>
                rcases (hs.2.2 rfl).2.1 with h | h
                · exact h
                · have := hs.1; omega
            subst h1
            refine ⟨.pointer (some ⟨b, off' + i * n, none⟩), ?_, VR_ptr.2 ⟨b, ⟨c, hb'⟩, rfl⟩⟩
            rw [e, VR_int.1 ey]
            simp [Instr.indexAt, asIntOf, run_und hE hu, szOf_ok hE hn, addr_add, hb]
          · cases hr
        · cases hr
      · cases hr
    · cases hr
  · rename_i k0 e hu
    split at hr
    · rename_i n hn
      simp only at hr
      split at hr
      · rename_i k i
        split at hr
        · rename_i id off
          split at hr
          · rename_i hb
            have hb := ble_false hb
            rw [frc_eq] at hr
            cases hr
            obtain ⟨b, hb', e⟩ := VR_ptr.1 ex
            refine ⟨.pointer (some ⟨b, off + i * n, none⟩), ?_, VR_ptr.2 ⟨b, hb', rfl⟩⟩
            rw [e, VR_int.1 ey]
            simp [Instr.indexAt, asIntOf, run_und hE hu, szOf_ok hE hn, addr_add, hb, Instr.sureAddr]
          · cases hr
        · cases hr
      · cases hr
    · cases hr
  · cases hr

theorem qIndex_ok {t : TypeId} {x y : Operand} (ho : o.op = .index t x y) (h : (qop E (.index t x y)).run tm hp = some q) : QOk E N ν ρ hp a o w q := by
  simp only [qop] at h
  obtain ⟨v, u, r, hx, hy, hr, rfl⟩ := q2_run h
  refine .val (s := Instr.index t (a.eval x) (a.eval y)) (by rw [execOp, ho]) ?_
  have ex := evF_ok ht hx
  have ey := evF_ok ht hy
  unfold indexF at hr
  split at hr
  · rename_i k0 e hu
    split at hr
    · rename_i n hn
      simp only at hr
      split at hr
      · rename_i k i
        split at hr
        · rename_i l
          split at hr
          · rename_i hb
            have hb := ble_false hb
            obtain ⟨cs, hc, sc, e⟩ := VR_agg.1 ex
            obtain ⟨v', h1, h2⟩ := partF_ok hE (cs := cs.toArray) (VRp.ofVRs hc sc) hr w
            refine ⟨v', ?_, h2⟩
            have h1 : (part _ cs.toArray (i * n)).run E.P w = _ := h1
            rw [e, VR_int.1 ey]
            simp [Instr.index, asIntOf, run_und hE hu, szOf_ok hE hn, hb, h1]
          · cases hr
        · cases hr
      · cases hr
    · cases hr
  · rename_i hu
    simp only at hr
    split at hr
    · rename_i k i
      split at hr
      · rename_i n v
        split at hr
        · rename_i hb
          have hb := ble_false hb
          rw [frc_eq] at hr
          cases hr
          obtain ⟨e, hv⟩ := VR_str.1 ex
          refine ⟨_, ?_, VR_int.2 rfl⟩
          rw [e, VR_int.1 ey]
          have hs : (strOf n v)[i]? = some (UInt8.ofNat (v / 256 ^ i % 256)) := by
            have hlt : i < (strOf n v).size := by rw [strOf_size]; exact hb
            rw [ByteArray.getElem?_lt' _ _ hlt]
            congr 1
            show (strOf n v).data[i] = _
            simp [strOf, bytesOf]
          have hst : strAt v i = v / 256 ^ i % 256 := by
            unfold strAt; rw [shr8]; rfl
          have hlt : v / 256 ^ i % 256 < 256 := Nat.mod_lt _ (by decide)
          simp [Instr.index, asIntOf, run_und hE hu, hs, hst]
        · cases hr
      · cases hr
    · cases hr
  · cases hr

theorem qTypeAssert_ok {s t : TypeId} {x : Operand} {ok : Bool} (ho : o.op = .typeAssert x s t ok) (h : (qop E (.typeAssert x s t ok)).run tm hp = some q) : QOk E N ν ρ hp a o w q := by
  simp only [qop] at h
  obtain ⟨v, r, hx, hr, rfl⟩ := q1_run h
  refine .val (s := Instr.typeAssert (a.eval x) s t ok) (by rw [execOp, ho]) ?_
  have ex := evF_ok ht hx
  unfold typeAssertF at hr
  split at hr
  · cases hr
  · rename_i d hd hu
    simp only at hr
    split at hr
    · rename_i u y
      obtain ⟨y', hy, e⟩ := VR_iface.1 ex
      rw [e]
      split at hr
      · rename_i hb
        have := beq_true hb; subst this
        have hd' : (Instr.typeAssert (.iface u y') s u ok).run E.P w = .ok (if ok then .tuple #[y', .bool true] else y') w := by
          simp only [Instr.typeAssert, Sem.run_bind, run_und hE hu, Result.andThen_ok]
          cases d <;> first | (simp; done) | exact absurd rfl (hd _)
        rw [hd']
        split at hr
        · cases hr; exact ⟨_, rfl, VR_tup.2 ⟨[y', .bool true], VRs_cons.2 ⟨_, _, hy, VRs.one (VR_bool.2 rfl), rfl⟩, rfl⟩⟩
        · cases hr; exact ⟨_, rfl, hy⟩
      · rename_i hb
        have hne := beq_false hb
        split at hr
        · split at hr
          · rename_i z hz
            cases hr
            obtain ⟨z', h1, h2⟩ := zeroA_ok (ν := ν) (ρ := ρ) hE hz w
            have hd' : (Instr.typeAssert (.iface u y') s t true).run E.P w = .ok (.tuple #[z', .bool false]) w := by
              simp only [Instr.typeAssert, Sem.run_bind, run_und hE hu, Result.andThen_ok]
              cases d <;> first | (simp [hne, h1]; done) | exact absurd rfl (hd _)
            rw [hd']
            exact ⟨_, rfl, VR_tup.2 ⟨[z', .bool false], VRs_cons.2 ⟨_, _, h2, VRs.one (VR_bool.2 rfl), rfl⟩, rfl⟩⟩
          · cases hr
        · cases hr
    · cases hr
  · cases hr

end
end Pk
/- The abstract run is sound: what is built, and cut. -/
namespace Pk
open Go Go.RowKit

theorem fill_fold : ∀ (l : List Value) (k : Nat) (off : Nat) (cs : Array Value), off + k + l.length ≤ cs.size →
    ((l.zipIdx k).foldl (fun cs (p : Value × Nat) => cs.setIfInBounds (off + p.2) p.1) cs).toList = cs.toList.take (off + k) ++ l ++ cs.toList.drop (off + k + l.length)
  | [], k, off, cs, h => by simp
  | v :: l, k, off, cs, h => by
    simp only [List.length_cons] at h
    rw [List.zipIdx_cons, List.foldl_cons, fill_fold l (k + 1) off _ (by simp; omega)]
    simp only [Array.toList_setIfInBounds]
    have hl : off + k < cs.toList.length := by simp; omega
    rw [List.take_set, List.drop_set, if_pos (by omega)]
    have e1 : (cs.toList.take (off + (k + 1))).set (off + k) v = cs.toList.take (off + k) ++ [v] := by
      rw [← Nat.add_assoc, List.take_succ_eq_append_getElem hl, List.set_append_right _ _ (by simp; omega)]
      have : off + k - (cs.toList.take (off + k)).length = 0 := by simp; omega
      rw [this]; rfl
    rw [e1]
    simp only [List.append_assoc, List.singleton_append, List.length_cons]
    congr 3
    omega

section
variable {N : Nat} {ν : Nat → Int} {ρ : Rho} {E : Env} {hp : Tr AObj} {nx : Nat} {w0 w : World}
variable (hE : EnvOK E)
variable {tm : Tr AV} {a : Act} (ht : TR ν ρ tm a.tmps) (hh : HR N ν w0 ρ hp nx w) {o : Oper} {q : QR}

include ht in
theorem lays_ok {pl : PL} {place : Nat → Option (Nat × Nat)} (hpl : ∀ i p, pl.run i = some p → place i = some p) :
    ∀ (ps : List (Nat × Operand)) (l r : List AV) (cs : Array Value), VRs ν ρ l cs.toList → Sc cs.toList → (laysF pl ps).run tm l = some r →
      ∃ cs', Instr.fill place cs (ps.map fun p => (p.1, a.eval p.2)) = some cs' ∧ VRs ν ρ r cs'.toList ∧ Sc cs'.toList
  | [], l, r, cs, hv, sc, h => by cases h; exact ⟨cs, rfl, hv, sc⟩
  | (i, x) :: ps, l, r, cs, hv, sc, h => by
    unfold laysF at h
    split at h
    · cases h
    · rename_i off n hp
      simp only at h
      split at h
      · rename_i v hx
        split at h
        · rename_i c hc
          rw [lenK_eq] at h
          split at h
          · rename_i hb
            have hb := beq_true hb
            rw [layK_eq] at h
            split at h
            · rename_i l2 hl
              unfold layO at hl
              split at hl
              · rename_i hle
                cases hl
                have hc := cells_ok (evF_ok ht hx) hc
                have hlen : (a.eval x).cells.size = c.length := by rw [← Array.length_toList]; exact hc.1.length
                have hll : cs.size = l.length := by rw [← Array.length_toList]; exact hv.length
                have hf := fill_fold (a.eval x).cells.toList 0 off cs (by simp; omega)
                have he : ((a.eval x).cells.zipIdx.foldl (fun cs (p : Value × Nat) => cs.setIfInBounds (off + p.2) p.1) cs).toList = cs.toList.take off ++ (a.eval x).cells.toList ++ cs.toList.drop (off + c.length) := by
                  rw [← Array.foldl_toList, Array.toList_zipIdx, hf, Array.length_toList, hlen]
                  simp
                have hv2 : VRs ν ρ (l.take off ++ c ++ l.drop (off + c.length)) ((a.eval x).cells.zipIdx.foldl (fun cs (p : Value × Nat) => cs.setIfInBounds (off + p.2) p.1) cs).toList := by
                  rw [he]
                  exact ((hv.take off).append hc.1).append (hv.drop _)
                have sc2 : Sc ((a.eval x).cells.zipIdx.foldl (fun cs (p : Value × Nat) => cs.setIfInBounds (off + p.2) p.1) cs).toList := by
                  rw [he]
                  exact ((sc.sub fun x hx => List.mem_of_mem_take hx).append hc.2).append (sc.sub fun x hx => List.mem_of_mem_drop hx)
                obtain ⟨cs', h1, h2, h3⟩ := lays_ok hpl ps _ r _ hv2 sc2 h
                refine ⟨cs', ?_, h2, h3⟩
                simp only [List.map_cons, Instr.fill, hpl _ _ hp]
                have : ¬ ((a.eval x).cells.size ≠ n) := by omega
                simp only [this, decide_false, Bool.false_or, decide_eq_true_eq]
                rw [if_neg (by omega)]
                exact h1
              · cases hl
            · cases h
          · cases h
        · cases h
      · cases h

include hE

theorem szAll_ok : ∀ (fs : List Field), szAll E fs = true → ∀ f ∈ fs, szOf E f.type = some ((szOf E f.type).getD 0)
  | [], h, f, hf => by cases hf
  | g :: l, h, f, hf => by
    unfold szAll at h
    split at h
    · rename_i n hn
      rcases List.mem_cons.1 hf with rfl | hf
      · rw [hn]; rfl
      · exact szAll_ok l h f hf
    · cases h

theorem places_run (fs : Array Field) (h : szAll E fs.toList = true) (w : World) :
    (fs.mapM (fun f => do pure (f.offset, ← Go.sizeOf f.type) : Field → Sem (Nat × Nat))).run E.P w = .ok (fs.map fun f => (f.offset, (szOf E f.type).getD 0)) w := by
  have key : ∀ (l : List Field), (∀ f ∈ l, szOf E f.type = some ((szOf E f.type).getD 0)) →
      (l.mapM (fun f => do pure (f.offset, ← Go.sizeOf f.type) : Field → Sem (Nat × Nat))).run E.P w = .ok (l.map fun f => (f.offset, (szOf E f.type).getD 0)) w := by
    intro l
    induction l with
    | nil => intro _; rfl
    | cons f l ih =>
      intro hl
      rw [List.mapM_cons]
      simp only [Sem.run_bind, szOf_ok hE (hl f (List.mem_cons_self ..)), Result.andThen_ok, Sem.run_pure, ih fun g hg => hl g (List.mem_cons_of_mem _ hg), List.map_cons]
  rw [Array.mapM_eq_mapM_toList]
  have := key fs.toList (szAll_ok hE fs.toList h)
  rw [map_eq_pure_bind]
  simp only [Sem.run_bind, this, Result.andThen_ok, Function.comp, Sem.run_pure]
  congr 1
  apply Array.ext'; simp

include ht

theorem qBuild_ok {t : TypeId} {ps : Array (Nat × Operand)} (ho : o.op = .build t ps) (h : (buildF E t ps.toList).run tm hp = some q) : QOk E N ν ρ hp a o w q := by
  unfold buildF at h
  split at h
  · rename_i z hz
    obtain ⟨v, hv, hc⟩ := zeroC_ok hz
    obtain ⟨v', h1, h2⟩ := zeroA_ok (ν := ν) (ρ := ρ) hE hv w
    have hc := cells_ok h2 hc
    have hps : (ps.map fun (p : Nat × Operand) => (p.1, a.eval p.2)).toList = ps.toList.map fun p => (p.1, a.eval p.2) := by simp
    split at h
    · rename_i fs hu
      split at h
      · rename_i hs
        simp only at h
        split at h
        · rename_i l hl
          cases h
          obtain ⟨cs, e1, e2, e3⟩ := lays_ok ht (place := ((fs.map fun f => (f.offset, (szOf E f.type).getD 0))[·]?)) (fun i p hp => by
            simp only [plS, nth_eq] at hp
            split at hp
            · rename_i f hf
              split at hp
              · rename_i n hn
                cases hp
                rw [Array.getElem?_map]
                have : fs[i]? = some f := by simpa using hf
                rw [this]; simp [hn]
              · cases hp
            · cases hp) ps.toList z l v'.cells hc.1 hc.2 hl
          refine .val (s := Instr.build t (ps.map fun (i, x) => (i, a.eval x))) (by rw [execOp, ho]) ⟨.agg cs, ?_, VR_agg.2 ⟨cs.toList, e2, e3, rfl⟩⟩
          simp only [Instr.build, Sem.run_bind, h1, Result.andThen_ok, run_und hE hu, places_run hE fs hs]
          rw [hps, e1]
          rfl
        · cases h
      · cases h
    · rename_i n e hu
      split at h
      · rename_i sz hsz
        simp only at h
        split at h
        · rename_i l hl
          cases h
          obtain ⟨cs, e1, e2, e3⟩ := lays_ok ht (place := fun i => some (i * sz, sz)) (fun i p hp => hp) ps.toList z l v'.cells hc.1 hc.2 hl
          refine .val (s := Instr.build t (ps.map fun (i, x) => (i, a.eval x))) (by rw [execOp, ho]) ⟨.agg cs, ?_, VR_agg.2 ⟨cs.toList, e2, e3, rfl⟩⟩
          simp only [Instr.build, Sem.run_bind, h1, Result.andThen_ok, run_und hE hu, szOf_ok hE hsz]
          rw [hps, e1]
          rfl
        · cases h
      · cases h
    · cases h
  · cases h

omit ht hE in
theorem rep_range (z : List Value) (d : Nat) (zs : Array Value) (hz : zs.toList = z) : ((Array.range (d * zs.size)).map (fun i => zs[i % zs.size]!)).toList = (List.replicate d z).flatten := by
  induction d with
  | zero => simp
  | succ d ih =>
    rw [Nat.succ_mul, List.replicate_succ', List.flatten_append]
    simp only [Array.toList_map, Array.toList_range] at ih ⊢
    rw [List.range_add, List.map_append, ih, List.map_map]
    congr 1
    simp only [List.flatten_cons, List.flatten_nil, List.append_nil]
    apply List.ext_getElem
    · simp [← hz]
    · intro i h1 h2
      simp at h1
      simp [← hz, Nat.mod_eq_of_lt h1, h1]

include hh

theorem zeroN_ok {e : TypeId} {n : Nat} {z : List AV} (h : zeroN E e n = some z) (w : World) : z.length = n ∧ ∃ v, (zeroValue e).run E.P w = .ok v w ∧ VRs ν ρ z v.cells.toList ∧ Sc v.cells.toList := by
  unfold zeroN at h
  split at h
  · rename_i z' hz
    rw [lenK_eq] at h
    split at h
    · rename_i hb
      have hb := beq_true hb
      cases h
      obtain ⟨v, hv, hc⟩ := zeroC_ok hz
      obtain ⟨v', h1, h2⟩ := zeroA_ok (ν := ν) (ρ := ρ) hE hv w
      have hc := cells_ok h2 hc
      exact ⟨by omega, v', h1, hc⟩
    · cases h
  · cases h

/-- The row of zero values. -/
theorem zeros_ok {e : TypeId} {n d : Nat} {z : List AV} (h : zeroN E e n = some z) (w : World) :
    ∃ zs : Array Value, (d * n = 0 → zs = #[]) ∧ (¬ d * n = 0 → ∃ v, (zeroValue e).run E.P w = .ok v w ∧ zs = v.cells) ∧
      VRs ν ρ (List.replicate d z).flatten ((Array.range (d * n)).map (fun i => zs[i % zs.size]!)).toList ∧ Sc ((Array.range (d * n)).map (fun i => zs[i % zs.size]!)).toList := by
  obtain ⟨hn, v, h1, h2, h3⟩ := zeroN_ok (a := a) hE ht hh h w
  by_cases h0 : d * n = 0
  · refine ⟨#[], fun _ => rfl, fun h => absurd h0 h, ?_, ?_⟩
    · have : (List.replicate d z).flatten = [] := by
        rcases Nat.mul_eq_zero.1 h0 with rfl | rfl
        · rfl
        · have : z = [] := List.eq_nil_of_length_eq_zero hn
          subst this; simp
      rw [this, h0]; simp [VRs_nil]
    · rw [h0]; simp [Sc]
  · refine ⟨v.cells, fun h => absurd h h0, fun _ => ⟨v, h1, rfl⟩, ?_⟩
    have hsz : v.cells.size = n := by rw [← Array.length_toList, h2.length, hn]
    have := rep_range v.cells.toList d v.cells rfl
    rw [hsz] at this
    rw [hsz, this]
    refine ⟨h2.replicate d, ?_⟩
    intro x hx
    obtain ⟨l, hl, hx⟩ := List.mem_flatten.1 hx
    rw [(List.mem_replicate.1 hl).2] at hx
    exact h3 x hx

theorem qBuildSlice_ok {t : TypeId} {d : Nat} {ps : Array (Nat × Operand)} (ho : o.op = .buildSlice t d ps) (h : (buildSliceF E t d ps.toList).run tm hp = some q) : QOk E N ν ρ hp a o w q := by
  unfold buildSliceF at h
  split at h
  · rename_i e hu
    split at h
    · rename_i n hn
      split at h
      · rename_i z hz
        split at h
        · rename_i hb
          have hb : d * n < 65536 := ble_false hb
          simp only [repK_eq] at h
          split at h
          · rename_i l hl
            cases h
            obtain ⟨zs, h0, h1, h2, h3⟩ := zeros_ok (a := a) (d := d) hE ht hh hz w
            obtain ⟨cs, e1, e2, e3⟩ := lays_ok ht (place := fun i => some (i * n, n)) (fun i p hp => hp) ps.toList _ l _ h2 h3 hl
            have hps : (ps.map fun (p : Nat × Operand) => (p.1, a.eval p.2)).toList = ps.toList.map fun p => (p.1, a.eval p.2) := by simp
            refine ⟨.slice (some ⟨w.heap.size, 0, none⟩) d d, newW w (.cells cs e), ?_, _, 0, d, rfl, ⟨Nat.le_refl _, fun _ => ⟨rfl, rfl⟩, fun h => (by cases h)⟩, .new _ _, .new hh.base (.ofVRs e2 e3) e 0⟩
            rw [execOp, ho]; dsimp only
            simp only [Instr.buildSlice, Sem.run_bind, run_und hE hu, Result.andThen_ok, szOf_ok hE hn]
            rw [if_neg (by omega)]
            by_cases hd : d * n = 0
            · have := h0 hd; subst this
              rw [if_pos hd]
              simp only [Sem.run_bind, Result.andThen_ok, Sem.run_pure, hps, e1, run_newRow]
            · obtain ⟨v, hv, rfl⟩ := h1 hd
              rw [if_neg hd]
              simp only [Sem.run_bind, Result.andThen_ok, Sem.run_pure, hv, hps, e1, run_newRow]
          · cases h
        · cases h
      · cases h
    · cases h
  · cases h

theorem qMakeSlice_ok {t : TypeId} {x y : Operand} (ho : o.op = .makeSlice t x y) (h : (makeSliceF E t x y).run tm hp = some q) : QOk E N ν ρ hp a o w q := by
  unfold makeSliceF at h
  split at h
  · rename_i e hu
    split at h
    · rename_i i hi
      split at h
      · rename_i z hb1 hb2 hz
        have hb1 := ble_false hb1
        have hb2 := ble_false hb2
        simp only at h
        split at h
        · rename_i k1 l k2 c hx hy
          split at h
          · rename_i hb3 hb4
            have hb3 := Nat.le_of_ble_eq_true hb3
            have hb4 := ble_false hb4
            rw [repK_eq] at h
            cases h
            obtain ⟨zs, h0, h1, h2, h3⟩ := zeros_ok (a := a) (d := c) hE ht hh hz w
            refine ⟨.slice (some ⟨w.heap.size, 0, none⟩) l c, newW w (.cells ((Array.range (c * i.size)).map (fun j => zs[j % zs.size]!)) e), ?_, _, 0, c, rfl, ⟨hb3, fun _ => ⟨rfl, rfl⟩, fun h => (by cases h)⟩, .new _ _, .new hh.base (.ofVRs h2 h3) e 0⟩
            rw [execOp, ho]; dsimp only
            have w1 : IntKind.i64.wrap (l : Int) = l := wrap_range (by simp [IntKind.min, IntKind.signed, IntKind.bits] <;> omega) (by simp [IntKind.max, IntKind.signed, IntKind.bits] <;> omega)
            have w2 : IntKind.i64.wrap (c : Int) = c := wrap_range (by simp [IntKind.min, IntKind.signed, IntKind.bits] <;> omega) (by simp [IntKind.max, IntKind.signed, IntKind.bits] <;> omega)
            have hsz : (Go.sizeOf e).run E.P w = .ok i.size w := by simp [Go.sizeOf, info_run hE hi]
            have hmul : i.bytes * c ≤ 4294967296 := Nat.le_trans (Nat.mul_le_mul (show i.bytes ≤ 65536 by omega) (show c ≤ 65536 by omega)) (by decide)
            have hmul' : ((i.bytes : Int) * (c : Int)) ≤ 4294967296 := by
              have := Int.ofNat_le.2 hmul
              rwa [Int.natCast_mul] at this
            have e1 : a.eval x = .int k1 (l : Int) := VR_int.1 (evF_ok ht hx)
            have e2 : a.eval y = .int k2 (c : Int) := VR_int.1 (evF_ok ht hy)
            rw [e1, e2]
            simp only [Instr.makeSlice, Sem.run_bind, run_und hE hu, Result.andThen_ok, asInt, asIntOf, Sem.run_pure, info_run hE hi, w1, w2]
            have hc1 : decide ((c : Int) < 0) = false := by simp <;> omega
            have hc2 : decide ((l : Int) < 0) = false := by simp <;> omega
            have hc3 : decide ((l : Int) > (c : Int)) = false := by simp <;> omega
            have hc4 : decide ((i.bytes : Int) * (c : Int) > 2 ^ 48) = false := by simp <;> omega
            simp only [hc1, hc2, hc3, hc4, Bool.or_self, Bool.false_eq_true, if_false, Sem.run_bind, run_askRoom, Result.andThen_ok, Int.toNat_natCast, hsz]
            by_cases hd : c * i.size = 0
            · have := h0 hd; subst this
              rw [if_pos hd]
              simp only [Sem.run_bind, Result.andThen_ok, Sem.run_pure, run_newRow]
            · obtain ⟨v, hv, rfl⟩ := h1 hd
              rw [if_neg hd]
              simp only [Sem.run_bind, Result.andThen_ok, Sem.run_pure, hv, run_newRow]
          · cases h
        · cases h
      · cases h
    · cases h
  · cases h

/-! Slices. -/
theorem natF_ok {x : Option Operand} {d n : Nat} (h : (natF x).run tm d = some n) :
    (x = none ∧ n = d) ∨ ∃ y k, x = some y ∧ a.eval y = .int k (n : Int) := by
  unfold natF at h
  split at h
  · cases h; exact .inl ⟨rfl, rfl⟩
  · rename_i y
    simp only at h
    split at h
    · rename_i k m hy
      cases h
      exact .inr ⟨y, k, rfl, VR_int.1 (evF_ok ht hy)⟩
    · cases h

theorem bound_run {k : IntKind} {n y : Nat} (h : n ≤ y) (c : BoundsCode) (w : World) : (Instr.sliceBound (.int k (n : Int)) y c).run E.P w = .ok n w := by
  have : (n : Int) ≤ y := by omega
  simp [Instr.sliceBound, asIntOf, this]

theorem okB_ok {l h m c : Nat} (e : okB l h m c = true) : l ≤ h ∧ h ≤ m ∧ m ≤ c := by
  unfold okB at e
  split at e
  · rename_i h1
    split at e
    · rename_i h2
      exact ⟨Nat.le_of_ble_eq_true h1, Nat.le_of_ble_eq_true h2, Nat.le_of_ble_eq_true e⟩
    · cases e
  · cases e

/-- The bounds: the real capacity may be more than the one known. -/
theorem bounds_run {b : Bool} {lo hi mx : Option Operand} {l h m len cap cap' : Nat} (hok : maxOk hi mx = true)
    (hl : (natF lo).run tm 0 = some l) (hh' : (natF hi).run tm len = some h) (hm : (natF mx).run tm cap = some m) (e : okB l h m cap = true) (hle : len ≤ cap) (hc : cap ≤ cap') (w : World) :
    (Instr.sliceBounds b len cap' (lo.map a.eval) (hi.map a.eval) (mx.map a.eval)).run E.P w = .ok (l, h, if mx.isSome then m else cap') w := by
  obtain ⟨h1, h2, h3⟩ := okB_ok (a := a) hE ht hh e
  rcases natF_ok (a := a) hE ht hh hm with ⟨rfl, rfl⟩ | ⟨y, k, rfl, ey⟩
  · rcases natF_ok (a := a) hE ht hh hh' with ⟨rfl, rfl⟩ | ⟨y2, k2, rfl, ey2⟩ <;> rcases natF_ok (a := a) hE ht hh hl with ⟨rfl, rfl⟩ | ⟨y3, k3, rfl, ey3⟩ <;>
      simp [Instr.sliceBounds, *, bound_run (a := a) hE ht hh h1, bound_run (a := a) hE ht hh (Nat.le_trans (Nat.le_trans h2 h3) hc)]
  · rcases natF_ok (a := a) hE ht hh hh' with ⟨rfl, rfl⟩ | ⟨y2, k2, rfl, ey2⟩
    · cases hok
    · rcases natF_ok (a := a) hE ht hh hl with ⟨rfl, rfl⟩ | ⟨y3, k3, rfl, ey3⟩ <;>
      simp [Instr.sliceBounds, *, bound_run (a := a) hE ht hh h1, bound_run (a := a) hE ht hh h2, bound_run (a := a) hE ht hh (Nat.le_trans h3 hc)]

theorem qSlice_ok {t : TypeId} {x : Operand} {lo hi mx : Option Operand} (ho : o.op = .slice t x lo hi mx) (h : (sliceF E t x lo hi mx).run tm hp = some q) : QOk E N ν ρ hp a o w q := by
  unfold sliceF at h
  split at h
  · cases h
  · rename_i hok
    split at h
    · rename_i hu
      split at h
      · -- a text
        simp only [sliceStr] at h
        split at h
        · rename_i n v hx
          split at h
          · rename_i l hh2 hl hhi
            split at h
            · rename_i hb
              split at h
              · rename_i r hr
                cases h
                obtain ⟨h1, h2, h3⟩ := okB_ok (a := a) hE ht hh hb
                have hb2 := bounds_run (a := a) (b := false) (mx := none) hE ht hh hok hl hhi (show (natF none).run tm n = some n from rfl) hb (Nat.le_refl _) (Nat.le_refl n) w
                obtain ⟨e, hv⟩ := VR_str.1 (evF_ok ht hx)
                refine .val (s := Instr.sliceAt t (a.eval x) (lo.map a.eval) (hi.map a.eval) (none.map a.eval)) (by rw [execOp, ho]) ⟨_, ?_, strSub_ok h1 h2 hr⟩
                rw [e]
                simp only [Instr.sliceAt, Sem.run_bind, run_und hE hu, Result.andThen_ok, Instr.slice, strOf_size, Option.map_none, Option.isSome_none, Bool.false_eq_true, if_false] at hb2 ⊢
                rw [hb2]
                rfl
              · cases h
            · cases h
          · cases h
        · cases h
      · cases h
    · rename_i e hu
      split at h
      · rename_i n hn
        simp only [sliceSl] at h
        split at h
        · rename_i hx
          split at h
          · rename_i hl hhi hm
            cases h
            refine .val (s := Instr.sliceAt t (a.eval x) (lo.map a.eval) (hi.map a.eval) (mx.map a.eval)) (by rw [execOp, ho]) ⟨.slice none 0 0, ?_, VR_nslice.2 rfl⟩
            have hb2 := bounds_run (a := a) (b := true) hE ht hh hok hl hhi hm (show okB 0 0 0 0 = true from rfl) (Nat.le_refl _) (Nat.le_refl 0) w
            rw [VR_nslice.1 (evF_ok ht hx)]
            simp only [Instr.sliceAt, Sem.run_bind, run_und hE hu, Result.andThen_ok, Instr.slice, hb2, szOf_ok hE hn, Sem.run_pure]
            simp
          · cases h
        · rename_i id off len cap ex hx
          split at h
          · rename_i l hh2 m hl hhi hm
            split at h
            · rename_i hb
              obtain ⟨b, c, off', cap', hr, hs, ev⟩ := VR_slice.1 (evF_ok ht hx)
              obtain ⟨h1, h2, h3⟩ := okB_ok (a := a) hE ht hh hb
              have hcc : cap ≤ cap' := by
                cases ex with
                | true => rw [(hs.2.1 rfl).2]; exact Nat.le_refl _
                | false => exact (hs.2.2 rfl).1
              have hb2 := bounds_run (a := a) (b := true) hE ht hh hok hl hhi hm hb hs.1 hcc w
              have hrun : ∀ r, VR ν ρ r (.slice (if (if mx.isSome then m else cap') = l then some ⟨b, off', none⟩ else some ⟨b, off' + l * n.succ, none⟩) (hh2 - l) ((if mx.isSome then m else cap') - l)) →
                  QOk E N ν ρ hp a o w (.val r) := by
                intro r hr
                refine .val (s := Instr.sliceAt t (a.eval x) (lo.map a.eval) (hi.map a.eval) (mx.map a.eval)) (by rw [execOp, ho]) ⟨_, ?_, hr⟩
                rw [ev]
                simp only [Instr.sliceAt, Sem.run_bind, run_und hE hu, Result.andThen_ok, Instr.slice, hb2, szOf_ok hE hn, Sem.run_pure, Option.map_some, addr_add]
              split at h
              · rename_i h3x
                have hmx : mx.isSome = true := by cases mx with
                  | none => cases h3x
                  | some _ => rfl
                simp only [cut3, frc_eq] at h
                rw [hmx] at hrun
                simp only [if_true] at hrun
                split at h
                · rename_i hml
                  have hml := beq_true hml
                  cases h
                  refine hrun _ (VR_slice.2 ⟨b, c, off', m - l, hr, ?_, by rw [if_pos hml]; rfl⟩)
                  refine ⟨Nat.sub_le_sub_right h2 l, fun hex => ⟨(hs.2.1 hex).1, rfl⟩, fun hex => ⟨Nat.le_refl _, .inr (Nat.sub_eq_zero_of_le (Nat.le_of_eq hml)), fun _ h0 => ?_⟩⟩
                  have : Nat.sub m l = m - l := rfl
                  omega
                · rename_i hml
                  have hml := beq_false hml
                  cases h
                  have ho : off' = off := by
                    cases ex with
                    | true => exact (hs.2.1 rfl).1
                    | false =>
                      rcases (hs.2.2 rfl).2.1 with h | h
                      · exact h
                      · omega
                  subst ho
                  exact hrun _ (VR_slice.2 ⟨b, c, off' + l * n.succ, m - l, hr, ⟨Nat.sub_le_sub_right h2 l, fun _ => ⟨rfl, rfl⟩, fun h => (by cases h)⟩, by rw [if_neg hml]; rfl⟩)
              · rename_i h3x
                have hmx : mx = none := by cases mx with
                  | none => rfl
                  | some _ => cases h3x
                subst hmx
                have hm' : m = cap := by
                  rcases natF_ok (a := a) hE ht hh hm with ⟨_, h⟩ | ⟨_, _, h, _⟩
                  · exact h
                  · cases h
                subst hm'
                simp only [cut2, frc_eq] at h
                simp only [Option.isSome_none, Bool.false_eq_true, if_false] at hrun
                have hlen : hh2 - l ≤ m - l := Nat.sub_le_sub_right h2 l
                cases ex with
                | true =>
                  obtain ⟨rfl, rfl⟩ := hs.2.1 rfl
                  split at h
                  · rename_i hml
                    have hml := beq_true hml
                    cases h
                    exact hrun _ (VR_slice.2 ⟨b, c, off', cap' - l, hr, ⟨hlen, fun _ => ⟨rfl, rfl⟩, fun h => (by cases h)⟩, by rw [if_pos hml]; rfl⟩)
                  · rename_i hml
                    have hml := beq_false hml
                    cases h
                    exact hrun _ (VR_slice.2 ⟨b, c, off' + l * n.succ, cap' - l, hr, ⟨hlen, fun _ => ⟨rfl, rfl⟩, fun h => (by cases h)⟩, by rw [if_neg hml]; rfl⟩)
                | false =>
                  obtain ⟨g1, g2, g3⟩ := hs.2.2 rfl
                  split at h
                  · rename_i hml
                    have hml := beq_true hml
                    cases h
                    refine hrun _ (VR_slice.2 ⟨b, c, if cap' = l then off' else off' + l * n.succ, cap' - l, hr, ⟨hlen, fun h => (by cases h), fun _ => ⟨?_, .inr ?_, fun _ h0 => ?_⟩⟩, ?_⟩)
                    · exact Nat.sub_le_sub_right hcc l
                    · exact Nat.sub_eq_zero_of_le (Nat.le_of_eq hml)
                    · have : Nat.sub m l = m - l := rfl
                      omega
                    · split <;> rfl
                  · rename_i hml
                    have hml := beq_false hml
                    cases h
                    have hml2 : l < m := by omega
                    have ho : off' = off := by
                      rcases g2 with h | h
                      · exact h
                      · omega
                    subst ho
                    refine hrun _ (VR_slice.2 ⟨b, c, off' + l * n.succ, cap' - l, hr, ⟨hlen, fun h => (by cases h), fun _ => ⟨Nat.sub_le_sub_right hcc l, .inl rfl, fun h0 h1 => ?_⟩⟩, by rw [if_neg (by omega)]; rfl⟩)
                    have h0 : off' + l * (n + 1) = 0 := h0
                    have h0' : off' = 0 ∧ l * (n + 1) = 0 := Nat.add_eq_zero_iff.1 h0
                    have hl0 : l = 0 := by
                      rcases Nat.mul_eq_zero.1 h0'.2 with h | h
                      · exact h
                      · omega
                    subst hl0
                    exact g3 h0'.1 (by omega)
            · cases h
          · cases h
        · cases h
      · cases h
    · rename_i k e hu
      split at h
      · rename_i n hn
        simp only [sliceAr] at h
        split at h
        · rename_i id off hx
          split at h
          · rename_i l hh2 m hl hhi hm
            split at h
            · rename_i hb
              obtain ⟨b, hr, ev⟩ := VR_ptr.1 (evF_ok ht hx)
              obtain ⟨h1, h2, h3⟩ := okB_ok (a := a) hE ht hh hb
              have hb2 := bounds_run (a := a) (b := false) hE ht hh hok hl hhi hm hb (Nat.le_refl _) (Nat.le_refl k) w
              have hmm : (if mx.isSome then m else k) = m := by
                cases mx with
                | none => rcases natF_ok (a := a) hE ht hh hm with ⟨_, h⟩ | ⟨_, _, h, _⟩
                          · exact h.symm
                          · cases h
                | some _ => rfl
              rw [hmm] at hb2
              have hrun : ∀ r, VR ν ρ r (.slice (some (if m = l then ⟨b, off, none⟩ else ⟨b, off + l * n, none⟩)) (hh2 - l) (m - l)) → QOk E N ν ρ hp a o w (.val r) := by
                intro r hr
                refine .val (s := Instr.sliceAt t (a.eval x) (lo.map a.eval) (hi.map a.eval) (mx.map a.eval)) (by rw [execOp, ho]) ⟨_, ?_, hr⟩
                rw [ev]
                simp only [Instr.sliceAt, Sem.run_bind, run_und hE hu, Result.andThen_ok, Instr.sureAddr, hb2, szOf_ok hE hn, Sem.run_pure, addr_add]
              obtain ⟨c, hc⟩ := hr
              simp only [cut3, frc_eq] at h
              split at h
              · rename_i hml
                have hml := beq_true hml
                cases h
                exact hrun _ (VR_slice.2 ⟨b, c, off, m - l, hc, ⟨Nat.sub_le_sub_right h2 l, fun _ => ⟨rfl, rfl⟩, fun h => (by cases h)⟩, by rw [if_pos hml]; rfl⟩)
              · rename_i hml
                have hml := beq_false hml
                cases h
                exact hrun _ (VR_slice.2 ⟨b, c, off + l * n, m - l, hc, ⟨Nat.sub_le_sub_right h2 l, fun _ => ⟨rfl, rfl⟩, fun h => (by cases h)⟩, by rw [if_neg hml]; rfl⟩)
            · cases h
          · cases h
        · cases h
      · cases h
    · cases h

end
end Pk
/- The abstract run is sound: maps read, lengths; all quiet operations. -/
namespace Pk
open Go Go.RowKit

section
variable {N : Nat} {ν : Nat → Int} {ρ : Rho} {E : Env} {hp : Tr AObj} {nx : Nat} {w0 w : World}
variable (hE : EnvOK E) (hpc : ∀ p ∈ E.pc, PFok ν p)
variable {tm : Tr AV} {a : Act} (ht : TR ν ρ tm a.tmps) (hh : HR N ν w0 ρ hp nx w) {o : Oper} {q : QR}

include hE

/-! Keys. -/
theorem checkKey_ok (b : Bool) : ∀ (n : Nat) (t : TypeId) (k : AV) (v : Value) (d : Nat) (w : World), plainT E n t = true → VR ν ρ k v → (eqTF E n t).run k k = some true → n ≤ d →
    (Instr.checkKey b d t v).run E.P w = .ok () w
  | 0, t, k, v, d, w, h, _, _, _ => by cases h
  | n + 1, t, k, v, d, w, h, hv, he, hd => by
    obtain ⟨d, rfl⟩ : ∃ e, d = e + 1 := ⟨d - 1, by omega⟩
    simp only [plainT] at h
    unfold Instr.checkKey
    rw [Sem.run_bind]
    split at h
    · rename_i hu; rw [run_und hE hu, Result.andThen_ok]; rfl
    · rename_i hu; rw [run_und hE hu, Result.andThen_ok]; rfl
    · rename_i hu; rw [run_und hE hu, Result.andThen_ok]; rfl
    · rename_i fs hu
      rw [run_und hE hu, Result.andThen_ok]
      simp only [eqTF, hu] at he
      split at he
      · cases he
      · cases k <;> try (cases he; done)
        rename_i l
        simp only at he
        obtain ⟨cs, hc, sc, rfl⟩ := VR_agg.1 hv
        simp only
        rw [← Array.forIn_toList]
        have key : ∀ (l2 : List Field), (l2.all fun f => plainT E n f.type) = true → (eqFs E (eqTF E n) l2).run l l = some true →
            (forIn (m := Sem) l2 PUnit.unit fun f _ => do
              if f.name ≠ "_" then
                Instr.checkKey b d f.type (← part f.type cs.toArray f.offset)
                pure (ForInStep.yield PUnit.unit)
              else pure (ForInStep.yield PUnit.unit)).run E.P w = .ok PUnit.unit w := by
          intro l2
          induction l2 with
          | nil => intro _ _; rfl
          | cons f l2 ih =>
            intro h1 h2
            simp only [List.all_cons, Bool.and_eq_true] at h1
            simp only [eqFs] at h2
            rw [List.forIn_cons]
            split at h2
            · rename_i hn
              have hn := of_decide_eq_true hn
              simp only [hn, ne_eq, not_true, if_false, Sem.run_bind, Sem.run_pure, Result.andThen_ok]
              exact ih h1.2 h2
            · rename_i hn
              have hn := of_decide_eq_false hn
              simp only at h2
              split at h2
              · rename_i x hx
                split at h2
                · rename_i y hy
                  cases hy
                  obtain ⟨v', e1, e2⟩ := partF_ok hE (cs := cs.toArray) (VRp.ofVRs hc sc) hx w
                  split at h2
                  · rename_i hr
                    have := checkKey_ok b n f.type x v' d w h1.1 e2 hr (by omega)
                    simp only [hn, ne_eq, not_false_eq_true, if_true, Sem.run_bind, Sem.run_pure, Result.andThen_ok, e1, this]
                    exact ih h1.2 h2
                  · cases h2
                  · cases h2
                · cases h2
              · cases h2
        have := key fs.toList h he
        simp only [Sem.run_bind]
        first | exact this | (rw [this]; rfl) | (simpa using this)
    · cases h

theorem sameNow_ok {t : TypeId} {d : TypeDesc} (hu : und E t = some d) {x y : Value} {b : Bool} (h : Instr.sameNow d x y = some b) (n : Nat) (w : World) :
    (Op.equalIn (n + 1) t x y).run E.P w = .ok b w := by
  have hu' := und_ok hE hu
  unfold Instr.sameNow at h
  split at h
  · split at h
    · rename_i hk
      subst hk
      cases h
      rw [run_equalIn_int w n t _ _ _ _ hu']
    · cases h
  · cases h
    rw [run_equalIn_string w n t _ _ hu']
    congr 1
    exact (beq_toListBytes _ _).symm
  · cases h
    rw [run_equalIn_bool' w n t _ _ hu']
  · cases h

/-- What has been found. -/
def FoR (ν : Nat → Int) (ρ : Rho) : Option (Nat × AV) → Option (Nat × Value) → Prop
  | none, x => x = none
  | some (i, v), x => ∃ v', x = some (i, v') ∧ VR ν ρ v v'

theorem findAsking_ok {t : TypeId} {n : Nat} {k : AV} {kv : Value} (hk : VR ν ρ k kv) (hn : n ≤ 10000) (w : World) :
    ∀ (es : List AEnt) (fs : List MapEntry) (i : Nat) (r : Option (Nat × AV)), EntRs ν ρ es fs → findA (eqTF E n t) k es i = some r →
      ∃ r', (Instr.findAsking t kv fs i).run E.P w = .ok r' w ∧ FoR ν ρ r r'
  | [], fs, i, r, hs, h => by
    cases hs; cases h
    exact ⟨none, rfl, rfl⟩
  | e :: es, fs, i, r, hs, h => by
    obtain ⟨f, r1, he, hr, rfl⟩ := hs
    unfold findA at h
    split at h
    · rename_i hq
      cases h
      have := eqTF_ok hE n t k e.key kv f.key true 10000 w hk he.1 hq hn
      refine ⟨some (i, f.val), ?_, f.val, rfl, he.2.1⟩
      unfold Instr.findAsking Op.equal Op.maxDepth
      rw [Sem.run_bind, this]
      simp
    · rename_i hq
      have := eqTF_ok hE n t k e.key kv f.key false 10000 w hk he.1 hq hn
      obtain ⟨r', h1, h2⟩ := findAsking_ok hk hn w es r1 (i + 1) r hr h
      refine ⟨r', ?_, h2⟩
      unfold Instr.findAsking Op.equal Op.maxDepth
      rw [Sem.run_bind, this]
      simpa using h1
    · cases h

theorem findNow_ok {t : TypeId} {d : TypeDesc} (hu : und E t = some d) {n : Nat} {k : AV} {kv : Value} (hk : VR ν ρ k kv) (hn : n ≤ 10000) (w : World) :
    ∀ (es : List AEnt) (fs : List MapEntry) (i : Nat) (r : Option (Nat × AV)) (r' : Option (Nat × Value)), EntRs ν ρ es fs → findA (eqTF E n t) k es i = some r →
      Instr.findNow d kv fs i = some r' → FoR ν ρ r r'
  | [], fs, i, r, r', hs, h, h' => by
    cases hs; cases h; cases h'; rfl
  | e :: es, fs, i, r, r', hs, h, h' => by
    obtain ⟨f, r1, he, hr, rfl⟩ := hs
    unfold findA at h
    unfold Instr.findNow at h'
    split at h
    · rename_i hq
      have h1 := eqTF_ok hE n t k e.key kv f.key true 10000 w hk he.1 hq hn
      split at h'
      · cases h; cases h'; exact ⟨f.val, rfl, he.2.1⟩
      · rename_i hs
        have h2 := sameNow_ok hE hu hs 9999 w
        rw [h1] at h2; cases h2
      · cases h'
    · rename_i hq
      have h1 := eqTF_ok hE n t k e.key kv f.key false 10000 w hk he.1 hq hn
      split at h'
      · rename_i hs
        have h2 := sameNow_ok hE hu hs 9999 w
        rw [h1] at h2; cases h2
      · exact findNow_ok hu hk hn w es r1 (i + 1) r r' hr h h'
      · cases h'
    · cases h

theorem findKey_ok {t : TypeId} {d : TypeDesc} (hu : und E t = some d) {n : Nat} {k : AV} {kv : Value} (hk : VR ν ρ k kv) (hn : n ≤ 10000) (w : World)
    {es : List AEnt} {fs : List MapEntry} {r : Option (Nat × AV)} (hs : EntRs ν ρ es fs) (h : findA (eqTF E n t) k es 0 = some r) :
      ∃ r', (Instr.findKey t kv fs).run E.P w = .ok r' w ∧ FoR ν ρ r r' := by
  unfold Instr.findKey
  rw [Sem.run_bind, run_und hE hu, Result.andThen_ok]
  cases hf : Instr.findNow d kv fs 0 with
  | some r' => exact ⟨r', rfl, findNow_ok hE hu hk hn w es fs 0 r r' hs h hf⟩
  | none => exact findAsking_ok hE hk hn w es fs 0 r hs h

omit hE in
theorem keyQ_ok {t : TypeId} {q : EQ} (h : keyQ E t = some q) : plainT E 20 t = true ∧ q = eqTF E 20 t := by
  unfold keyQ at h
  split at h
  · rename_i hp; cases h; exact ⟨hp, rfl⟩
  · cases h

omit hE in
theorem plainT_und {n : Nat} {t : TypeId} (h : plainT E n t = true) : ∃ d, und E t = some d := by
  cases n with
  | zero => cases h
  | succ n =>
    simp only [plainT] at h
    cases hu : und E t with
    | none => rw [hu] at h; cases h
    | some d => exact ⟨d, rfl⟩

omit hE in
theorem keyOk_ok {q : EQ} {k : AV} (h : keyOk q k = true) : q.run k k = some true := by
  unfold keyOk at h
  split at h
  · assumption
  · cases h

include ht hh

omit hE ht hh in
theorem EntRs.length {es : List AEnt} {fs : List MapEntry} (h : EntRs ν ρ es fs) : fs.length = es.length := by
  induction es generalizing fs with
  | nil => cases h; rfl
  | cons e es ih => obtain ⟨f, r, _, k, rfl⟩ := h; simp [ih k]

theorem qLookup_ok {t : TypeId} {x y : Operand} {ok : Bool} (ho : o.op = .lookup t x y ok) (h : (lookupF E t x y ok).run tm hp = some q) : QOk E N ν ρ hp a o w q := by
  unfold lookupF at h
  split at h
  · rename_i kt et hu
    split at h
    · rename_i qq z hq hz
      obtain ⟨hp1, rfl⟩ := keyQ_ok hq
      obtain ⟨kd, hkd⟩ := plainT_und hp1
      obtain ⟨z', hz1, hz2⟩ := zeroA_ok (ν := ν) (ρ := ρ) hE hz w
      simp only at h
      split at h
      · rename_i m k hx hy
        have em := evF_ok ht hx
        have ek := evF_ok ht hy
        split at h
        · rename_i hko
          have hko := keyOk_ok hko
          have hck := fun b => checkKey_ok (ν := ν) (ρ := ρ) hE b 20 kt k (a.eval y) 10000 w hp1 ek hko (by omega)
          -- the answer out of what was found
          have fin : ∀ (fs : Array MapEntry) (r : Option (Nat × AV)) (r' : Option (Nat × Value)) (v : AV) (there : Bool),
              (∀ r', (Instr.findKey kt (a.eval y) fs.toList).run E.P w = .ok r' w → (Instr.lookup t (a.eval x) (a.eval y) ok).run E.P w = .ok (match r' with
                | some (_, v) => (if ok then .tuple #[v, .bool true] else v)
                | none => (if ok then .tuple #[z', .bool false] else z')) w) →
              (Instr.findKey kt (a.eval y) fs.toList).run E.P w = .ok r' w → FoR ν ρ r r' →
              ((∃ i, r = some (i, v) ∧ there = true) ∨ (r = none ∧ v = z ∧ there = false)) → okV ok v there = some q → QOk E N ν ρ hp a o w q := by
            intro fs r r' v there h1 h2 h3 h4 h5
            have h1 := h1 r' h2
            rcases h4 with ⟨i, rfl, rfl⟩ | ⟨rfl, rfl, rfl⟩
            · obtain ⟨v', rfl, hv⟩ := h3
              cases ok with
              | true =>
                cases h5
                exact .val (s := Instr.lookup t (a.eval x) (a.eval y) true) (by rw [execOp, ho]) ⟨_, h1, VR_tup.2 ⟨[v', .bool true], VRs_cons.2 ⟨_, _, hv, VRs.one (VR_bool.2 rfl), rfl⟩, rfl⟩⟩
              | false =>
                cases h5
                exact .val (s := Instr.lookup t (a.eval x) (a.eval y) false) (by rw [execOp, ho]) ⟨_, h1, hv⟩
            · have : r' = none := h3
              subst this
              cases ok with
              | true =>
                cases h5
                exact .val (s := Instr.lookup t (a.eval x) (a.eval y) true) (by rw [execOp, ho]) ⟨_, h1, VR_tup.2 ⟨[z', .bool false], VRs_cons.2 ⟨_, _, hz2, VRs.one (VR_bool.2 rfl), rfl⟩, rfl⟩⟩
              | false =>
                cases h5
                exact .val (s := Instr.lookup t (a.eval x) (a.eval y) false) (by rw [execOp, ho]) ⟨_, h1, hz2⟩
          split at h
          · -- no map
            have hl : ∀ r', (Instr.findKey kt (a.eval y) (#[] : Array MapEntry).toList).run E.P w = .ok r' w → (Instr.lookup t (a.eval x) (a.eval y) ok).run E.P w = .ok (match r' with
                | some (_, v) => (if ok then .tuple #[v, .bool true] else v)
                | none => (if ok then .tuple #[z', .bool false] else z')) w := by
              intro r' e
              rw [VR_nmap.1 em]
              simp only [Instr.lookup, Sem.run_bind, run_und hE hu, Result.andThen_ok, Sem.run_pure, hck, e]
              cases r' with
              | none => simp [hz1]
              | some p => obtain ⟨i, v⟩ := p; simp
            obtain ⟨r', e1, e2⟩ := findKey_ok (ν := ν) (ρ := ρ) (es := []) (fs := []) hE hkd ek (by omega : 20 ≤ 10000) w rfl (rfl : findA (eqTF E 20 kt) k [] 0 = some none)
            exact fin #[] none r' z false hl e1 e2 (.inr ⟨rfl, rfl, rfl⟩) h
          · rename_i id
            split at h
            · rename_i es clock hb
              obtain ⟨b, ⟨c, hbc⟩, em⟩ := VR_map.1 em
              obtain ⟨ob, h1, fs, rfl, h2, h3⟩ := hh.live id _ b c hb hbc
              have hl : ∀ r', (Instr.findKey kt (a.eval y) fs.toList).run E.P w = .ok r' w → (Instr.lookup t (a.eval x) (a.eval y) ok).run E.P w = .ok (match r' with
                  | some (_, v) => (if ok then .tuple #[v, .bool true] else v)
                  | none => (if ok then .tuple #[z', .bool false] else z')) w := by
                intro r' e
                have hg : (getObj b).run E.P w = .ok (.map fs clock) w := by simp [getObj, Sem.run, h1]
                rw [em]
                simp only [Instr.lookup, Sem.run_bind, run_und hE hu, Result.andThen_ok, Sem.run_pure, hg, hck, e]
                cases r' with
                | none => simp [hz1]
                | some p => obtain ⟨i, v⟩ := p; simp
              split at h
              · rename_i i v hf
                obtain ⟨r', e1, e2⟩ := findKey_ok (ν := ν) (ρ := ρ) hE hkd ek (by omega : 20 ≤ 10000) w h2 hf
                exact fin fs _ r' v true hl e1 e2 (.inl ⟨i, rfl, rfl⟩) h
              · rename_i hf
                obtain ⟨r', e1, e2⟩ := findKey_ok (ν := ν) (ρ := ρ) hE hkd ek (by omega : 20 ≤ 10000) w h2 hf
                exact fin fs _ r' z false hl e1 e2 (.inr ⟨rfl, rfl, rfl⟩) h
              · cases h
            · cases h
          · cases h
        · cases h
      · cases h
    · cases h
  · cases h

/-! Lengths. -/
theorem qBuiltin_ok {b : Builtin} {xs : Array Operand} {ts : Array TypeId} (ho : o.op = .call ⟨.builtin b, xs, ts⟩) (h : (builtinQ E b xs.toList ts.toList).run tm hp = some q) : QOk E N ν ρ hp a o w q := by
  have hx0 : ∀ (x : Operand) (l : List Operand), xs.toList = x :: l → (xs.map a.eval)[0]? = some (a.eval x) := by
    intro x l e
    rw [← Array.getElem?_toList, Array.toList_map, e]; rfl
  have ht0 : ∀ (x : TypeId) (l : List TypeId), ts.toList = x :: l → ts[0]? = some x := by
    intro x l e
    rw [← Array.getElem?_toList, e]; rfl
  have hex : ∀ s : Sem Value, (∀ c, builtin b ts o.type c (xs.map a.eval) = (do pure (.value (← s)) : Sem Next)) → execOp a.eval o = (do pure (.value (← s)) : Sem Next) := by
    intro s e
    rw [execOp, ho]
    exact e _
  unfold builtinQ at h
  split at h
  · split at h
    · rename_i x l t l2 hxs hts
      have hx0 := hx0 _ _ hxs
      have ht0 := ht0 _ _ hts
      have hex := hex (Builtin.len_ ts o.type (xs.map a.eval)) fun _ => rfl
      unfold lenF at h
      split at h
      · rename_i hu
        obtain ⟨v, r, hx, hr, rfl⟩ := q1_run h
        simp only at hr
        split at hr
        · cases hr
          refine .val hex ⟨_, ?_, VR_int.2 rfl⟩
          simp [Builtin.len_, hx0, ht0, run_und hE hu, (VR_str.1 (evF_ok ht hx)).1, strOf_size, goInt]
        · cases hr
      · rename_i hu
        obtain ⟨v, r, hx, hr, rfl⟩ := q1_run h
        simp only at hr
        split at hr
        · cases hr
          refine .val hex ⟨_, ?_, VR_int.2 rfl⟩
          simp [Builtin.len_, hx0, ht0, run_und hE hu, VR_nslice.1 (evF_ok ht hx), goInt]
        · cases hr
          obtain ⟨b, c, off', cap', _, _, e⟩ := VR_slice.1 (evF_ok ht hx)
          refine .val hex ⟨_, ?_, VR_int.2 rfl⟩
          simp [Builtin.len_, hx0, ht0, run_und hE hu, e, goInt]
        · cases hr
      · rename_i hu
        simp only at h
        split at h
        · rename_i hx
          cases h
          refine .val hex ⟨_, ?_, VR_int.2 rfl⟩
          simp [Builtin.len_, hx0, ht0, run_und hE hu, VR_nmap.1 (evF_ok ht hx), goInt]
        · rename_i id hx
          split at h
          · rename_i es clock hb
            rw [lenK_eq] at h
            cases h
            obtain ⟨b, ⟨c, hbc⟩, em⟩ := VR_map.1 (evF_ok ht hx)
            obtain ⟨ob, h1, fs, rfl, h2, h3⟩ := hh.live id _ b c hb hbc
            have hg : (getObj b).run E.P w = .ok (.map fs clock) w := by simp [getObj, Sem.run, h1]
            refine .val hex ⟨_, ?_, VR_int.2 rfl⟩
            have hlen : fs.size = es.length := by rw [← Array.length_toList]; exact h2.length
            simp [Builtin.len_, hx0, ht0, run_und hE hu, em, hg, goInt, hlen]
          · cases h
        · cases h
      · rename_i hu
        obtain ⟨v, r, hx, hr, rfl⟩ := q1_run h
        cases hr
        refine .val hex ⟨_, ?_, VR_int.2 rfl⟩
        simp [Builtin.len_, hx0, ht0, run_und hE hu, goInt]
      · cases h
    · cases h
  · split at h
    · rename_i x l t l2 hxs hts
      have hx0 := hx0 _ _ hxs
      have ht0 := ht0 _ _ hts
      have hex := hex (Builtin.cap_ ts o.type (xs.map a.eval)) fun _ => rfl
      unfold capF at h
      split at h
      · rename_i hu
        obtain ⟨v, r, hx, hr, rfl⟩ := q1_run h
        simp only at hr
        split at hr
        · cases hr
          refine .val hex ⟨_, ?_, VR_int.2 rfl⟩
          simp [Builtin.cap_, hx0, ht0, run_und hE hu, VR_nslice.1 (evF_ok ht hx), goInt]
        · cases hr
          obtain ⟨b, c, off', cap', _, hs, e⟩ := VR_slice.1 (evF_ok ht hx)
          refine .val hex ⟨_, ?_, VR_int.2 rfl⟩
          simp [Builtin.cap_, hx0, ht0, run_und hE hu, e, goInt, (hs.2.1 rfl).2]
        · cases hr
      · cases h
    · cases h
  · have hex := hex (Builtin.max_ ts o.type (xs.map a.eval)) fun _ => rfl
    unfold maxF at h
    simp only at h
    split at h
    · rename_i v l hl
      split at h
      · rename_i r hr
        cases h
        refine .val hex ?_
        obtain ⟨x, vs, hx, hvs, e⟩ := VRs_cons.1 (evL_ok ht hl)
        have key : ∀ (l : List AV) (v : AV) (x : Value) (vs : List Value), VR ν ρ v x → VRs ν ρ l vs → maxA false v l = some r → ∃ y, (vs.foldlM Builtin.max2 x).run E.P w = .ok y w ∧ VR ν ρ r y := by
          intro l
          induction l with
          | nil => intro v x vs h1 h2 h3; rw [VRs_nil] at h2; subst h2; cases h3; exact ⟨x, rfl, h1⟩
          | cons b l ih =>
            intro v x vs h1 h2 h3
            obtain ⟨y, vs, h4, h5, rfl⟩ := VRs_cons.1 h2
            unfold maxA at h3
            split at h3
            · rename_i k m
              split at h3
              · rename_i k' n
                split at h3
                · rename_i hk
                  have := kEq_ok hk; subst this
                  rw [VR_int.1 h1, VR_int.1 h4]
                  rw [List.foldlM_cons]
                  simp only [Builtin.max2, Sem.run_bind, Sem.run_pure, Result.andThen_ok]
                  simp only at h3
                  split at h3
                  · rename_i hc
                    have hc : m < n := by rwa [ilt_ok, decide_eq_true_eq] at hc
                    rw [if_pos hc]
                    exact ih _ _ vs (VR_int.2 rfl) h5 h3
                  · rename_i hc
                    have hc : ¬ m < n := by rwa [ilt_ok, decide_eq_false_iff_not] at hc
                    rw [if_neg hc]
                    exact ih _ _ vs (VR_int.2 rfl) h5 h3
                · cases h3
              · cases h3
            · cases h3
        obtain ⟨y, h1, h2⟩ := key l v x vs hx hvs hr
        refine ⟨y, ?_, h2⟩
        unfold Builtin.max_
        rw [Array.toList_map, e]
        exact h1
      · cases h
    · cases h
  · have hex := hex (Builtin.min_ ts o.type (xs.map a.eval)) fun _ => rfl
    unfold maxF at h
    simp only at h
    split at h
    · rename_i v l hl
      split at h
      · rename_i r hr
        cases h
        refine .val hex ?_
        obtain ⟨x, vs, hx, hvs, e⟩ := VRs_cons.1 (evL_ok ht hl)
        have key : ∀ (l : List AV) (v : AV) (x : Value) (vs : List Value), VR ν ρ v x → VRs ν ρ l vs → maxA true v l = some r → ∃ y, (vs.foldlM Builtin.min2 x).run E.P w = .ok y w ∧ VR ν ρ r y := by
          intro l
          induction l with
          | nil => intro v x vs h1 h2 h3; rw [VRs_nil] at h2; subst h2; cases h3; exact ⟨x, rfl, h1⟩
          | cons b l ih =>
            intro v x vs h1 h2 h3
            obtain ⟨y, vs, h4, h5, rfl⟩ := VRs_cons.1 h2
            unfold maxA at h3
            split at h3
            · rename_i k m
              split at h3
              · rename_i k' n
                split at h3
                · rename_i hk
                  have := kEq_ok hk; subst this
                  rw [VR_int.1 h1, VR_int.1 h4]
                  rw [List.foldlM_cons]
                  simp only [Builtin.min2, Sem.run_bind, Sem.run_pure, Result.andThen_ok]
                  simp only at h3
                  split at h3
                  · rename_i hc
                    have hc : n < m := by rwa [ilt_ok, decide_eq_true_eq] at hc
                    rw [if_pos hc]
                    exact ih _ _ vs (VR_int.2 rfl) h5 h3
                  · rename_i hc
                    have hc : ¬ n < m := by rwa [ilt_ok, decide_eq_false_iff_not] at hc
                    rw [if_neg hc]
                    exact ih _ _ vs (VR_int.2 rfl) h5 h3
                · cases h3
              · cases h3
            · cases h3
        obtain ⟨y, h1, h2⟩ := key l v x vs hx hvs hr
        refine ⟨y, ?_, h2⟩
        unfold Builtin.min_
        rw [Array.toList_map, e]
        exact h1
      · cases h
    · cases h
  · cases h

end
end Pk
/- The abstract run is sound: the quiet operations, all. -/
namespace Pk
open Go Go.RowKit

section
variable {N : Nat} {ν : Nat → Int} {ρ : Rho} {E : Env} {hp : Tr AObj} {nx : Nat} {w0 w : World}
variable (hE : EnvOK E) (hpc : ∀ p ∈ E.pc, PFok ν p)
variable {tm : Tr AV} {a : Act} (ht : TR ν ρ tm a.tmps) (hh : HR N ν w0 ρ hp nx w) {o : Oper} {q : QR}
include hE hpc ht hh

theorem qop_ok (h : (qop E o.op).run tm hp = some q) : QOk E N ν ρ hp a o w q := by
  generalize ho : o.op = op at h
  unfold qop at h
  split at h
  · exact qMove_ok hE ht hh ho h
  · exact qPick_ok hE ht hh ho (by simpa only [qop] using h)
  · exact qAlloc_ok hE ht hh ho (by simpa only [qop] using h)
  · exact qBox_ok hE ht hh ho (by simpa only [qop] using h)
  · exact qBuild_ok hE ht ho h
  · exact qBuildSlice_ok hE ht hh ho h
  · exact qLoad_ok hE ht hh ho h
  · exact qNil_ok hE ht hh ho (by simpa only [qop] using h)
  · rename_i bo t x y z
    obtain ⟨v, u, r, hx, hy, hr, rfl⟩ := q2_run h
    obtain ⟨h1, v', h2, h3⟩ := binF_ok hE hpc (x := x) (y := y) hr (evF_ok ht hx) (evF_ok ht hy) w
    refine ⟨v', w, ?_, h3, rfl⟩
    rw [execOp, ho]; dsimp only
    simp only [Sem.run_bind, h1, Result.andThen_ok, h2, Sem.run_pure]
  · exact qUn_ok hE ht hh ho h
  · exact conv_ok hE ht hh ho h
  · exact qIface_ok hE ht hh ho (by simpa only [qop] using h)
  · exact qFunc_ok hE ht hh ho (by simpa only [qop] using h)
  · exact qMap_ok hE ht hh ho (by simpa only [qop] using h)
  · exact qMakeSlice_ok hE ht hh ho h
  · exact qSlice_ok hE ht hh ho h
  · exact qFieldAddr_ok hE ht hh ho h
  · exact qField_ok hE ht hh ho h
  · exact qIndexAddr_ok hE ht hh ho h
  · exact qIndex_ok hE ht hh ho h
  · exact qLookup_ok hE ht hh ho h
  · exact qTypeAssert_ok hE ht hh ho h
  · exact qExtract_ok hE ht hh ho (by simpa only [qop] using h)
  · exact qBuiltin_ok hE ht hh ho h
  · cases h
end
end Pk
/- The abstract run is sound: memory as it changes. -/
namespace Pk
open Go Go.RowKit

section
variable {N : Nat} {ν : Nat → Int} {ρ : Rho} {E : Env} {hp : Tr AObj} {nx : Nat} {w0 w w' : World}

/-- One block more is known. -/
def extR (ρ : Rho) (nx r c : Nat) : Rho := fun i => if i = nx then some (r, c) else ρ i

theorem HR.congr {hp' : Tr AObj} (h : HR N ν w0 ρ hp nx w) (e : ∀ i, getP (path i) hp' = getP (path i) hp) : HR N ν w0 ρ hp' nx w :=
  ⟨fun id o r c h1 h2 => h.live id o r c (by rw [← e]; exact h1) h2, h.lt, fun i j o o' r c c' h1 h2 => h.inj i j o o' r c c' (by rw [← e]; exact h1) (by rw [← e]; exact h2), h.fresh, h.below, h.base⟩

theorem Grow.new (h : HR N ν w0 ρ hp nx w) (r c : Nat) : Grow nx ρ (extR ρ nx r c) (nx + 1) :=
  ⟨fun i hi => by unfold extR; rw [if_neg (by omega)], Nat.le_succ nx⟩

theorem extR_ext (h : HR N ν w0 ρ hp nx w) (r c : Nat) : Ext ρ (extR ρ nx r c) := fun i x e => by
  unfold extR
  by_cases hi : i = nx
  · subst hi; rw [h.fresh i (Nat.le_refl _)] at e; cases e
  · rw [if_neg hi]; exact e

theorem HR.new {ob : Obj} {o : AObj} {c : Nat} (h : HR N ν w0 ρ hp nx w) (hw : NewW w w' ob) (ho : OR' N ν ρ w.heap.size c o ob) :
    HR N ν w0 (extR ρ nx w.heap.size c) (putT (some o) (path nx) hp) (nx + 1) w' := by
  have hx := extR_ext h w.heap.size c
  have hsz : w'.heap.size = w.heap.size + 1 := by rw [hw.heap]; simp
  have hold : ∀ k, k < w.heap.size → w'.heap[k]? = w.heap[k]? := fun k hk => by rw [hw.heap, Array.getElem?_push_lt hk, Array.getElem?_eq_getElem hk]
  refine ⟨?_, ?_, ?_, ?_, ?_, ?_⟩
  · intro id o' r c' h1 h2
    rw [get_putN] at h1
    unfold extR at h2
    by_cases hi : id = nx
    · rw [if_pos hi] at h1 h2
      cases h1; cases h2
      exact ⟨ob, by rw [hw.heap]; simp, ho.mono hx⟩
    · rw [if_neg hi] at h1 h2
      obtain ⟨ob', h3, h4⟩ := h.live id o' r c' h1 h2
      exact ⟨ob', by rw [hold r (h.lt id r c' h2)]; exact h3, h4.mono hx⟩
  · intro id r c' h2
    unfold extR at h2
    rw [hsz]
    by_cases hi : id = nx
    · rw [if_pos hi] at h2; cases h2; omega
    · rw [if_neg hi] at h2; have := h.lt id r c' h2; omega
  · intro i j o1 o2 r c1 c2 h1 h2 h3 h4
    rw [get_putN] at h1 h2
    unfold extR at h3 h4
    by_cases hi : i = nx <;> by_cases hj : j = nx
    · rw [hi, hj]
    · rw [if_pos hi] at h3; rw [if_neg hj] at h4
      cases h3; have := h.lt j _ _ h4; omega
    · rw [if_neg hi] at h3; rw [if_pos hj] at h4
      cases h4; have := h.lt i _ _ h3; omega
    · rw [if_neg hi] at h1 h3; rw [if_neg hj] at h2 h4
      exact h.inj i j o1 o2 r c1 c2 h1 h2 h3 h4
  · intro i hi
    unfold extR
    rw [if_neg (by omega)]
    exact h.fresh i (by omega)
  · exact h.below.trans ⟨hw.os, hw.tape, hw.output, by omega, fun k hk => hold k (by have := h.base; omega)⟩
  · have := h.base; omega

/-- One block turned; all else as it was. -/
structure SetW (w w' : World) (r : Nat) (ob : Obj) : Prop where
  heap : w'.heap = w.heap.setIfInBounds r ob
  os : w'.os = w.os
  tape : w'.tape = w.tape
  output : w'.output = w.output

theorem HR.set {id r c : Nat} {o o' : AObj} {ob : Obj} (h : HR N ν w0 ρ hp nx w) (hid : ρ id = some (r, c)) (hl : getP (path id) hp = some o) (hN : N ≤ r)
    (hw : SetW w w' r ob) (ho : OR' N ν ρ r c o' ob) : HR N ν w0 ρ (putT (some o') (path id) hp) nx w' := by
  have hr := h.lt id r c hid
  have hsz : w'.heap.size = w.heap.size := by rw [hw.heap]; simp
  have hold : ∀ k, k ≠ r → w'.heap[k]? = w.heap[k]? := fun k hk => by rw [hw.heap, Array.getElem?_setIfInBounds_ne (Ne.symm hk)]
  refine ⟨?_, ?_, ?_, h.fresh, ?_, ?_⟩
  · intro id2 o2 r2 c2 h1 h2
    rw [get_putN] at h1
    by_cases hi : id2 = id
    · rw [if_pos hi] at h1; subst hi
      cases h1
      rw [hid] at h2; cases h2
      exact ⟨ob, by rw [hw.heap]; simp [hr], ho⟩
    · rw [if_neg hi] at h1
      have hne : r2 ≠ r := fun e => hi (h.inj id2 id o2 o r c2 c h1 hl (by rw [h2, e]) hid)
      obtain ⟨ob', h3, h4⟩ := h.live id2 o2 r2 c2 h1 h2
      exact ⟨ob', by rw [hold r2 hne]; exact h3, h4⟩
  · intro i r c hi; rw [hsz]; exact h.lt i r c hi
  · intro i j o1 o2 r' c1 c2 h1 h2 h3 h4
    rw [get_putN] at h1 h2
    have k1 : ∃ o, getP (path i) hp = some o := by
      by_cases hi : i = id
      · subst hi; exact ⟨_, hl⟩
      · rw [if_neg hi] at h1; exact ⟨_, h1⟩
    have k2 : ∃ o, getP (path j) hp = some o := by
      by_cases hi : j = id
      · subst hi; exact ⟨_, hl⟩
      · rw [if_neg hi] at h2; exact ⟨_, h2⟩
    obtain ⟨a, k1⟩ := k1
    obtain ⟨b, k2⟩ := k2
    exact h.inj i j a b r' c1 c2 k1 k2 h3 h4
  · exact h.below.trans ⟨hw.os, hw.tape, hw.output, by omega, fun k hk => hold k (by omega)⟩
  · rw [hsz]; exact h.base

theorem HR.put_same {id : Nat} {o : AObj} (hl : getP (path id) hp = some o) (i : Nat) : getP (path i) (putT (some o) (path id) hp) = getP (path i) hp := by
  rw [get_putN]
  by_cases hi : i = id
  · subst hi; rw [if_pos rfl, hl]
  · rw [if_neg hi]

theorem HR.kill (h : HR N ν w0 ρ hp nx w) (id : Nat) : HR N ν w0 ρ (putT none (path id) hp) nx w := by
  have k : ∀ i o, getP (path i) (putT none (path id) hp) = some o → getP (path i) hp = some o := by
    intro i o h1
    rw [get_putN] at h1
    by_cases hi : i = id
    · rw [if_pos hi] at h1; cases h1
    · rwa [if_neg hi] at h1
  exact ⟨fun i o r c h1 h2 => h.live i o r c (k i o h1) h2, h.lt, fun i j o o' r c c' h1 h2 => h.inj i j o o' r c c' (k i o h1) (k j o' h2), h.fresh, h.below, h.base⟩

/-- Draws turn nothing. -/
theorem HR.drew (h : HR N ν w0 ρ hp nx w) (hh : w'.heap = w.heap) (ho : w'.os = w.os) (ht : w'.tape = w.tape) (hu : w'.output = w.output) : HR N ν w0 ρ hp nx w' :=
  ⟨fun id o r c h1 h2 => by rw [hh]; exact h.live id o r c h1 h2, fun id r c h1 => by rw [hh]; exact h.lt id r c h1, h.inj, h.fresh,
    h.below.trans ⟨ho, ht, hu, by rw [hh]; exact Nat.le_refl _, fun k _ => by rw [hh]⟩, by rw [hh]; exact h.base⟩

theorem modify_setIfInBounds {α : Type} (xs : Array α) (i : Nat) (f : α → α) (x : α) (h : xs[i]? = some x) : xs.modify i f = xs.setIfInBounds i (f x) := by
  apply Array.ext_getElem?
  intro j
  rw [Array.getElem?_modify]
  by_cases hj : i = j
  · subst hj
    have hi : i < xs.size := (Array.getElem?_eq_some_iff.1 h).1
    rw [if_pos rfl, h]
    simp [hi]
  · rw [if_neg hj, Array.getElem?_setIfInBounds_ne hj]

/-- A block's end marked. -/
theorem HR.mark {id r c g : Nat} {l : List AV} {e : TypeId} {cs : Array Value} {fz : Nat × Nat} {e' : TypeId} (h : HR N ν w0 ρ hp nx w) (hid : ρ id = some (r, c))
    (hl : getP (path id) hp = some (.cells l e true g)) (hb : w.heap[r]? = some (.cells cs e' fz)) : HR N ν w0 ρ hp nx (w.freeze ⟨r, cs.size, none⟩ 1) := by
  obtain ⟨ob, h1, h2⟩ := h.live id _ r c hl hid
  rw [hb] at h1; cases h1
  obtain ⟨cs', fz', e1, hp', hw, hg⟩ := h2
  cases e1
  obtain ⟨hN, hz⟩ := hw rfl
  refine (h.set (o' := .cells l e true g) hid hl hN (ob := .cells cs e (if fz.1 == fz.2 then (cs.size, cs.size + 1) else (min fz.1 cs.size, max fz.2 (cs.size + 1)))) ⟨?_, ?_, ?_, ?_⟩ ?_).congr fun i => (HR.put_same hl i).symm
  · simp only [World.freeze, Nat.one_ne_zero, if_false]
    rw [modify_setIfInBounds _ _ _ _ hb]
  · rfl
  · rfl
  · rfl
  · refine ⟨cs, _, rfl, hp', fun _ => ⟨hN, .inr ?_⟩, fun h0 => ⟨(hg h0).1, .inr ?_⟩⟩
    · have hle := hp'.1
      simp only [Array.length_toList] at hle
      split
      · exact hle
      · rename_i hne
        have hne : fz.1 ≠ fz.2 := by simpa using hne
        rcases hz with hz | hz
        · exact absurd hz hne
        · simp only; omega
    · split
      · exact Nat.le_refl _
      · rename_i hne
        have hne : fz.1 ≠ fz.2 := by simpa using hne
        rcases (hg h0).2 with hz | hz
        · exact absurd hz hne
        · simp only; omega

/-- Cells stored one by one. -/
theorem run_storeCells_list {P : Program} {r : Nat} {e : TypeId} {fz : Nat × Nat} : ∀ (vs : List Value) (off i : Nat) (cs : Array Value) (w : World),
    Sc vs → w.heap[r]? = some (.cells cs e fz) → off + i + vs.length ≤ cs.size → (∀ j, off + i ≤ j → j < off + i + vs.length → ¬(fz.1 ≤ j ∧ j < fz.2)) →
    ∃ w' cs', (storeCells ⟨r, off, none⟩ vs i).run P w = .ok () w' ∧ SetW w w' r (.cells cs' e fz) ∧ cs'.toList = cs.toList.take (off + i) ++ vs ++ cs.toList.drop (off + i + vs.length)
  | [], off, i, cs, w, _, hb, hle, hf => by
    refine ⟨w, cs, rfl, ⟨?_, rfl, rfl, rfl⟩, by simp⟩
    apply Array.ext_getElem?
    intro j
    by_cases hj : r = j
    · subst hj
      have hi : r < w.heap.size := (Array.getElem?_eq_some_iff.1 hb).1
      rw [hb]; simp [hi]
    · rw [Array.getElem?_setIfInBounds_ne hj]
  | v :: vs, off, i, cs, w, sc, hb, hle, hf => by
    simp only [List.length_cons] at hle hf
    have hi : off + i < cs.size := by omega
    have hfr : w.frozen? ⟨r, off + i, none⟩ = false := by
      have := hf (off + i) (Nat.le_refl _) (by omega)
      simp [World.frozen?, hb]
      intro h; omega
    have hc : (w.cell? ⟨r, off + i, none⟩).isSome = true := by
      simp [World.cell?, hb, hi]
    have hs : w.setCell ⟨r, off + i, none⟩ v = { w with heap := w.heap.setIfInBounds r (.cells (cs.setIfInBounds (off + i) v) e fz) } := by
      simp only [World.setCell]
      rw [modify_setIfInBounds _ _ _ _ hb]
      rfl
    have hr : r < w.heap.size := (Array.getElem?_eq_some_iff.1 hb).1
    obtain ⟨w', cs', h1, h2, h3⟩ := run_storeCells_list (P := P) (r := r) (e := e) (fz := fz) vs off (i + 1) (cs.setIfInBounds (off + i) v) (w.setCell ⟨r, off + i, none⟩ v) (fun x hx => sc x (List.mem_cons_of_mem _ hx)) (by rw [hs]; simp [hr]) (by simp; omega) (fun j h1 h2 => hf j (by omega) (by omega))
    refine ⟨w', cs', ?_, ⟨?_, ?_, ?_, ?_⟩, ?_⟩
    · rw [storeCells]
      obtain ⟨u, hu⟩ := Option.isSome_iff_exists.1 hc
      rw [addr_add, Sem.run_bind, run_store P w _ v _ (sc v (List.mem_cons_self ..)), hu, hfr]
      simpa using h1
    · rw [h2.heap, hs]; simp
    · rw [h2.os, hs]
    · rw [h2.tape, hs]
    · rw [h2.output, hs]
    · rw [h3]
      simp only [Array.toList_setIfInBounds]
      have hl : off + i < cs.toList.length := by simp; omega
      rw [List.take_set, List.drop_set, if_pos (by omega)]
      have e1 : (cs.toList.take (off + (i + 1))).set (off + i) v = cs.toList.take (off + i) ++ [v] := by
        rw [← Nat.add_assoc, List.take_succ_eq_append_getElem hl, List.set_append_right _ _ (by simp; omega)]
        have : off + i - (cs.toList.take (off + i)).length = 0 := by simp; omega
        rw [this]; rfl
      rw [e1]
      simp only [List.append_assoc, List.singleton_append, List.length_cons]
      congr 3
      omega

end
end Pk
