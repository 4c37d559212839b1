/- The abstract run of the model, proved right (part 6 of 7). For every program. -/
import Derived.Test.YtimpkpgndnchiaaGreatDoorPkE
import Derived.Orders
set_option linter.unusedSectionVars false
set_option linter.unusedSimpArgs false
set_option linter.unusedVariables false
/- The abstract run is sound: what quiet operations hang on; what they make; equal results. -/
namespace Pk
open Go Go.RowKit

section
variable {E : Env} {tm tm' : Tr AV} {hp : Tr AObj}

theorem q0_congr {x : Operand} (h : (evF x).run tm = (evF x).run tm') : (q0 x).run tm hp = (q0 x).run tm' hp := by simp only [q0, h]
theorem q1_congr {x : Operand} {f : F1} (h : (evF x).run tm = (evF x).run tm') : (q1 x f).run tm hp = (q1 x f).run tm' hp := by simp only [q1, h]
theorem q2_congr {x y : Operand} {f : F2} (h : (evF x).run tm = (evF x).run tm') (k : (evF y).run tm = (evF y).run tm') : (q2 x y f).run tm hp = (q2 x y f).run tm' hp := by simp only [q2, h, k]

theorem evL_congr : ∀ (l : List Operand), (∀ x ∈ l, (evF x).run tm = (evF x).run tm') → (evL l).run tm = (evL l).run tm'
  | [], _ => rfl
  | x :: l, h => by simp only [evL, h x (List.mem_cons_self ..), evL_congr l fun y hy => h y (List.mem_cons_of_mem _ hy)]

theorem lays_congr (pl : PL) : ∀ (ps : List (Nat × Operand)) (l : List AV), (∀ p ∈ ps, (evF p.2).run tm = (evF p.2).run tm') → (laysF pl ps).run tm l = (laysF pl ps).run tm' l
  | [], l, _ => rfl
  | (i, x) :: ps, l, h => by
    have hx : (evF x).run tm = (evF x).run tm' := h (i, x) (List.mem_cons_self ..)
    have ih := fun l => lays_congr pl ps l fun y hy => h y (List.mem_cons_of_mem _ hy)
    simp only [laysF]
    split
    · rfl
    · dsimp only
      rw [hx]
      split
      · split
        · simp only [lenK_eq]
          split
          · simp only [layK_eq]
            split
            · exact ih _
            · rfl
          · rfl
        · rfl
      · rfl

theorem natF_congr {x : Option Operand} {d : Nat} (h : ∀ y, x = some y → (evF y).run tm = (evF y).run tm') : (natF x).run tm d = (natF x).run tm' d := by
  cases x with
  | none => rfl
  | some y => simp only [natF, h y rfl]

/-- What a quiet operation comes to hangs on its operands alone. -/
theorem qop_congr {op : Op} (h : ∀ x ∈ op.operands.toList, (evF x).run tm = (evF x).run tm') : (qop E op).run tm hp = (qop E op).run tm' hp := by
  cases op
  case move x => exact q0_congr (h x (by simp [Op.operands]))
  case pick c a b => simp only [qop, h c (by simp [Op.operands]), h a (by simp [Op.operands]), h b (by simp [Op.operands])]
  case alloc t => simp only [qop]; split <;> rfl
  case box t x => simp only [qop, h x (by simp [Op.operands])]
  case build t ps =>
    have hps : ∀ p ∈ ps.toList, (evF p.2).run tm = (evF p.2).run tm' := fun p hp => h p.2 (by simp only [Op.operands]; simp only [List.mem_map]; exact ⟨p, hp, rfl⟩)
    simp only [qop, buildF]
    (repeat' split) <;> first | rfl | (dsimp only; simp only [lays_congr _ ps.toList _ hps])
  case buildSlice t n ps =>
    have hps : ∀ p ∈ ps.toList, (evF p.2).run tm = (evF p.2).run tm' := fun p hp => h p.2 (by simp only [Op.operands]; simp only [List.mem_map]; exact ⟨p, hp, rfl⟩)
    simp only [qop, buildSliceF]
    (repeat' split) <;> first | rfl | (dsimp only; simp only [repK_eq, lays_congr _ ps.toList _ hps])
  case load t x => simp only [qop, qLoad, h x (by simp [Op.operands])]
  case nilCheck x => exact q1_congr (h x (by simp [Op.operands]))
  case binOp op t x y z => exact q2_congr (h x (by simp [Op.operands])) (h y (by simp [Op.operands]))
  case unOp op t x => exact q1_congr (h x (by simp [Op.operands]))
  case convert s d x =>
    have hx := h x (by simp [Op.operands])
    simp only [qop, convF]
    (repeat' split) <;> first | rfl | exact q1_congr hx | (simp only [convBS, hx]; done) | (simp only [convSB, hx]; done) | (simp only [convBB, hx]; done)
  case makeInterface t x =>
    have hx := h x (by simp [Op.operands])
    simp only [qop]
    (repeat' split) <;> first | rfl | exact q1_congr hx
  case makeFunc f a b =>
    cases f with
    | func f =>
      have ha := evL_congr a.toList fun x hx => h x (by simp only [Op.operands]; simp at hx ⊢; exact .inl hx)
      have hb := evL_congr b.toList fun x hx => h x (by simp only [Op.operands]; simp at hx ⊢; exact .inr hx)
      simp only [qop, ha, hb]
    | _ => rfl
  case makeMap t r => cases r <;> rfl
  case makeSlice t x y =>
    have hx := h x (by simp [Op.operands])
    have hy := h y (by simp [Op.operands])
    simp only [qop, makeSliceF]
    (repeat' split) <;> first | rfl | (dsimp only; simp only [hx, hy])
  case slice t x lo hi mx =>
    have hx := h x (by simp [Op.operands])
    have h1 : ∀ d, (natF lo).run tm d = (natF lo).run tm' d := fun d => natF_congr fun y hy => h y (by subst hy; simp [Op.operands])
    have h2 : ∀ d, (natF hi).run tm d = (natF hi).run tm' d := fun d => natF_congr fun y hy => h y (by subst hy; simp [Op.operands])
    have h3 : ∀ d, (natF mx).run tm d = (natF mx).run tm' d := fun d => natF_congr fun y hy => h y (by subst hy; simp [Op.operands])
    simp only [qop, sliceF]
    (repeat' split) <;> first | rfl | (simp only [sliceStr, hx, h1, h2, h3]; done) | (simp only [sliceSl, hx, h1, h2, h3]; done) | (simp only [sliceAr, hx, h1, h2, h3]; done)
  case fieldAddr s x f => exact q1_congr (h x (by simp [Op.operands]))
  case field s x f => exact q1_congr (h x (by simp [Op.operands]))
  case indexAddr t x i => exact q2_congr (h x (by simp [Op.operands])) (h i (by simp [Op.operands]))
  case index t x i => exact q2_congr (h x (by simp [Op.operands])) (h i (by simp [Op.operands]))
  case lookup t x k ok =>
    have hx := h x (by simp [Op.operands])
    have hk := h k (by simp [Op.operands])
    simp only [qop, lookupF]
    (repeat' split) <;> first | rfl | (dsimp only; simp only [hx, hk])
  case typeAssert x s t ok => exact q1_congr (h x (by simp [Op.operands]))
  case extract x i => exact q1_congr (h x (by simp [Op.operands]))
  case call c =>
    obtain ⟨callee, args, ts⟩ := c
    cases callee with
    | builtin b =>
      have ha : ∀ x ∈ args.toList, (evF x).run tm = (evF x).run tm' := fun x hx => h x (by simp only [Op.operands, Call.operands]; simpa using hx)
      simp only [qop]
      cases b
      case len =>
        simp only [builtinQ]
        split
        · rename_i x l t m hx ht
          have hx := ha x (by rw [hx]; exact List.mem_cons_self ..)
          simp only [lenF]
          (repeat' split) <;> first | rfl | exact q1_congr hx | (dsimp only; simp only [hx])
        · rfl
      case cap =>
        simp only [builtinQ]
        split
        · rename_i x l t m hx ht
          have hx := ha x (by rw [hx]; exact List.mem_cons_self ..)
          simp only [capF]
          (repeat' split) <;> first | rfl | exact q1_congr hx
        · rfl
      case max => simp only [builtinQ, maxF, evL_congr _ ha]
      case min => simp only [builtinQ, maxF, evL_congr _ ha]
      all_goals rfl
    | _ => rfl
  all_goals rfl

/-! What is made. -/
def allocR : QR → Bool
  | .val _ | .mrk .. => false
  | _ => true

def RVal (f : QF) : Prop := ∀ tm hp q, f.run tm hp = some q → allocR q = false
def RAll (f : QF) : Prop := ∀ tm hp q, f.run tm hp = some q → allocR q = true

theorem rval_no : RVal qNo := fun _ _ _ h => by cases h
theorem rall_no : RAll qNo := fun _ _ _ h => by cases h
theorem rval_q0 (x : Operand) : RVal (q0 x) := fun _ _ q h => by
  simp only [q0] at h
  split at h
  · cases h; rfl
  · cases h
theorem rval_q1 (x : Operand) (f : F1) : RVal (q1 x f) := fun _ _ q h => by obtain ⟨_, _, _, _, rfl⟩ := q1_run h; rfl
theorem rval_q2 (x y : Operand) (f : F2) : RVal (q2 x y f) := fun _ _ q h => by obtain ⟨_, _, _, _, _, _, rfl⟩ := q2_run h; rfl

theorem okV_val {ok : Bool} {v : AV} {b : Bool} {q : QR} (h : okV ok v b = some q) : allocR q = false := by
  unfold okV at h
  (repeat' split at h) <;> (cases h; rfl)

theorem cut3_val {n id off l h m : Nat} {ex : Bool} {q : QR} (e : cut3 n id off l h m ex = some q) : allocR q = false := by
  simp only [cut3, frc_eq] at e
  split at e <;> (cases e; rfl)
theorem cut2_val {n id off l h m : Nat} {ex : Bool} {q : QR} (e : cut2 n id off l h m ex = some q) : allocR q = false := by
  simp only [cut2, frc_eq] at e
  split at e <;> (cases e; rfl)

theorem rval_slice {t : TypeId} {x : Operand} {lo hi mx : Option Operand} : RVal (sliceF E t x lo hi mx) := by
  unfold sliceF
  repeat' split
  all_goals first
    | exact rval_no
    | (intro tm hp q h
       simp only [sliceStr] at h
       (repeat' split at h) <;> (cases h; done) <;> (cases h; rfl))
    | (intro tm hp q h
       simp only [sliceStr, sliceSl, sliceAr] at h
       (repeat' split at h) <;> first | (cases h; done) | exact cut3_val h | exact cut2_val h | (cases h; rfl))

theorem rval_lookup {t : TypeId} {x k : Operand} {ok : Bool} : RVal (lookupF E t x k ok) := by
  unfold lookupF
  repeat' split
  all_goals first
    | exact rval_no
    | (intro tm hp q h
       simp only at h
       (repeat' split at h) <;> first | (cases h; done) | exact okV_val h)

theorem bytesK_val {q : QR} : ∀ (l : List AV) (k : Option (Nat × Nat) → Option QR), (∀ o, k o = some q → allocR q = false) → bytesK l k = some q → allocR q = false
  | [], k, hk, e => hk _ e
  | a :: l, k, hk, e => by
    simp only [bytesK] at e
    split at e
    · split at e
      · exact hk _ e
      · refine bytesK_val l _ ?_ e
        intro o e2
        cases o with
        | none => exact hk _ e2
        | some p => exact hk _ e2
    · exact hk _ e

theorem rval_BS (x : Operand) : RVal (convBS x) := by
  intro tm hp q h
  simp only [convBS] at h
  split at h
  · cases h; rfl
  · split at h
    · rw [takeK_eq] at h
      split at h
      · refine bytesK_val _ _ ?_ h
        intro o e
        cases o with
        | none => cases e
        | some p => simp only [frc_eq] at e; cases e; rfl
      · cases h
    · cases h
  · cases h

theorem q_dich (op : Op) : RVal (qop E op) ∨ RAll (qop E op) := by
  cases op
  case move x => exact .inl (rval_q0 x)
  case pick c a b =>
    left; intro tm hp q h
    simp only [qop] at h
    (repeat' split at h) <;> first | (cases h; done) | (cases h; rfl)
  case alloc t =>
    right; intro tm hp q h
    simp only [qop] at h
    split at h <;> (cases h; try rfl)
  case box t x =>
    right; intro tm hp q h
    simp only [qop] at h
    (repeat' split at h) <;> first | (cases h; done) | (cases h; rfl)
  case build t ps =>
    left; intro tm hp q h
    simp only [qop, buildF] at h
    (repeat' split at h) <;> first | (cases h; done) | (simp only at h; split at h <;> first | (cases h; done) | (cases h; rfl))
  case buildSlice t n ps =>
    right; intro tm hp q h
    simp only [qop, buildSliceF] at h
    (repeat' split at h) <;> first | (cases h; done) | (simp only [repK_eq] at h; split at h <;> first | (cases h; done) | (cases h; rfl))
  case load t x =>
    left; intro tm hp q h
    simp only [qop, qLoad] at h
    (repeat' split at h) <;> first | (cases h; done) | (cases h; rfl)
  case nilCheck x => exact .inl (rval_q1 _ _)
  case binOp op t x y z => exact .inl (rval_q2 _ _ _)
  case unOp op t x => exact .inl (rval_q1 _ _)
  case convert s d x =>
    simp only [qop, convF]
    repeat' split
    all_goals first
      | exact .inl rval_no
      | exact .inl (rval_q1 _ _)
      | exact .inl (rval_BS x)
      | (right; intro tm hp q h
         simp only [convSB] at h
         split at h
         · rename_i n v hv
           have : ∀ (n v : Nat) (k : List AV → Option QR), (∀ l, k l = some q → allocR q = true) → byteCellsK n v k = some q → allocR q = true := by
             intro n
             induction n with
             | zero => intro v k hk e; exact hk _ e
             | succ n ih => intro v k hk e; simp only [byteCellsK, frc_eq] at e; exact ih _ _ (fun l e => hk _ e) e
           exact this n v _ (fun l e => by cases e; rfl) h
         · cases h)
      | (left; intro tm hp q h
         simp only [convBB] at h
         (repeat' split at h) <;> first | (cases h; done) | (cases h; rfl))
  case makeInterface t x =>
    simp only [qop]
    (repeat' split) <;> first | exact .inl rval_no | exact .inl (rval_q1 _ _)
  case makeFunc f a b =>
    cases f with
    | func f =>
      left; intro tm hp q h
      simp only [qop] at h
      (repeat' split at h) <;> first | (cases h; done) | (cases h; rfl)
    | _ => exact .inl rval_no
  case makeMap t r =>
    cases r with
    | none => right; intro tm hp q h; cases h; rfl
    | some r => exact .inl rval_no
  case makeSlice t x y =>
    right; intro tm hp q h
    simp only [qop, makeSliceF] at h
    (repeat' split at h) <;> first | (cases h; done) | (simp only [repK_eq] at h; (repeat' split at h) <;> first | (cases h; done) | (cases h; rfl))
  case slice t x lo hi mx => exact .inl rval_slice
  case fieldAddr s x f => exact .inl (rval_q1 _ _)
  case field s x f => exact .inl (rval_q1 _ _)
  case indexAddr t x i => exact .inl (rval_q2 _ _ _)
  case index t x i => exact .inl (rval_q2 _ _ _)
  case lookup t x k ok => exact .inl rval_lookup
  case typeAssert x s t ok => exact .inl (rval_q1 _ _)
  case extract x i => exact .inl (rval_q1 _ _)
  case call c =>
    obtain ⟨callee, args, ts⟩ := c
    cases callee with
    | builtin b =>
      simp only [qop]
      left
      cases b
      case len =>
        simp only [builtinQ]
        split
        · simp only [lenF]
          (repeat' split) <;> first
            | exact rval_no
            | exact rval_q1 _ _
            | (intro tm hp q h
               simp only [lenK_eq] at h
               (repeat' split at h) <;> first | (cases h; done) | (cases h; rfl))
        · exact rval_no
      case cap =>
        simp only [builtinQ]
        split
        · simp only [capF]
          (repeat' split) <;> first | exact rval_no | exact rval_q1 _ _
        · exact rval_no
      case max =>
        intro tm hp q h
        simp only [builtinQ, maxF] at h
        (repeat' split at h) <;> first | (cases h; done) | (cases h; rfl)
      case min =>
        intro tm hp q h
        simp only [builtinQ, maxF] at h
        (repeat' split at h) <;> first | (cases h; done) | (cases h; rfl)
      all_goals exact rval_no
    | _ => exact .inl rval_no
  all_goals exact .inl rval_no

end

/-! Equal results. -/
mutual
theorem beqA_ok : ∀ (a b : AV), beqA a b = true → a = b
  | .bool a, b, h => by
    cases b <;> simp [beqA] at h
    rename_i b; cases a <;> cases b <;> simp_all
  | .int k n, b, h => by
    cases b <;> simp [beqA] at h
    rename_i k' n'
    split at h
    · rename_i hk; rw [ieq_ok] at h; rw [kEq_ok hk, eq_of_beq h]
    · cases h
  | .sym k n, b, h => by
    cases b <;> simp [beqA] at h
    rename_i k' n'
    split at h
    · rename_i hk; rw [kEq_ok hk, beq_true h]
    · cases h
  | .str n v, b, h => by
    cases b <;> simp [beqA, strEq] at h
    rename_i n' v'
    split at h
    · rename_i hk; rw [beq_true hk, beq_true h]
    · cases h
  | .nptr, b, h => by cases b <;> simp [beqA] at h; rfl
  | .ptr i a, b, h => by
    cases b <;> simp [beqA] at h
    split at h
    · rename_i hk; rw [beq_true hk, beq_true h]
    · cases h
  | .nslice, b, h => by cases b <;> simp [beqA] at h; rfl
  | .slice i a l c x, b, h => by
    cases b <;> simp [beqA] at h
    rename_i j a' l' c' y
    split at h
    · rename_i h1 h2 h3 h4
      rw [beq_true h1, beq_true h2, beq_true h3, beq_true h4]
      cases x <;> cases y <;> simp_all
    · cases h
  | .nmap, b, h => by cases b <;> simp [beqA] at h; rfl
  | .map i, b, h => by
    cases b <;> simp [beqA] at h
    rw [h]
  | .func fn a c, b, h => by
    cases fn with
    | yield i => cases b <;> (simp [beqA] at h)
    | f f =>
      cases b
      case func gn a' c' =>
        cases gn with
        | yield i => simp [beqA] at h
        | f g =>
          simp only [beqA] at h
          split at h
          · rename_i h1 h2
            rw [beq_true h1, beqAs_ok _ _ h2, beqAs_ok _ _ h]
          · cases h
      all_goals (simp [beqA] at h)
  | .nfunc, b, h => by cases b <;> simp [beqA] at h; rfl
  | .iface t v, b, h => by
    cases b <;> simp [beqA] at h
    split at h
    · rename_i hk; rw [beq_true hk, beqA_ok _ _ h]
    · cases h
  | .niface, b, h => by cases b <;> simp [beqA] at h; rfl
  | .agg l, b, h => by
    cases b <;> simp [beqA] at h
    rw [beqAs_ok _ _ h]
  | .tup l, b, h => by
    cases b <;> simp [beqA] at h
    rw [beqAs_ok _ _ h]
  | .any, b, h => by cases b <;> simp [beqA] at h
theorem beqAs_ok : ∀ (l m : List AV), beqAs l m = true → l = m
  | [], m, h => by cases m <;> simp [beqAs] at h; rfl
  | a :: l, m, h => by
    cases m <;> simp [beqAs] at h
    split at h
    · rename_i hk; rw [beqA_ok _ _ hk, beqAs_ok _ _ h]
    · cases h
end

theorem beqO_ok {a b : AObj} (h : beqO a b = true) : a = b := by
  unfold beqO at h
  split at h
  · rename_i l e w g l' e' w' g'
    split at h
    · rename_i h1 h2 h3
      rw [beq_true h1, beq_true h2, beqAs_ok _ _ h3]
      cases w <;> cases w' <;> simp_all
    · cases h
  · rfl
  · cases h

theorem lies_ok {hp : Tr AObj} {id : Nat} {o : AObj} (h : lies hp id o = true) : getP (path id) hp = some o := by
  unfold lies at h
  split at h
  · rename_i o' ho
    rw [ho, beqO_ok h]
  · cases h

section
variable {N : Nat} {ν : Nat → Int} {ρ : Rho} {w0 w w' : World} {hp : Tr AObj} {nx : Nat}

/-- A block that was made ahead here, made in memory now. -/
theorem HR.know {id c : Nat} {o : AObj} {ob : Obj} (h : HR N ν w0 ρ hp nx w) (hid : ρ id = none) (hlt : id < nx) (hl : getP (path id) hp = some o) (hw : NewW w w' ob)
    (ho : OR' N ν ρ w.heap.size c o ob) : HR N ν w0 (extR ρ id w.heap.size c) hp nx w' := by
  have hx : Ext ρ (extR ρ id w.heap.size c) := fun i x e => by
    unfold extR
    by_cases hi : i = id
    · subst hi; rw [hid] at e; cases e
    · rw [if_neg hi]; exact e
  have hsz : w'.heap.size = w.heap.size + 1 := by rw [hw.heap]; simp
  have hold : ∀ k, k < w.heap.size → w'.heap[k]? = w.heap[k]? := fun k hk => by rw [hw.heap, Array.getElem?_push_lt hk, Array.getElem?_eq_getElem hk]
  refine ⟨?_, ?_, ?_, ?_, ?_, ?_⟩
  · intro id' o' r c' h1 h2
    unfold extR at h2
    by_cases hi : id' = id
    · rw [if_pos hi] at h2
      subst hi
      cases h2
      rw [hl] at h1; cases h1
      exact ⟨ob, by rw [hw.heap]; simp, ho.mono hx⟩
    · rw [if_neg hi] at h2
      obtain ⟨ob', h3, h4⟩ := h.live id' o' r c' h1 h2
      exact ⟨ob', by rw [hold r (h.lt id' r c' h2)]; exact h3, h4.mono hx⟩
  · intro id' r c' h2
    unfold extR at h2
    rw [hsz]
    by_cases hi : id' = id
    · rw [if_pos hi] at h2; cases h2; omega
    · rw [if_neg hi] at h2; have := h.lt id' r c' h2; omega
  · intro i j o1 o2 r c1 c2 h1 h2 h3 h4
    unfold extR at h3 h4
    by_cases hi : i = id <;> by_cases hj : j = id
    · rw [hi, hj]
    · rw [if_pos hi] at h3; rw [if_neg hj] at h4
      cases h3; have := h.lt j _ _ h4; omega
    · rw [if_neg hi] at h3; rw [if_pos hj] at h4
      cases h4; have := h.lt i _ _ h3; omega
    · rw [if_neg hi] at h3; rw [if_neg hj] at h4
      exact h.inj i j o1 o2 r c1 c2 h1 h2 h3 h4
  · intro i hi
    unfold extR
    rw [if_neg (by omega)]
    exact h.fresh i hi
  · exact h.below.trans ⟨hw.os, hw.tape, hw.output, by omega, fun k hk => hold k (by have := h.base; omega)⟩
  · have := h.base; omega

end
end Pk
/- The abstract run is sound: what a region's operations wait for; orders that are drawn. -/
namespace Pk
open Go Go.RowKit

/-! Masks. -/
theorem isIn_iff {m n : Nat} : isIn m n = true ↔ ∀ j, m.testBit j = true → n.testBit j = true := by
  unfold isIn
  constructor
  · intro h j hj
    have h' : m &&& n = m := beq_true h
    have := congrArg (fun x => x.testBit j) h'
    simp only [Nat.testBit_and, hj, Bool.true_and] at this
    exact this
  · intro h
    have : m &&& n = m := by
      apply Nat.eq_of_testBit_eq
      intro j
      rw [Nat.testBit_and]
      cases hj : m.testBit j with
      | false => rfl
      | true => rw [h j hj]; rfl
    show Nat.beq (m &&& n) m = true
    rw [this]; exact Nat.beq_refl m

theorem isIn_pow {i n : Nat} : isIn (2 ^ i) n = n.testBit i := by
  cases h : n.testBit i with
  | true => exact isIn_iff.2 fun j hj => by rw [Nat.testBit_two_pow] at hj; have := of_decide_eq_true hj; subst this; exact h
  | false =>
    cases e : isIn (2 ^ i) n with
    | false => rfl
    | true => rw [isIn_iff.1 e i (by rw [Nat.testBit_two_pow]; simp)] at h; cases h

theorem lor_bit (a b j : Nat) : (Nat.lor a b).testBit j = (a.testBit j || b.testBit j) := Nat.testBit_or a b j
theorem pow_bit (i j : Nat) : (2 ^ i).testBit j = decide (i = j) := Nat.testBit_two_pow

/-! Operations made ready. -/
/-- What is known of one of them. -/
structure EntOK (ops : List Oper) (ms : List DO) (i : Nat) (d : DO) : Prop where
  op : ops[i]? = some d.o
  bit : d.bit = 2 ^ i
  q : d.q = quiet d.o.op
  pm : ∀ j, d.pm.testBit j = true ↔ ∃ e ∈ d.o.after.toList, Region.binds .any e = true ∧ e.on = j
  lt : ∀ j, d.pm.testBit j = true → j < i
  pc : ∀ k, d.pc.testBit k = true → ∃ j dj, d.pm.testBit j = true ∧ ms[j]? = some dj ∧ (k = j ∨ dj.pc.testBit k = true)
  rd : ∀ j dj t, j < i → ms[j]? = some dj → dj.o.dst = some t → readsT d.o t = true → d.pc.testBit j = true
  self : ∀ t, d.o.dst = some t → readsT d.o t = false
  ds : ∀ t, d.o.dst = some t → ∀ j dj, j < i → ms[j]? = some dj → dj.o.dst ≠ some t ∧ (readsT dj.o t = true → d.q = false)
  gd : ∀ j w, d.o.guard = some (j, w) → d.pm.testBit j = true

theorem getElem?_append_some {α : Type} {l : List α} {i : Nat} {a : α} (h : l[i]? = some a) (m : List α) : (l ++ m)[i]? = some a := by
  rw [List.getElem?_append_left (List.getElem?_eq_some_iff.1 h).1]; exact h

theorem EntOK.append {ops : List Oper} {ms : List DO} {i : Nat} {d x : DO} (h : EntOK ops ms i d) (hi : i ≤ ms.length) : EntOK ops (ms ++ [x]) i d := by
  have back : ∀ j dj, j < i → (ms ++ [x])[j]? = some dj → ms[j]? = some dj := fun j dj hj e => by rwa [List.getElem?_append_left (by omega)] at e
  refine ⟨h.op, h.bit, h.q, h.pm, h.lt, ?_, fun j dj t hj e => h.rd j dj t hj (back j dj hj e), h.self, fun t ht j dj hj e => h.ds t ht j dj hj (back j dj hj e), h.gd⟩
  intro k hk
  obtain ⟨j, dj, h1, h2, h3⟩ := h.pc k hk
  exact ⟨j, dj, h1, getElem?_append_some h2 _, h3⟩

theorem edgesD_ok {ms : List DO} (hb : ∀ i d, ms[i]? = some d → d.bit = 2 ^ i) : ∀ (l : List Edge) (a b : Nat), edgesD ms l = some (a, b) →
    (∀ j, a.testBit j = true ↔ ∃ e ∈ l, Region.binds .any e = true ∧ e.on = j) ∧ (∀ j, a.testBit j = true → j < ms.length) ∧
    (∀ k, b.testBit k = true → ∃ j dj, a.testBit j = true ∧ ms[j]? = some dj ∧ (k = j ∨ dj.pc.testBit k = true))
  | [], a, b, h => by
    cases h
    refine ⟨fun j => ?_, fun j hj => ?_, fun j hj => ?_⟩
    · simp
    · simp at hj
    · simp at hj
  | e :: l, a, b, h => by
    simp only [edgesD] at h
    split at h
    · cases h
    · rename_i a' b' he
      obtain ⟨h1, h2, h3⟩ := edgesD_ok hb l a' b' he
      split at h
      · rename_i hbi
        cases h
        refine ⟨fun j => (h1 j).trans ?_, h2, h3⟩
        constructor
        · rintro ⟨x, hx, hr⟩; exact ⟨x, List.mem_cons_of_mem _ hx, hr⟩
        · rintro ⟨x, hx, hr⟩
          rcases List.mem_cons.1 hx with rfl | hx
          · rw [hbi] at hr; exact absurd hr.1 (by simp)
          · exact ⟨x, hx, hr⟩
      · rename_i hbi
        split at h
        · cases h
        · rename_i d hd
          rw [nth_eq] at hd
          have hbit := hb _ _ hd
          cases h
          refine ⟨fun j => ?_, fun j hj => ?_, fun k hk => ?_⟩
          · rw [lor_bit, hbit, pow_bit]
            constructor
            · intro h
              rcases Bool.or_eq_true_iff.1 h with h | h
              · exact ⟨e, List.mem_cons_self .., hbi, of_decide_eq_true h⟩
              · obtain ⟨x, hx, hr⟩ := (h1 j).1 h
                exact ⟨x, List.mem_cons_of_mem _ hx, hr⟩
            · rintro ⟨x, hx, hr1, hr2⟩
              rcases List.mem_cons.1 hx with rfl | hx
              · rw [decide_eq_true hr2]; rfl
              · rw [(h1 j).2 ⟨x, hx, hr1, hr2⟩]; simp
          · rw [lor_bit, hbit, pow_bit] at hj
            rcases Bool.or_eq_true_iff.1 hj with h | h
            · have := of_decide_eq_true h; subst this; exact (List.getElem?_eq_some_iff.1 hd).1
            · exact h2 j h
          · rw [lor_bit, lor_bit, hbit, pow_bit] at hk
            rcases Bool.or_eq_true_iff.1 hk with h | h
            · exact ⟨e.on, d, by rw [lor_bit, hbit, pow_bit]; simp, hd, .inl (of_decide_eq_true h).symm⟩
            · rcases Bool.or_eq_true_iff.1 h with h | h
              · exact ⟨e.on, d, by rw [lor_bit, hbit, pow_bit]; simp, hd, .inr h⟩
              · obtain ⟨j, dj, k1, k2, k3⟩ := h3 k h
                exact ⟨j, dj, by rw [lor_bit, k1]; simp, k2, k3⟩

theorem readsOk_ok {o : Oper} {pc : Nat} : ∀ {ms : List DO}, readsOk o pc ms = true → ∀ d ∈ ms, ∀ t, d.o.dst = some t → readsT o t = true → isIn d.bit pc = true
  | [], _, d, hd, _, _, _ => by cases hd
  | x :: ms, h, d, hd, t, ht, hr => by
    simp only [readsOk] at h
    rcases List.mem_cons.1 hd with rfl | hd
    · rw [ht] at h
      simp only [hr] at h
      split at h
      · rename_i hi; exact hi
      · cases h
    · refine readsOk_ok (ms := ms) ?_ d hd t ht hr
      split at h
      · split at h
        · split at h
          · exact h
          · cases h
        · exact h
      · exact h

theorem dstOk_ok {o : Oper} {t : Tmp} : ∀ {ms : List DO}, dstOk o t ms = true → ∀ d ∈ ms, d.o.dst ≠ some t ∧ (readsT d.o t = true → quiet o.op = false)
  | [], _, d, hd => by cases hd
  | x :: ms, h, d, hd => by
    simp only [dstOk] at h
    split at h
    · cases h
    · rename_i hne
      have h' : dstOk o t ms = true ∧ (readsT x.o t = true → quiet o.op = false) := by
        split at h
        · split at h
          · cases h
          · rename_i hq; exact ⟨h, fun _ => hq⟩
        · rename_i hr; exact ⟨h, fun e => by rw [hr] at e; cases e⟩
      rcases List.mem_cons.1 hd with rfl | hd
      · refine ⟨fun e => ?_, h'.2⟩
        rw [e] at hne
        simp at hne
      · exact dstOk_ok h'.1 d hd

theorem prepD_ok (ops : List Oper) : ∀ (os : List Oper) (i : Nat) (ms r : List DO), prepD os i ms = some r → ops.drop i = os → i ≤ ops.length → ms.length = i → (∀ j d, ms[j]? = some d → EntOK ops ms j d) →
    r.length = ops.length ∧ ∀ j d, r[j]? = some d → EntOK ops r j d
  | [], i, ms, r, h, hd, hi, hl, hm => by
    cases h
    have : ops.length ≤ i := List.drop_eq_nil_iff.1 hd
    exact ⟨by omega, hm⟩
  | o :: os, i, ms, r, h, hd, hi, hl, hm => by
    have hoi : ops[i]? = some o := by
      have : (ops.drop i)[0]? = some o := by rw [hd]; rfl
      simpa using this
    have hd' : ops.drop (i + 1) = os := by
      have := congrArg (List.drop 1) hd
      simpa [List.drop_drop, Nat.add_comm] using this
    have hlt : i < ops.length := (List.getElem?_eq_some_iff.1 hoi).1
    simp only [prepD] at h
    split at h
    · cases h
    · rename_i pm pc he
      have hb : ∀ i d, ms[i]? = some d → d.bit = 2 ^ i := fun i d e => (hm i d e).bit
      obtain ⟨e1, e2, e3⟩ := edgesD_ok hb _ _ _ he
      split at h
      · rename_i c1 c2 c3
        refine prepD_ok ops os (i + 1) _ r h hd' hlt (by simp [hl]) ?_
        intro j d hj
        rcases Nat.lt_or_ge j ms.length with hjl | hjl
        · rw [List.getElem?_append_left hjl] at hj
          exact (hm j d hj).append (Nat.le_of_lt hjl)
        · rw [List.getElem?_append_right hjl] at hj
          have hj0 : j = i := by
            have := (List.getElem?_eq_some_iff.1 hj).1
            simp at this; omega
          subst hj0
          rw [hl, Nat.sub_self] at hj
          simp only [List.getElem?_cons_zero, Option.some.injEq] at hj
          subst hj
          have back : ∀ k dk, k < j → (ms ++ [(⟨Nat.pow 2 j, pm, pc, quiet o.op, o⟩ : DO)])[k]? = some dk → ms[k]? = some dk := fun k dk hk e => by
            rwa [List.getElem?_append_left (by omega)] at e
          refine ⟨hoi, rfl, rfl, e1, fun k hk => by have := e2 k hk; omega, ?_, ?_, ?_, ?_, ?_⟩
          · intro k hk
            obtain ⟨a, da, k1, k2, k3⟩ := e3 k hk
            exact ⟨a, da, k1, getElem?_append_some k2 _, k3⟩
          · intro k dk t hk ek ht hr
            have hk' := back k dk hk ek
            have := readsOk_ok c1 dk (List.mem_of_getElem? hk') t ht hr
            rw [hb k dk hk', isIn_pow] at this
            exact this
          · intro t ht
            simp only [dstOk'] at c2
            have ht : o.dst = some t := ht
            rw [ht] at c2
            simp only at c2
            split at c2
            · cases c2
            · rename_i hr; exact hr
          · intro t ht k dk hk ek
            simp only [dstOk'] at c2
            have ht : o.dst = some t := ht
            rw [ht] at c2
            simp only at c2
            split at c2
            · cases c2
            · exact dstOk_ok c2 dk (List.mem_of_getElem? (back k dk hk ek))
          · intro k w hg
            simp only [guardOk] at c3
            have hg : o.guard = some (k, w) := hg
            rw [hg] at c3
            simp only at c3
            split at c3
            · rename_i dk hdk
              rw [nth_eq] at hdk
              rw [hb k dk hdk, isIn_pow] at c3
              exact c3
            · cases c3
      · cases h

/-! Orders. -/
def depO (ops : Array Oper) (i j : Nat) : Prop := ∃ o, ops[i]? = some o ∧ ∃ e ∈ o.after.toList, Region.binds .any e = true ∧ e.on = j

/-- An order in which each comes behind what it waits for. -/
structure Good (ops : Array Oper) (l : List Nat) : Prop where
  nodup : l.Nodup
  ord : ∀ i r, (i :: r) <:+ l → ∀ j, depO ops i j → j ∉ i :: r

theorem Good.tail {ops : Array Oper} {i : Nat} {l : List Nat} (h : Good ops (i :: l)) : Good ops l :=
  ⟨(List.nodup_cons.1 h.nodup).2, fun a r hs j hj => h.ord a r (hs.trans (List.suffix_cons i l)) j hj⟩

def unl (ops : Array Oper) (listed : Array Bool) : Nat := ((List.range ops.size).filter fun i => !listed.getD i true).length

theorem go_ok {ops : Array Oper} (hback : ∀ i j, depO ops i j → j < i) : ∀ (fuel t : Nat) (listed : Array Bool), listed.size = ops.size → unl ops listed ≤ fuel →
    Good ops (Region.linearise.go .any ops fuel t listed []) ∧ ∀ i, i ∈ Region.linearise.go .any ops fuel t listed [] ↔ (i < ops.size ∧ listed.getD i true = false) := by
  have none_of : ∀ (listed : Array Bool), (∀ i, i < ops.size → listed.getD i true = true) → Good ops [] ∧ ∀ i, i ∈ ([] : List Nat) ↔ (i < ops.size ∧ listed.getD i true = false) := by
    intro listed hl
    refine ⟨⟨List.nodup_nil, fun i r hs => by simp at hs⟩, fun i => ?_⟩
    constructor
    · intro h; cases h
    · rintro ⟨h1, h2⟩; rw [hl i h1] at h2; cases h2
  intro fuel
  induction fuel with
  | zero =>
    intro t listed hsz hu
    simp only [Region.linearise.go, List.reverse_nil]
    refine none_of listed fun i hi => ?_
    have : ((List.range ops.size).filter fun i => !listed.getD i true) = [] := List.length_eq_zero_iff.1 (Nat.le_zero.1 hu)
    have := List.filter_eq_nil_iff.1 this i (List.mem_range.2 hi)
    simpa using this
  | succ fuel ih =>
    intro t listed hsz hu
    simp only [Region.linearise.go]
    split
    · rename_i i hi
      have hmem : i ∈ Region.ready .any ops listed := List.mem_of_getElem? hi
      obtain ⟨hl, o, ho, he⟩ := mem_ready.1 hmem
      have hlt : i < ops.size := (Array.getElem?_eq_some_iff.1 ho).1
      have hu' : unl ops (listed.setIfInBounds i true) ≤ fuel := by
        have e : ((List.range ops.size).filter fun j => !(listed.setIfInBounds i true).getD j true) = (((List.range ops.size).filter fun j => !listed.getD j true).filter fun j => decide (j ≠ i)) := by
          rw [List.filter_filter]
          apply List.filter_congr
          intro j hj
          by_cases hji : j = i
          · subst hji
            simp [hsz, hlt]
          · rw [getD_set_ne true (fun e => hji e.symm)]; simp [hji]
        unfold unl
        rw [e]
        have h2 : i ∈ (List.range ops.size).filter fun j => !listed.getD j true := List.mem_filter.2 ⟨List.mem_range.2 hlt, by rw [hl]; rfl⟩
        have h3 := List.length_filter_lt_length_iff_exists.2 (⟨i, h2, by simp⟩ : ∃ x ∈ ((List.range ops.size).filter fun j => !listed.getD j true), ¬ decide (x ≠ i) = true)
        unfold unl at hu
        omega
      obtain ⟨g, hm⟩ := ih (t / (Region.ready .any ops listed).length) (listed.setIfInBounds i true) (by simp [hsz]) hu'
      rw [linearise_go_acc]
      simp only [List.reverse_cons, List.reverse_nil, List.nil_append, List.singleton_append]
      have hm' : ∀ j, j ∈ Region.linearise.go .any ops fuel (t / (Region.ready .any ops listed).length) (listed.setIfInBounds i true) [] ↔ (j < ops.size ∧ j ≠ i ∧ listed.getD j true = false) := by
        intro j
        rw [hm j]
        by_cases hji : j = i
        · subst hji; simp [hsz, hlt]
        · rw [getD_set_ne true (fun e => hji e.symm)]; simp [hji]
      have hni : i ∉ Region.linearise.go .any ops fuel (t / (Region.ready .any ops listed).length) (listed.setIfInBounds i true) [] := fun h => ((hm' i).1 h).2.1 rfl
      refine ⟨⟨List.nodup_cons.2 ⟨hni, g.nodup⟩, ?_⟩, fun j => ?_⟩
      · intro a r hs j hj
        rcases List.suffix_cons_iff.1 hs with e | hs
        · obtain ⟨rfl, rfl⟩ := List.cons.inj e
          obtain ⟨o', ho', x, hx, hx1, hx2⟩ := hj
          rw [ho] at ho'; cases ho'
          have hlj : listed.getD j false = true := by
            subst hx2
            exact he x (Array.mem_toList_iff.1 hx) hx1
          have hjl : listed.getD j true = true := by
            rw [Array.getD_eq_getD_getElem?] at hlj ⊢
            cases e : listed[j]? with
            | none => rw [e] at hlj; cases hlj
            | some b => rw [e] at hlj; exact hlj
          intro hc
          rcases List.mem_cons.1 hc with rfl | hc
          · rw [hl] at hjl; cases hjl
          · rw [((hm' j).1 hc).2.2] at hjl; cases hjl
        · exact g.ord a r hs j hj
      · refine (List.mem_cons (a := j) (b := i)).trans ?_
        refine (or_congr Iff.rfl (hm' j)).trans ?_
        constructor
        · rintro (rfl | ⟨h1, h2, h3⟩)
          · exact ⟨hlt, hl⟩
          · exact ⟨h1, h3⟩
        · rintro ⟨h1, h2⟩
          by_cases hji : j = i
          · exact .inl hji
          · exact .inr ⟨h1, hji, h2⟩
    · rename_i hn
      have hr : Region.ready .any ops listed = [] := by
        have hn : (Region.ready .any ops listed)[t % (Region.ready .any ops listed).length]? = none := hn
        cases e : Region.ready .any ops listed with
        | nil => rfl
        | cons a l =>
          rw [e] at hn
          have := List.getElem?_eq_none_iff.1 hn
          have h2 := Nat.mod_lt t (show 0 < (a :: l).length by simp)
          omega
      simp only [List.reverse_nil]
      refine none_of listed fun i => ?_
      induction i using Nat.strongRecOn with
      | ind i ihi =>
        intro hi
        cases hl : listed.getD i true with
        | true => rfl
        | false =>
          have : i ∈ Region.ready .any ops listed := by
            refine mem_ready.2 ⟨hl, ops[i], Array.getElem?_eq_getElem hi, fun e he hb => ?_⟩
            have hlt := hback i e.on ⟨ops[i], Array.getElem?_eq_getElem hi, e, Array.mem_toList_iff.2 he, hb, rfl⟩
            have := ihi e.on hlt (by omega)
            rw [Array.getD_eq_getD_getElem?] at this ⊢
            rw [Array.getElem?_eq_getElem (show e.on < listed.size by omega)] at this ⊢
            exact this
          rw [hr] at this; cases this

theorem lin_ok {ops : Array Oper} (hback : ∀ i j, depO ops i j → j < i) (t : Nat) :
    Good ops (Region.linearise .any ops t) ∧ ∀ i, i ∈ Region.linearise .any ops t ↔ i < ops.size := by
  unfold Region.linearise
  have h0 : unl ops (Array.replicate ops.size false) ≤ ops.size := by
    unfold unl
    exact Nat.le_trans (List.length_filter_le _ _) (by simp)
  obtain ⟨g, h⟩ := go_ok hback ops.size t (Array.replicate ops.size false) (by simp) h0
  refine ⟨g, fun i => ?_⟩
  rw [h i]
  constructor
  · exact fun h => h.1
  · exact fun h => ⟨h, by simp [Array.getD_eq_getD_getElem?, h]⟩

end Pk
/- The abstract run is sound: regions whose order is drawn (what holds on the way). -/
namespace Pk
open Go Go.RowKit

def idOf : AV → Option Nat
  | .ptr id _ => some id
  | .slice id _ _ _ _ => some id
  | .map id => some id
  | _ => none

/-! Slots put aside. -/
noncomputable def hideT : List Tmp → Tr AV → Tr AV
  | [], tm => tm
  | t :: ts, tm => match getP (path t) tm with
    | none => hideT ts tm
    | some _ => hideT ts (putT none (path t) tm)
noncomputable def hideS : List Tmp → Tr AV → List (Tmp × AV)
  | [], _ => []
  | t :: ts, tm => match getP (path t) tm with
    | none => hideS ts tm
    | some v => (t, v) :: hideS ts (putT none (path t) tm)
noncomputable def backT : List (Tmp × AV) → Tr AV → Tr AV
  | [], tm => tm
  | p :: l, tm => backT l (putT (some p.2) (path p.1) tm)

theorem hideK_eq {β : Type} : ∀ (ts : List Tmp) (tm : Tr AV) (k : List (Tmp × AV) → Tr AV → β), hideK ts tm k = k (hideS ts tm) (hideT ts tm)
  | [], tm, k => rfl
  | t :: ts, tm, k => by
    cases hg : getP (path t) tm with
    | none => simp only [hideK, hideS, hideT, hg]; exact hideK_eq ts tm k
    | some v => simp only [hideK, hideS, hideT, hg]; rw [putP_eq, hideK_eq ts]

theorem backK_eq {β : Type} : ∀ (l : List (Tmp × AV)) (tm : Tr AV) (k : Tr AV → β), backK l tm k = k (backT l tm)
  | [], tm, k => rfl
  | (t, v) :: l, tm, k => by
    simp only [backK, backT]
    rw [putP_eq, backK_eq l]

theorem get_hideT : ∀ (ts : List Tmp) (tm : Tr AV) (u : Nat), getP (path u) (hideT ts tm) = if u ∈ ts then none else getP (path u) tm
  | [], tm, u => by simp [hideT]
  | t :: ts, tm, u => by
    simp only [hideT]
    split
    · rename_i hn
      rw [get_hideT ts tm u]
      by_cases h1 : u ∈ ts
      · simp [h1]
      · by_cases h2 : u = t
        · subst h2; simp [h1, hn]
        · simp [h1, h2]
    · rename_i v hv
      rw [get_hideT ts _ u, get_putN]
      by_cases h1 : u ∈ ts
      · simp [h1]
      · by_cases h2 : u = t
        · simp [h2]
        · simp [h1, h2]

theorem mem_hideS : ∀ (ts : List Tmp) (tm : Tr AV) (u : Nat), u ∈ (hideS ts tm).map (·.1) ↔ u ∈ ts ∧ getP (path u) tm ≠ none
  | [], tm, u => by simp [hideS]
  | t :: ts, tm, u => by
    simp only [hideS]
    split
    · rename_i hn
      rw [mem_hideS ts tm u]
      constructor
      · rintro ⟨h1, h2⟩; exact ⟨List.mem_cons_of_mem _ h1, h2⟩
      · rintro ⟨h1, h2⟩
        rcases List.mem_cons.1 h1 with rfl | h1
        · exact absurd hn h2
        · exact ⟨h1, h2⟩
    · rename_i v hv
      simp only [List.map_cons, List.mem_cons, mem_hideS ts, get_putN]
      constructor
      · rintro (rfl | ⟨h1, h2⟩)
        · exact ⟨.inl rfl, by rw [hv]; simp⟩
        · by_cases hu : u = t
          · rw [if_pos hu] at h2; exact absurd rfl h2
          · rw [if_neg hu] at h2; exact ⟨.inr h1, h2⟩
      · rintro ⟨h1, h2⟩
        by_cases hu : u = t
        · exact .inl hu
        · exact .inr ⟨h1.resolve_left hu, by rw [if_neg hu]; exact h2⟩

theorem get_backT : ∀ (ts : List Tmp) (tm T : Tr AV) (u : Nat), (u ∈ (hideS ts tm).map (·.1) → getP (path u) (backT (hideS ts tm) T) = getP (path u) tm) ∧
    (u ∉ (hideS ts tm).map (·.1) → getP (path u) (backT (hideS ts tm) T) = getP (path u) T)
  | [], tm, T, u => ⟨fun h => by simp [hideS] at h, fun _ => rfl⟩
  | t :: ts, tm, T, u => by
    simp only [hideS]
    split
    · exact get_backT ts tm T u
    · rename_i v hv
      obtain ⟨h1, h2⟩ := get_backT ts (putT none (path t) tm) (putT (some v) (path t) T) u
      simp only [backT, List.map_cons, List.mem_cons, not_or]
      by_cases hk : u ∈ (hideS ts (putT none (path t) tm)).map (·.1)
      · have hne : u ≠ t := by
          intro e
          have := ((mem_hideS ts _ u).1 hk).2
          rw [get_putN, if_pos e] at this
          exact this rfl
        refine ⟨fun _ => by rw [h1 hk, get_putN, if_neg hne], fun h => absurd hk h.2⟩
      · refine ⟨fun h => ?_, fun h => by rw [h2 hk, get_putN, if_neg h.1]⟩
        rcases h with rfl | h
        · rw [h2 hk, get_putN, if_pos rfl, hv]
        · exact absurd h hk

theorem get_back (ts : List Tmp) (tm : Tr AV) (u : Nat) : getP (path u) (backT (hideS ts tm) (hideT ts tm)) = getP (path u) tm := by
  obtain ⟨h1, h2⟩ := get_backT ts tm (hideT ts tm) u
  by_cases hk : u ∈ (hideS ts tm).map (·.1)
  · exact h1 hk
  · rw [h2 hk, get_hideT]
    by_cases hu : u ∈ ts
    · rw [if_pos hu]
      cases e : getP (path u) tm with
      | none => rfl
      | some v => exact absurd ((mem_hideS ts tm u).2 ⟨hu, by rw [e]; simp⟩) hk
    · rw [if_neg hu]

theorem mem_lostT : ∀ (l : List DO) (t : Tmp), (∃ d ∈ l, d.o.dst = some t) → t ∈ lostT l
  | [], t, h => by obtain ⟨d, hd, _⟩ := h; cases hd
  | x :: l, t, h => by
    obtain ⟨d, hd, ht⟩ := h
    simp only [lostT]
    rcases List.mem_cons.1 hd with rfl | hd
    · rw [ht]; exact List.mem_cons_self ..
    · split
      · exact List.mem_cons_of_mem _ (mem_lostT l t ⟨d, hd, ht⟩)
      · exact mem_lostT l t ⟨d, hd, ht⟩

theorem mem_pendD {am done : Nat} : ∀ (ms : List DO) (d : DO), d ∈ ms → d.q = true → isIn d.bit done = true → isIn d.bit am = false → d ∈ pendD am done ms
  | [], d, h, _, _, _ => by cases h
  | x :: ms, d, h, h1, h2, h3 => by
    simp only [pendD]
    rcases List.mem_cons.1 h with rfl | h
    · rw [h1, h2, h3]; exact List.mem_cons_self ..
    · have := mem_pendD ms d h h1 h2 h3
      split
      · exact List.mem_cons_of_mem _ this
      · exact this

theorem mem_freeD {done : Nat} : ∀ (ms : List DO) (d : DO), d ∈ freeD done ms ↔ d ∈ ms ∧ isIn d.bit done = false ∧ isIn d.pm done = true
  | [], d => by simp [freeD]
  | x :: ms, d => by
    simp only [freeD]
    have ih := mem_freeD (done := done) ms d
    split
    · rename_i h1
      rw [ih]
      constructor
      · rintro ⟨a, b⟩; exact ⟨List.mem_cons_of_mem _ a, b⟩
      · rintro ⟨a, b, c⟩
        rcases List.mem_cons.1 a with rfl | a
        · rw [h1] at b; cases b
        · exact ⟨a, b, c⟩
    · rename_i h1
      split
      · rename_i h2
        rw [List.mem_cons, ih, List.mem_cons]
        constructor
        · rintro (rfl | ⟨a, b⟩)
          · exact ⟨.inl rfl, h1, h2⟩
          · exact ⟨.inr a, b⟩
        · rintro ⟨rfl | a, b⟩
          · exact .inl rfl
          · exact .inr ⟨a, b⟩
      · rename_i h2
        rw [ih, List.mem_cons]
        constructor
        · rintro ⟨a, b⟩; exact ⟨.inr a, b⟩
        · rintro ⟨rfl | a, b, c⟩
          · rw [h2] at c; cases c
          · exact ⟨a, b, c⟩

theorem mem_looksF {E : Env} {all : List Oper} {tm : Tr AV} {hp : Tr AObj} : ∀ (l : List DO), (looksF E all l).run tm hp = true → ∀ d ∈ l, (lookF E all d.o).run tm hp = true
  | [], _, d, hd => by cases hd
  | x :: l, h, d, hd => by
    simp only [looksF] at h
    split at h
    · rename_i h1
      rcases List.mem_cons.1 hd with rfl | hd
      · exact h1
      · exact mem_looksF l h d hd
    · cases h

theorem get_putS_ne {tm : Tr AV} {dst : Option Tmp} {v : AV} {t : Nat} (h : dst ≠ some t) : getP (path t) (putS tm dst v) = getP (path t) tm := by
  cases dst with
  | none => rfl
  | some d => simp only [putS]; rw [get_putN, if_neg (fun e => h (by rw [e]))]
theorem get_putS_eq {tm : Tr AV} {v : AV} {t : Nat} : getP (path t) (putS tm (some t) v) = some v := by simp only [putS]; rw [get_putN, if_pos rfl]
theorem getD_putD_ne {tmps : Array Value} {dst : Option Tmp} {v : Value} {t : Nat} (h : dst ≠ some t) : (putD tmps dst v).getD t undef = tmps.getD t undef := by
  cases dst with
  | none => rfl
  | some d =>
    simp only [putD, Array.getD_eq_getD_getElem?]
    rw [Array.getElem?_setIfInBounds_ne (fun e => h (by rw [e]))]
theorem getD_putD_eq {tmps : Array Value} {v : Value} {t : Nat} (h : t < tmps.size) : (putD tmps (some t) v).getD t undef = v := by
  simp [putD, Array.getD_eq_getD_getElem?, h]

theorem wantF_congr {ops : Array Oper} {o : Oper} {tm tm' : Tr AV} (h : ∀ g w og t, o.guard = some (g, w) → ops[g]? = some og → og.dst = some t → getP (path t) tm = getP (path t) tm') :
    (wantF ops.toList o.guard).run tm = (wantF ops.toList o.guard).run tm' := by
  cases hg : o.guard with
  | none => rfl
  | some p =>
    obtain ⟨g, w⟩ := p
    simp only [wantF]
    split
    · rename_i og hog
      rw [nth_eq, Array.getElem?_toList] at hog
      split
      · rename_i t ht
        simp only [h g w og t hg hog ht]
      · rfl
    · rfl

/-- One that the plan has done and the machine has not. -/
def Pend (ms : List DO) (done : Nat) (rem : List Nat) (i : Nat) (d : DO) : Prop := i ∈ rem ∧ done.testBit i = true ∧ ms[i]? = some d

/-- One of these that has made a block. -/
def PAl (E : Env) (ms : List DO) (done : Nat) (rem : List Nat) (tm : Tr AV) (i id : Nat) : Prop :=
  ∃ d t v, Pend ms done rem i d ∧ d.o.dst = some t ∧ RAll (qop E d.o.op) ∧ getP (path t) tm = some v ∧ idOf v = some id

/-- On the way through a region. -/
structure DInv (E : Env) (N : Nat) (ν : Nat → Int) (w0 : World) (sz : Nat) (ops : Array Oper) (ms : List DO) (am done nx0 : Nat) (s : St) (ρ : Rho) (kd : CallKind) (tmps : Array Value) (ds : List Deferred) (cs : List Frame)
    (w : World) (rem : List Nat) : Prop where
  good : Good ops rem
  lt : ∀ i ∈ rem, i < ms.length
  cl : ∀ i d, ms[i]? = some d → i ∉ rem → ∀ j, d.pm.testBit j = true → j ∉ rem
  exe : ∀ i, i < ms.length → i ∉ rem → done.testBit i = true
  pend : ∀ i d, Pend ms done rem i d → d.q = true
  am : ∀ i ∈ rem, am.testBit i = false
  tr : ∀ t a, getP (path t) s.tm = some a → (∀ i d, Pend ms done rem i d → d.o.dst ≠ some t) → VR ν ρ a (tmps.getD t undef)
  hr : HR N ν w0 ρ s.hp s.nx w
  szT : sz ≤ tmps.size
  dsz : ∀ i d t, Pend ms done rem i d → d.o.dst = some t → t < sz
  df : DfRs ν ρ s.ds ds
  cm : CmR ν ρ kd cs s.cm
  nx : nx0 ≤ s.nx
  al : ∀ i id, PAl E ms done rem s.tm i id → nx0 ≤ id ∧ id < s.nx ∧ ρ id = none
  ad : ∀ i j id, PAl E ms done rem s.tm i id → PAl E ms done rem s.tm j id → i = j

section
variable {E : Env} {N : Nat} {ν : Nat → Int} {w0 : World} {fn : FuncId} {sz : Nat} {rnd : Option Nat} {s s1 s2 : St} {ex : Ex} {I : IH} {ops : Array Oper} {ms : List DO} {am done nx0 : Nat}
variable {ρ : Rho} {kd : CallKind} {tmps : Array Value} {ds : List Deferred} {cs : List Frame} {w : World} {rem : List Nat}
variable (hlen : ms.length = ops.size) (M : ∀ j d, ms[j]? = some d → EntOK ops.toList ms j d)

theorem getOps {i : Nat} {d : DO} (M : ∀ j d, ms[j]? = some d → EntOK ops.toList ms j d) (h : ms[i]? = some d) : ops[i]? = some d.o := by
  have := (M i d h).op
  rwa [Array.getElem?_toList] at this

/-- No slot is set twice. -/
theorem dst_uniq (M : ∀ j d, ms[j]? = some d → EntOK ops.toList ms j d) {i j : Nat} {d d' : DO} {t : Tmp} (h1 : ms[i]? = some d) (h2 : ms[j]? = some d') (k1 : d.o.dst = some t) (k2 : d'.o.dst = some t) : i = j := by
  rcases Nat.lt_trichotomy i j with h | h | h
  · exact absurd k1 ((M j d' h2).ds t k2 i d h h1).1
  · exact h
  · exact absurd k2 ((M i d h1).ds t k1 j d' h h2).1

/-- What one waits for at last has been done where what it waits for itself has. -/
theorem DInv.pc (M : ∀ j d, ms[j]? = some d → EntOK ops.toList ms j d) (D : DInv E N ν w0 sz ops ms am done nx0 s ρ kd tmps ds cs w rem) :
    ∀ (i : Nat) (d : DO), ms[i]? = some d → (∀ j, d.pm.testBit j = true → j ∉ rem) → ∀ k, d.pc.testBit k = true → k ∉ rem := by
  intro i
  induction i using Nat.strongRecOn with
  | ind i ih =>
    intro d hd hp k hk
    obtain ⟨j, dj, h1, h2, h3⟩ := (M i d hd).pc k hk
    rcases h3 with rfl | h3
    · exact hp k h1
    · exact ih j ((M i d hd).lt j h1) dj h2 (fun l hl => D.cl j dj h2 (hp j h1) l hl) k h3

/-- The head of what is left waits for nothing that is left. -/
theorem DInv.head (hlen : ms.length = ops.size) (M : ∀ j d, ms[j]? = some d → EntOK ops.toList ms j d) {i : Nat} {r : List Nat} (D : DInv E N ν w0 sz ops ms am done nx0 s ρ kd tmps ds cs w (i :: r)) :
    ∃ d, ms[i]? = some d ∧ ∀ j, d.pm.testBit j = true → j ∉ i :: r := by
  have hi := D.lt i (List.mem_cons_self ..)
  refine ⟨ms[i], List.getElem?_eq_getElem hi, fun j hj => ?_⟩
  have he := M i _ (List.getElem?_eq_getElem hi)
  exact D.good.ord i r (List.suffix_refl _) j ⟨_, getOps M (List.getElem?_eq_getElem hi), (he.pm j).1 hj⟩

/-- The slots of those that the machine has not done. -/
noncomputable def pslots (ms : List DO) (done : Nat) (rem : List Nat) : List Tmp := rem.filterMap fun i => if done.testBit i then (ms[i]?).bind (·.o.dst) else none

theorem mem_pslots {t : Tmp} : t ∈ pslots ms done rem ↔ ∃ i d, Pend ms done rem i d ∧ d.o.dst = some t := by
  unfold pslots
  rw [List.mem_filterMap]
  constructor
  · rintro ⟨i, hi, h⟩
    split at h
    · rename_i hd
      cases hm : ms[i]? with
      | none => rw [hm] at h; cases h
      | some d => rw [hm] at h; exact ⟨i, d, ⟨hi, hd, hm⟩, h⟩
    · cases h
  · rintro ⟨i, d, ⟨h1, h2, h3⟩, h4⟩
    exact ⟨i, h1, by rw [if_pos h2, h3]; exact h4⟩

theorem DInv.hid (D : DInv E N ν w0 sz ops ms am done nx0 s ρ kd tmps ds cs w rem) : TR ν ρ (hideT (pslots ms done rem) s.tm) tmps := by
  intro t a h
  rw [get_hideT] at h
  split at h
  · cases h
  · rename_i hn
    exact D.tr t a h fun i d hp hd => hn (mem_pslots.2 ⟨i, d, hp, hd⟩)

/-- The head is wanted, as here. -/
theorem DInv.want (hlen : ms.length = ops.size) (M : ∀ j d, ms[j]? = some d → EntOK ops.toList ms j d) {i : Nat} {r : List Nat} (D : DInv E N ν w0 sz ops ms am done nx0 s ρ kd tmps ds cs w (i :: r)) {d : DO} (hi : ms[i]? = some d)
    {b : Bool} (h : (wantF ops.toList d.o.guard).run s.tm = some b) : Region.wanted d.o (yielded ops tmps) = b := by
  refine wantF_ok D.hid ?_
  rw [← h]
  refine wantF_congr fun g w og t hg hog ht => ?_
  rw [get_hideT, if_neg]
  intro hm
  obtain ⟨j, dj, ⟨h1, h2, h3⟩, h4⟩ := mem_pslots.1 hm
  have hp := (M i d hi).gd g w hg
  obtain ⟨d', hd', hno⟩ := D.head hlen M
  rw [hi] at hd'; cases hd'
  have hgl : g < ms.length := by
    have := (Array.getElem?_eq_some_iff.1 hog).1
    omega
  have hgm := List.getElem?_eq_getElem hgl
  have hog' := getOps M hgm
  rw [hog] at hog'; cases hog'
  have := dst_uniq M h3 hgm h4 ht
  subst this
  exact hno j hp h1

/-- What the head reads has been done. -/
theorem DInv.reads (hlen : ms.length = ops.size) (M : ∀ j d, ms[j]? = some d → EntOK ops.toList ms j d) {i : Nat} {r : List Nat} (D : DInv E N ν w0 sz ops ms am done nx0 s ρ kd tmps ds cs w (i :: r)) {d : DO} (hi : ms[i]? = some d) :
    ∀ x ∈ d.o.op.operands.toList, (evF x).run s.tm = (evF x).run (hideT (pslots ms done (i :: r)) s.tm) := by
  intro x hx
  cases x with
  | tmp u =>
    show getP (path u) _ = getP (path u) _
    rw [get_hideT, if_neg]
    intro hm
    obtain ⟨j, dj, ⟨h1, h2, h3⟩, h4⟩ := mem_pslots.1 hm
    have hr : readsT d.o u = true := by
      unfold readsT
      rw [List.any_eq_true]
      exact ⟨.tmp u, hx, Nat.beq_refl u⟩
    obtain ⟨d', hd', hno⟩ := D.head hlen M
    rw [hi] at hd'; cases hd'
    rcases Nat.lt_trichotomy j i with h | h | h
    · exact D.pc M i d hi hno j ((M i d hi).rd j dj u h h3 h4 hr) h1
    · subst h
      rw [hi] at h3; cases h3
      rw [(M j d hi).self u h4] at hr; cases hr
    · have := ((M j dj h3).ds u h4 i d h hi).2 hr
      rw [D.pend j dj ⟨h1, h2, h3⟩] at this; cases this
  | const v => simp only [evF]; cases avc v <;> rfl
  | global g => rfl
  | func f => rfl

/-- The plan does one more. -/
theorem DInv.plan (M : ∀ j d, ms[j]? = some d → EntOK ops.toList ms j d) (D : DInv E N ν w0 sz ops ms am done nx0 s ρ kd tmps ds cs w rem) {i : Nat} {d : DO} (hi : ms[i]? = some d) (hq : d.q = true) (hn : done.testBit i = false) {v : AV}
    (htm : s1.tm = putS s.tm d.o.dst v) (hh : HR N ν w0 ρ s1.hp s1.nx w) (hds : s1.ds = s.ds) (hcm : s1.cm = s.cm) (hnx : s.nx ≤ s1.nx) (hsz : ∀ t, d.o.dst = some t → t < sz)
    (hal : RAll (qop E d.o.op) → ∀ id, idOf v = some id → id = s.nx ∧ id < s1.nx ∧ ρ id = none) :
    DInv E N ν w0 sz ops ms am (Nat.lor d.bit done) nx0 s1 ρ kd tmps ds cs w rem := by
  have hlt := (List.getElem?_eq_some_iff.1 hi).1
  have hmem : i ∈ rem := by
    by_cases h : i ∈ rem
    · exact h
    · rw [D.exe i hlt h] at hn; cases hn
  have hbit : ∀ j, (Nat.lor d.bit done).testBit j = (decide (i = j) || done.testBit j) := fun j => by rw [lor_bit, (M i d hi).bit, pow_bit]
  have hold : ∀ j dj, Pend ms done rem j dj → Pend ms (Nat.lor d.bit done) rem j dj := fun j dj h => ⟨h.1, by rw [hbit, h.2.1]; simp, h.2.2⟩
  have hself : Pend ms (Nat.lor d.bit done) rem i d := ⟨hmem, by rw [hbit]; simp, hi⟩
  have hcase : ∀ j dj, Pend ms (Nat.lor d.bit done) rem j dj → (j = i ∧ dj = d) ∨ (j ≠ i ∧ Pend ms done rem j dj) := by
    intro j dj h
    by_cases hji : j = i
    · subst hji
      have := h.2.2
      rw [hi] at this; cases this
      exact .inl ⟨rfl, rfl⟩
    · refine .inr ⟨hji, h.1, ?_, h.2.2⟩
      have := h.2.1
      rw [hbit] at this
      simpa [Ne.symm hji] using this
  have hpal : ∀ j id, PAl E ms (Nat.lor d.bit done) rem s1.tm j id → (j = i ∧ id = s.nx ∧ id < s1.nx ∧ ρ id = none) ∨ (j ≠ i ∧ PAl E ms done rem s.tm j id) := by
    rintro j id ⟨dj, t, x, hp, ht, hr, hg, hx⟩
    rcases hcase j dj hp with ⟨rfl, rfl⟩ | ⟨hji, hp'⟩
    · rw [htm, ht, get_putS_eq] at hg
      cases hg
      exact .inl ⟨rfl, hal hr id hx⟩
    · refine .inr ⟨hji, dj, t, x, hp', ht, hr, ?_, hx⟩
      rw [htm, get_putS_ne] at hg
      · exact hg
      · intro e; exact hji (dst_uniq M hp'.2.2 hi ht e)
  refine ⟨D.good, D.lt, D.cl, fun j hj hjr => by rw [hbit, D.exe j hj hjr]; simp, ?_, D.am, ?_, hh, D.szT, ?_, by rw [hds]; exact D.df, by rw [hcm]; exact D.cm, Nat.le_trans D.nx hnx, ?_, ?_⟩
  · intro j dj hp
    rcases hcase j dj hp with ⟨rfl, rfl⟩ | ⟨_, hp'⟩
    · exact hq
    · exact D.pend j dj hp'
  · intro t a h hno
    have hne : d.o.dst ≠ some t := hno i d hself
    rw [htm, get_putS_ne hne] at h
    exact D.tr t a h fun j dj hp => hno j dj (hold j dj hp)
  · intro j dj t hp ht
    rcases hcase j dj hp with ⟨rfl, rfl⟩ | ⟨_, hp'⟩
    · exact hsz t ht
    · exact D.dsz j dj t hp' ht
  · intro j id hp
    rcases hpal j id hp with ⟨_, rfl, h1, h2⟩ | ⟨_, hp'⟩
    · exact ⟨D.nx, h1, h2⟩
    · obtain ⟨h1, h2, h3⟩ := D.al j id hp'
      exact ⟨h1, Nat.lt_of_lt_of_le h2 hnx, h3⟩
  · intro j k id h1 h2
    rcases hpal j id h1 with ⟨rfl, e1, _⟩ | ⟨_, h1'⟩ <;> rcases hpal k id h2 with ⟨rfl, e2, _⟩ | ⟨_, h2'⟩
    · rfl
    · have := (D.al k id h2').2.1; omega
    · have := (D.al j id h1').2.1; omega
    · exact D.ad j k id h1' h2'

/-- The machine does one that the plan has done. -/
theorem DInv.exec (M : ∀ j d, ms[j]? = some d → EntOK ops.toList ms j d) {i : Nat} {r : List Nat} (D : DInv E N ν w0 sz ops ms am done nx0 s ρ kd tmps ds cs w (i :: r)) {d : DO} (hi : ms[i]? = some d) (hdone : done.testBit i = true)
    (hno : ∀ j, d.pm.testBit j = true → j ∉ i :: r) {ρ1 : Rho} {w1 : World} {v' : Value}
    (hx : Ext ρ ρ1) (hh : HR N ν w0 ρ1 s.hp s.nx w1) (hv : ∀ t v, d.o.dst = some t → getP (path t) s.tm = some v → VR ν ρ1 v v') (hold : ∀ id, ρ1 id ≠ ρ id → PAl E ms done (i :: r) s.tm i id) :
    DInv E N ν w0 sz ops ms am done nx0 s ρ1 kd (putD tmps d.o.dst v') ds cs w1 r := by
  have hnot : i ∉ r := (List.nodup_cons.1 D.good.nodup).1
  have up : ∀ j dj, Pend ms done r j dj → Pend ms done (i :: r) j dj := fun j dj h => ⟨List.mem_cons_of_mem _ h.1, h.2⟩
  have upa : ∀ j id, PAl E ms done r s.tm j id → PAl E ms done (i :: r) s.tm j id := fun j id ⟨dj, t, v, h1, h2⟩ => ⟨dj, t, v, up j dj h1, h2⟩
  refine ⟨D.good.tail, fun j hj => D.lt j (List.mem_cons_of_mem _ hj), ?_, ?_, fun j dj h => D.pend j dj (up j dj h), fun j hj => D.am j (List.mem_cons_of_mem _ hj), ?_, hh, by rw [putD_size]; exact D.szT, fun j dj t h => D.dsz j dj t (up j dj h),
    D.df.mono hx, D.cm.mono hx, D.nx, ?_, fun j k id h1 h2 => D.ad j k id (upa j id h1) (upa k id h2)⟩
  · intro j dj hj hjr k hk
    by_cases hji : j = i
    · subst hji
      rw [hi] at hj; cases hj
      exact fun h => hno k hk (List.mem_cons_of_mem _ h)
    · exact fun h => D.cl j dj hj (by simp [hji, hjr]) k hk (List.mem_cons_of_mem _ h)
  · intro j hj hjr
    by_cases hji : j = i
    · subst hji; exact hdone
    · exact D.exe j hj (by simp [hji, hjr])
  · intro t a h hne
    by_cases ht : d.o.dst = some t
    · rw [ht, getD_putD_eq (Nat.lt_of_lt_of_le (D.dsz i d t ⟨List.mem_cons_self .., hdone, hi⟩ ht) D.szT)]
      exact hv t a ht h
    · rw [getD_putD_ne ht]
      refine (D.tr t a h fun j dj hp => ?_).mono hx _ _
      rcases List.mem_cons.1 hp.1 with rfl | hjr
      · have := hp.2.2
        rw [hi] at this; cases this
        exact ht
      · exact hne j dj ⟨hjr, hp.2⟩
  · intro j id hp
    obtain ⟨h1, h2, h3⟩ := D.al j id (upa j id hp)
    refine ⟨h1, h2, ?_⟩
    by_cases e : ρ1 id = ρ id
    · rw [e]; exact h3
    · have := D.ad j i id (upa j id hp) (hold id e)
      subst this
      obtain ⟨dj, t, v, hp', _⟩ := hp
      exact absurd hp'.1 hnot

/-- An act done, by the plan and by the machine. -/
theorem DInv.act (M : ∀ j d, ms[j]? = some d → EntOK ops.toList ms j d) {i : Nat} {r : List Nat} (D : DInv E N ν w0 sz ops ms am done nx0 s ρ kd tmps ds cs w (i :: r)) {d : DO} (hi : ms[i]? = some d) (hdone : done.testBit i = false)
    (hno : ∀ j, d.pm.testBit j = true → j ∉ i :: r) {ρ1 : Rho} {w1 : World} {v : AV} {v' : Value} {tm1 : Tr AV} {ds1 : List Deferred} {cs1 : List Frame}
    (hg : Grow s.nx ρ ρ1 s1.nx) (hh : HR N ν w0 ρ1 s1.hp s1.nx w1) (hv : VR ν ρ1 v v') (htm : s1.tm = putS tm1 d.o.dst v) (h1 : ∀ u, getP (path u) tm1 = getP (path u) s.tm) (hsz : ∀ t, d.o.dst = some t → t < sz)
    (hdf : DfRs ν ρ1 s1.ds ds1) (hcm : CmR ν ρ1 kd cs1 s1.cm) :
    DInv E N ν w0 sz ops ms (Nat.lor am (Nat.lor d.bit d.pc)) (Nat.lor d.bit done) nx0 s1 ρ1 kd (putD tmps d.o.dst v') ds1 cs1 w1 r := by
  have hx := hg.ext D.hr
  have hnot : i ∉ r := (List.nodup_cons.1 D.good.nodup).1
  have hbit : ∀ j, (Nat.lor d.bit done).testBit j = (decide (i = j) || done.testBit j) := fun j => by rw [lor_bit, (M i d hi).bit, pow_bit]
  have hdn : ∀ j dj, Pend ms (Nat.lor d.bit done) r j dj → j ≠ i ∧ Pend ms done (i :: r) j dj := by
    intro j dj h
    have hji : j ≠ i := fun e => hnot (e ▸ h.1)
    refine ⟨hji, List.mem_cons_of_mem _ h.1, ?_, h.2.2⟩
    have := h.2.1
    rw [hbit] at this
    simpa [Ne.symm hji] using this
  have hpal : ∀ j id, PAl E ms (Nat.lor d.bit done) r s1.tm j id → PAl E ms done (i :: r) s.tm j id := by
    rintro j id ⟨dj, t, x, hp, ht, hr, hgt, hxx⟩
    obtain ⟨hji, hp'⟩ := hdn j dj hp
    refine ⟨dj, t, x, hp', ht, hr, ?_, hxx⟩
    rw [htm, get_putS_ne, h1] at hgt
    · exact hgt
    · intro e; exact hji (dst_uniq M hp'.2.2 hi ht e)
  refine ⟨D.good.tail, fun j hj => D.lt j (List.mem_cons_of_mem _ hj), ?_, ?_, fun j dj h => D.pend j dj (hdn j dj h).2, ?_, ?_, hh, by rw [putD_size]; exact D.szT, fun j dj t h => D.dsz j dj t (hdn j dj h).2,
    hdf, hcm, Nat.le_trans D.nx hg.le, ?_, fun j k id h1 h2 => D.ad j k id (hpal j id h1) (hpal k id h2)⟩
  · intro j dj hj hjr k hk
    by_cases hji : j = i
    · subst hji
      rw [hi] at hj; cases hj
      exact fun h => hno k hk (List.mem_cons_of_mem _ h)
    · exact fun h => D.cl j dj hj (by simp [hji, hjr]) k hk (List.mem_cons_of_mem _ h)
  · intro j hj hjr
    rw [hbit]
    by_cases hji : j = i
    · subst hji; simp
    · rw [D.exe j hj (by simp [hji, hjr])]; simp
  · intro j hj
    rw [lor_bit, lor_bit, D.am j (List.mem_cons_of_mem _ hj), (M i d hi).bit, pow_bit]
    have hji : i ≠ j := fun e => hnot (e ▸ hj)
    simp only [hji, decide_false, Bool.false_or]
    cases e : d.pc.testBit j with
    | false => rfl
    | true => exact absurd (List.mem_cons_of_mem _ hj) (D.pc M i d hi hno j e)
  · intro t a h hne
    by_cases ht : d.o.dst = some t
    · rw [ht, getD_putD_eq (Nat.lt_of_lt_of_le (hsz t ht) D.szT)]
      rw [htm, ht, get_putS_eq] at h
      cases h; exact hv
    · rw [getD_putD_ne ht]
      rw [htm, get_putS_ne ht, h1] at h
      refine (D.tr t a h fun j dj hp => ?_).mono hx _ _
      rcases List.mem_cons.1 hp.1 with rfl | hjr
      · rw [hp.2.1] at hdone; cases hdone
      · exact hne j dj ⟨hjr, by rw [hbit, hp.2.1]; simp, hp.2.2⟩
  · intro j id hp
    obtain ⟨k1, k2, k3⟩ := D.al j id (hpal j id hp)
    exact ⟨k1, Nat.lt_of_lt_of_le k2 hg.le, by rw [hg.old id k2]; exact k3⟩

end
end Pk
/- The abstract run is sound: regions whose order is drawn. -/
namespace Pk
open Go Go.RowKit

section
variable {E : Env} {N : Nat} {ν : Nat → Int} {w0 : World} {fn : FuncId} {sz : Nat} {rnd : Option Nat} {s s1 s2 : St} {ex : Ex} {I : IH} {ops : Array Oper} {ms : List DO} {am done nx0 : Nat}
variable {ρ : Rho} {kd : CallKind} {rr : Option Nat} {tmps : Array Value} {ds : List Deferred} {k : List Item} {cs : List Frame} {w : World} {rem : List Nat}

/-- All that the plan has done and the machine has not still give what they gave. -/
def Looks (E : Env) (ops : Array Oper) (ms : List DO) (done : Nat) (rem : List Nat) (s : St) : Prop := ∀ i d, Pend ms done rem i d → (lookF E ops.toList d.o).run s.tm s.hp = true

/-- The machine does one of these. -/
theorem DInv.mach (hE : EnvOK E) (hpc : ∀ p ∈ E.pc, PFok ν p) (hlen : ms.length = ops.size) (M : ∀ j d, ms[j]? = some d → EntOK ops.toList ms j d) {i : Nat} {r : List Nat} (D : DInv E N ν w0 sz ops ms am done nx0 s ρ kd tmps ds cs w (i :: r))
    (hdone : done.testBit i = true) (hL : Looks E ops ms done (i :: r) s) :
    ∃ ρ1 w1 tmps1, DInv E N ν w0 sz ops ms am done nx0 s ρ1 kd tmps1 ds cs w1 r ∧ Ext ρ ρ1 ∧ (∀ id, id < nx0 → ρ1 id = ρ id) ∧ tmps1.size = tmps.size ∧
      Steps E.P (lone (mkF fn kd rr tmps ds (.inRegion ops (i :: r) :: k)) cs w) (lone (mkF fn kd rr tmps1 ds (.inRegion ops r :: k)) cs w1) := by
  obtain ⟨d, hi, hno⟩ := D.head hlen M
  have hp : Pend ms done (i :: r) i d := ⟨List.mem_cons_self .., hdone, hi⟩
  have hl := hL i d hp
  have hoi := getOps M hi
  have hq : quiet d.o.op = true := by rw [← (M i d hi).q]; exact D.pend i d hp
  have hnd : rr = none ∨ ∀ c, d.o.op ≠ .defer c := .inr fun c e => by rw [e] at hq; cases hq
  have hrd : ∀ hp', (qop E d.o.op).run s.tm hp' = (qop E d.o.op).run (hideT (pslots ms done (i :: r)) s.tm) hp' := fun hp' => qop_congr (D.reads hlen M hi)
  -- not wanted
  have hskip : (wantF ops.toList d.o.guard).run s.tm = some false → (∀ t v, d.o.dst = some t → getP (path t) s.tm = some v → v = .tup []) →
      ∃ ρ1 w1 tmps1, DInv E N ν w0 sz ops ms am done nx0 s ρ1 kd tmps1 ds cs w1 r ∧ Ext ρ ρ1 ∧ (∀ id, id < nx0 → ρ1 id = ρ id) ∧ tmps1.size = tmps.size ∧
      Steps E.P (lone (mkF fn kd rr tmps ds (.inRegion ops (i :: r) :: k)) cs w) (lone (mkF fn kd rr tmps1 ds (.inRegion ops r :: k)) cs w1) := by
    intro hw hv
    refine ⟨ρ, w, putD tmps d.o.dst undef, D.exec M hi hdone hno (Ext.refl _) D.hr (fun t v ht hg => ?_) (fun id h => absurd rfl h), Ext.refl _, fun _ _ => rfl, putD_size _ _ _, .one (st_op_skip hoi (D.want hlen M hi hw))⟩
    rw [hv t v ht hg]
    exact VR_tup.2 ⟨[], VRs_nil.2 rfl, rfl⟩
  cases hdst : d.o.dst with
  | none =>
    simp only [lookF, hdst] at hl
    split at hl
    · rename_i hw
      split at hl
      · rename_i v hv
        rw [hrd] at hv
        obtain ⟨v', w', h1, h2⟩ := qop_ok (a := ⟨tmps, ds⟩) hE hpc D.hid D.hr hv
        have ew : w' = w := h2.2
        subst ew
        have D' := D.exec M hi hdone hno (v' := v') (Ext.refl _) D.hr (fun t v ht hg => by rw [hdst] at ht; cases ht) (fun id h => absurd rfl h)
        have hs := st_op_val (fn := fn) (kd := kd) (k := k) (cs := cs) (rest := r) hoi (D.want hlen M hi hw) hnd h1 (.inl rfl)
        exact ⟨ρ, _, _, D', Ext.refl _, fun _ _ => rfl, putD_size _ _ _, .one hs⟩
      · cases hl
    · rename_i hw
      exact hskip hw fun t v ht => by rw [hdst] at ht; cases ht
    · cases hl
  | some t =>
    simp only [lookF, hdst] at hl
    split at hl
    · rename_i v hv
      split at hl
      · rename_i hw
        split at hl
        · rename_i q hqr
          have hqr0 := hqr
          rw [hrd] at hqr
          obtain ⟨v', w', h1, h2⟩ := qop_ok (a := ⟨tmps, ds⟩) hE hpc D.hid D.hr hqr
          have hs := st_op_val (fn := fn) (kd := kd) (k := k) (cs := cs) (rest := r) hoi (D.want hlen M hi hw) hnd h1 (.inl rfl)
          -- a value alone
          have hval : ∀ x, beqA x v = true → VR ν ρ x v' → HR N ν w0 ρ s.hp s.nx w' →
              ∃ ρ1 w1 tmps1, DInv E N ν w0 sz ops ms am done nx0 s ρ1 kd tmps1 ds cs w1 r ∧ Ext ρ ρ1 ∧ (∀ id, id < nx0 → ρ1 id = ρ id) ∧ tmps1.size = tmps.size ∧
              Steps E.P (lone (mkF fn kd rr tmps ds (.inRegion ops (i :: r) :: k)) cs w) (lone (mkF fn kd rr tmps1 ds (.inRegion ops r :: k)) cs w1) := by
            intro x hb hvx hh
            have hxv := beqA_ok x v hb
            subst hxv
            refine ⟨ρ, w', putD tmps d.o.dst v', D.exec M hi hdone hno (Ext.refl _) hh (fun t' v2 ht hg => ?_) (fun id h => absurd rfl h), Ext.refl _, fun _ _ => rfl, putD_size _ _ _, .one hs⟩
            rw [hdst] at ht; cases ht
            rw [hv] at hg; cases hg
            exact hvx
          -- a block
          have hblk : ∀ (id c : Nat) (o : AObj) (ob : Obj), RAll (qop E d.o.op) → idOf v = some id → getP (path id) s.hp = some o → NewW w w' ob → OR' N ν ρ w.heap.size c o ob →
              (∀ ρ1 : Rho, Ext ρ ρ1 → ρ1 id = some (w.heap.size, c) → VR ν ρ1 v v') →
              ∃ ρ1 w1 tmps1, DInv E N ν w0 sz ops ms am done nx0 s ρ1 kd tmps1 ds cs w1 r ∧ Ext ρ ρ1 ∧ (∀ id, id < nx0 → ρ1 id = ρ id) ∧ tmps1.size = tmps.size ∧
              Steps E.P (lone (mkF fn kd rr tmps ds (.inRegion ops (i :: r) :: k)) cs w) (lone (mkF fn kd rr tmps1 ds (.inRegion ops r :: k)) cs w1) := by
            intro id c o ob hall hid hlies hnw hor hvr
            have hpa : PAl E ms done (i :: r) s.tm i id := ⟨d, t, v, hp, hdst, hall, hv, hid⟩
            obtain ⟨k1, k2, k3⟩ := D.al i id hpa
            have hx : Ext ρ (extR ρ id w.heap.size c) := fun j x e => by
              unfold extR
              by_cases hj : j = id
              · subst hj; rw [k3] at e; cases e
              · rw [if_neg hj]; exact e
            refine ⟨extR ρ id w.heap.size c, w', putD tmps d.o.dst v', D.exec M hi hdone hno hx (D.hr.know k3 k2 hlies hnw hor) (fun t' v2 ht hg => ?_) (fun j hj => ?_), hx, fun j hj => ?_, putD_size _ _ _, .one hs⟩
            · rw [hdst] at ht; cases ht
              rw [hv] at hg; cases hg
              exact hvr _ hx (by simp [extR])
            · by_cases e : j = id
              · subst e; exact hpa
              · unfold extR at hj; rw [if_neg e] at hj; exact absurd rfl hj
            · unfold extR; rw [if_neg (by omega)]
          have hall : allocR q = true → RAll (qop E d.o.op) := by
            intro ha
            rcases q_dich (E := E) d.o.op with h | h
            · rw [h _ _ _ hqr0] at ha; cases ha
            · exact h
          cases q with
          | val x => exact hval x hl h2.1 (by rw [h2.2]; exact D.hr)
          | mrk x id => exact hval x hl h2.1 (quiet_drop D.hr h2)
          | ptr o =>
            simp only [holdsQ] at hl
            split at hl
            · rename_i id
              obtain ⟨rfl, ob, c, g1, g2⟩ := h2
              exact hblk id c o ob (hall rfl) rfl (lies_ok hl) g1 g2 fun ρ1 hx e => VR_ptr.2 ⟨w.heap.size, ⟨c, e⟩, rfl⟩
            · cases hl
          | slc o len cap ex =>
            simp only [holdsQ] at hl
            split at hl
            · rename_i id len' cap' ex'
              split at hl
              · rename_i e1 e2 e3
                have e1 := beq_true e1
                have e2 := beq_true e2
                have e3 : ex = ex' := by cases ex <;> cases ex' <;> simp_all
                subst e1; subst e2; subst e3
                obtain ⟨ob, c, cp, rfl, g0, g1, g2⟩ := h2
                exact hblk id c o ob (hall rfl) rfl (lies_ok hl) g1 g2 fun ρ1 hx e => VR_slice.2 ⟨w.heap.size, c, 0, cp, e, g0, rfl⟩
              · cases hl
            · cases hl
          | mp o =>
            simp only [holdsQ] at hl
            split at hl
            · rename_i id
              obtain ⟨rfl, ob, c, g1, g2⟩ := h2
              exact hblk id c o ob (hall rfl) rfl (lies_ok hl) g1 g2 fun ρ1 hx e => VR_map.2 ⟨w.heap.size, ⟨c, e⟩, rfl⟩
            · cases hl
        · cases hl
      · rename_i hw
        refine hskip hw fun t' v2 ht hg => ?_
        rw [hdst] at ht; cases ht
        rw [hv] at hg; cases hg
        split at hl
        · rfl
        · cases hl
      · cases hl
    · cases hl

/-- The machine does what it can of these. -/
theorem DInv.machs (hE : EnvOK E) (hpc : ∀ p ∈ E.pc, PFok ν p) (hlen : ms.length = ops.size) (M : ∀ j d, ms[j]? = some d → EntOK ops.toList ms j d) : ∀ (rem : List Nat) (ρ : Rho) (tmps : Array Value) (w : World),
    DInv E N ν w0 sz ops ms am done nx0 s ρ kd tmps ds cs w rem → Looks E ops ms done rem s →
    ∃ ρ1 w1 tmps1 rem1, DInv E N ν w0 sz ops ms am done nx0 s ρ1 kd tmps1 ds cs w1 rem1 ∧ Ext ρ ρ1 ∧ (∀ id, id < nx0 → ρ1 id = ρ id) ∧ tmps1.size = tmps.size ∧
      Steps E.P (lone (mkF fn kd rr tmps ds (.inRegion ops rem :: k)) cs w) (lone (mkF fn kd rr tmps1 ds (.inRegion ops rem1 :: k)) cs w1) ∧
      (rem1 = [] ∨ ∃ i r, rem1 = i :: r ∧ done.testBit i = false)
  | [], ρ, tmps, w, D, hL => ⟨ρ, w, tmps, [], D, Ext.refl _, fun _ _ => rfl, rfl, Steps.refl _ _, .inl rfl⟩
  | i :: r, ρ, tmps, w, D, hL => by
    cases hdone : done.testBit i with
    | false => exact ⟨ρ, w, tmps, _, D, Ext.refl _, fun _ _ => rfl, rfl, Steps.refl _ _, .inr ⟨i, r, rfl, hdone⟩⟩
    | true =>
      obtain ⟨ρ1, w1, tmps1, D1, x1, o1, z1, s1'⟩ := D.mach (fn := fn) (rr := rr) (k := k) hE hpc hlen M hdone hL
      obtain ⟨ρ2, w2, tmps2, rem2, D2, x2, o2, z2, s2', e2⟩ := DInv.machs hE hpc hlen M r ρ1 tmps1 w1 D1 fun j d hp => hL j d ⟨List.mem_cons_of_mem _ hp.1, hp.2⟩
      exact ⟨ρ2, w2, tmps2, rem2, D2, x1.trans x2, fun id h => (o2 id h).trans (o1 id h), z2.trans z1, s1'.trans s2', e2⟩

/-- One quiet operation of the plan. -/
theorem plan1 (hE : EnvOK E) (M : ∀ j d, ms[j]? = some d → EntOK ops.toList ms j d) (D : DInv E N ν w0 sz ops ms am done nx0 s ρ kd tmps ds cs w rem) {i : Nat} {d : DO} (hi : ms[i]? = some d) (hq : d.q = true) (hn : done.testBit i = false)
    {K : XF} {r : Ex × St} (h : (guardX E sz ops.toList d.o K).run I rnd s = some r) :
    ∃ s1, K.run I rnd s1 = some r ∧ DInv E N ν w0 sz ops ms am (Nat.lor d.bit done) nx0 s1 ρ kd tmps ds cs w rem := by
  have hqq : quiet d.o.op = true := by rw [← (M i d hi).q]; exact hq
  have hskip : (setF sz d.o.dst).run undefA s (fun s => K.run I rnd s) = some r → ∃ s1, K.run I rnd s1 = some r ∧ DInv E N ν w0 sz ops ms am (Nat.lor d.bit done) nx0 s1 ρ kd tmps ds cs w rem := by
    intro h
    obtain ⟨h1, h2⟩ := setF_ok h
    exact ⟨_, h1, D.plan M hi hq hn (s1 := ⟨putS s.tm d.o.dst undefA, s.hp, s.nx, s.ds, s.cm⟩) rfl D.hr rfl rfl (Nat.le_refl _) h2 fun _ id e => by cases e⟩
  have hdo : (operX E sz d.o K).run I rnd s = some r → ∃ s1, K.run I rnd s1 = some r ∧ DInv E N ν w0 sz ops ms am (Nat.lor d.bit done) nx0 s1 ρ kd tmps ds cs w rem := by
    intro h
    simp only [operX, hqq] at h
    obtain ⟨q, h1, h2, h3⟩ := quietX_some h
    cases hdst : d.o.dst with
    | none =>
      exact ⟨s, h3 hdst, D.plan M hi hq hn (v := undefA) (by rw [hdst]; rfl) D.hr rfl rfl (Nat.le_refl _) (fun t e => by rw [hdst] at e; cases e) fun _ id e => by cases e⟩
    | some t =>
      obtain ⟨ht, h4⟩ := h2 t hdst
      have hfr := D.hr.fresh s.nx (Nat.le_refl _)
      refine ⟨_, h4, ?_⟩
      cases q with
      | val v =>
        refine D.plan M hi hq hn (v := v) (by rw [hdst]; rfl) D.hr rfl rfl (Nat.le_refl _) (fun t' e => by rw [hdst] at e; cases e; exact ht) fun ha => ?_
        have := ha _ _ _ h1; cases this
      | mrk v id =>
        refine D.plan M hi hq hn (v := v) (by rw [hdst]; rfl) D.hr rfl rfl (Nat.le_refl _) (fun t' e => by rw [hdst] at e; cases e; exact ht) fun ha => ?_
        have := ha _ _ _ h1; cases this
      | ptr o =>
        exact D.plan M hi hq hn (v := .ptr s.nx 0) (by rw [hdst]; rfl) (D.hr.ghost o) rfl rfl (Nat.le_succ _) (fun t' e => by rw [hdst] at e; cases e; exact ht) fun _ id e => by
          cases e; exact ⟨rfl, Nat.lt_succ_self _, hfr⟩
      | slc o len cap x =>
        exact D.plan M hi hq hn (v := .slice s.nx 0 len cap x) (by rw [hdst]; rfl) (D.hr.ghost o) rfl rfl (Nat.le_succ _) (fun t' e => by rw [hdst] at e; cases e; exact ht) fun _ id e => by
          cases e; exact ⟨rfl, Nat.lt_succ_self _, hfr⟩
      | mp o =>
        exact D.plan M hi hq hn (v := .map s.nx) (by rw [hdst]; rfl) (D.hr.ghost o) rfl rfl (Nat.le_succ _) (fun t' e => by rw [hdst] at e; cases e; exact ht) fun _ id e => by
          cases e; exact ⟨rfl, Nat.lt_succ_self _, hfr⟩
  unfold guardX at h
  split at h
  · exact hdo h
  · simp only at h
    split at h
    · exact hdo h
    · exact hskip h
    · cases h

/-- The quiet operations of one stage. -/
theorem plans (hE : EnvOK E) (M : ∀ j d, ms[j]? = some d → EntOK ops.toList ms j d) {K : XF} {r : Ex × St} : ∀ (l : List DO) (done : Nat) (s : St) (qs : List DO) (done' : Nat), (∀ d ∈ l, ∃ i : Nat, ms[i]? = some d) →
    satD l done = (qs, done') → (quietsX E sz ops.toList qs K).run I rnd s = some r → DInv E N ν w0 sz ops ms am done nx0 s ρ kd tmps ds cs w rem →
    ∃ s1, K.run I rnd s1 = some r ∧ DInv E N ν w0 sz ops ms am done' nx0 s1 ρ kd tmps ds cs w rem
  | [], done, s, qs, done', _, h, hr, D => by
    cases h
    exact ⟨s, hr, D⟩
  | d :: l, done, s, qs, done', hl, h, hr, D => by
    simp only [satD] at h
    obtain ⟨i, hi⟩ := hl d (List.mem_cons_self ..)
    split at h
    · rename_i hq hb hp
      rw [(M i d hi).bit, isIn_pow] at hb
      cases hs : satD l (Nat.lor d.bit done) with
      | mk a b =>
        rw [hs] at h
        simp only [Prod.mk.injEq] at h
        obtain ⟨rfl, rfl⟩ := h
        simp only [quietsX] at hr
        obtain ⟨s1, h1, D1⟩ := plan1 hE M D hi hq hb hr
        exact plans hE M l _ s1 a b (fun x hx => hl x (List.mem_cons_of_mem _ hx)) hs h1 D1
    · exact plans hE M l done s qs done' (fun x hx => hl x (List.mem_cons_of_mem _ hx)) h hr D

theorem looks_of (M : ∀ j d, ms[j]? = some d → EntOK ops.toList ms j d) (D : DInv E N ν w0 sz ops ms am done nx0 s ρ kd tmps ds cs w rem) (h : (looksF E ops.toList (pendD am done ms)).run s.tm s.hp = true) : Looks E ops ms done rem s := by
  intro i d hp
  have he := M i d hp.2.2
  refine mem_looksF _ h d (mem_pendD ms d (List.mem_of_getElem? hp.2.2) (D.pend i d hp) ?_ ?_)
  · rw [he.bit, isIn_pow]; exact hp.2.1
  · rw [he.bit, isIn_pow]; exact D.am i hp.1

/-- Where a region ends. -/
def DEnd (E : Env) (N : Nat) (ν : Nat → Int) (w0 : World) (fn : FuncId) (sz : Nat) (ops : Array Oper) (nx0 : Nat) (ρ : Rho) (kd : CallKind) (rr : Option Nat) (tmps : Array Value) (ds : List Deferred) (k : List Item) (cs : List Frame) (w : World)
    (rem : List Nat) (ex : Ex) (s' : St) : Prop :=
  ∃ ρ' w' tmps' ds' cs', (∀ id, id < nx0 → ρ' id = ρ id) ∧ nx0 ≤ s'.nx ∧ FS N ν w0 ρ' sz s' kd tmps' ds' cs' w' ∧ CsUp kd cs cs' ∧ tmps'.size = tmps.size ∧
    Ends E.P ν ρ' (lone (mkF fn kd rr tmps ds (.inRegion ops rem :: k)) cs w) fn kd rr tmps' ds' k cs' w' ex

theorem runPlan_ok (hE : EnvOK E) (hpc : ∀ p ∈ E.pc, PFok ν p) (hI : IHOK E N ν w0 I) (hlen : ms.length = ops.size) (M : ∀ j d, ms[j]? = some d → EntOK ops.toList ms j d) :
    ∀ (n am done : Nat) (p : Plan), planD ms (Nat.sub (Nat.pow 2 ms.length) 1) n am done = some p → ∀ (s : St) (ex : Ex) (s2 : St), (runPlan E sz ops.toList p).run I rnd s = some (ex, s2) →
    ∀ (ρ : Rho) (tmps : Array Value) (ds : List Deferred) (cs : List Frame) (w : World) (rem : List Nat), RdR ρ rnd rr → DInv E N ν w0 sz ops ms am done nx0 s ρ kd tmps ds cs w rem →
      DEnd E N ν w0 fn sz ops nx0 ρ kd rr tmps ds k cs w rem ex s2
  | 0, am, done, p, h, _, _, _, _, _, _, _, _, _, _, _, _ => by cases h
  | n + 1, am, done, p, h, s, ex, s2, hr, ρ, tmps, ds, cs, w, rem, hrd, D => by
    simp only [planD] at h
    cases hs : satD ms done with
    | mk qs done' =>
      rw [hs] at h
      simp only at h
      have hall : ∀ d ∈ ms, ∃ i : Nat, ms[i]? = some d := fun d hd => List.mem_iff_getElem?.1 hd
      split at h
      · rename_i hfree
        split at h
        · rename_i hfull
          cases h
          simp only [runPlan] at hr
          obtain ⟨s1, h1, D1⟩ := plans hE M ms done s qs done' hall hs hr D
          simp only [lookX] at h1
          split at h1
          · rename_i hlook
            simp only [xNrm] at h1
            cases h1
            obtain ⟨ρ1, w1, tmps1, rem1, D2, x2, o2, z2, st2, e2⟩ := DInv.machs (fn := fn) (rr := rr) (k := k) hE hpc hlen M rem ρ tmps w D1 (looks_of M D1 hlook)
            have hrem : rem1 = [] := by
              rcases e2 with e | ⟨i, r, rfl, hf⟩
              · exact e
              · have := D2.lt i (List.mem_cons_self ..)
                rw [beq_true hfull] at hf
                have hb : (2 ^ ms.length - 1).testBit i = decide (i < ms.length) := Nat.testBit_two_pow_sub_one ms.length i
                have hf : (2 ^ ms.length - 1).testBit i = false := hf
                rw [hb] at hf
                simp [this] at hf
            subst hrem
            refine ⟨ρ1, w1, tmps1, ds, cs, o2, D2.nx, ⟨fun t a h => D2.tr t a h (fun i d hp => by cases hp.1), D2.hr, D2.szT, D2.df, D2.cm⟩, CsUp.refl _ _, z2, ?_⟩
            exact st2.trans (.one st_region_end)
          · cases h1
        · cases h
      · rename_i d hfree
        split at h
        · rename_i rest hrest
          cases h
          simp only [runPlan] at hr
          obtain ⟨s1, h1, D1⟩ := plans hE M ms done s qs done' hall hs hr D
          simp only [lookX] at h1
          split at h1
          · rename_i hlook
            obtain ⟨ρ1, w1, tmps1, rem1, D2, x2, o2, z2, st2, e2⟩ := DInv.machs (fn := fn) (rr := rr) (k := k) hE hpc hlen M rem ρ tmps w D1 (looks_of M D1 hlook)
            have hd : d ∈ ms ∧ isIn d.bit done' = false ∧ isIn d.pm done' = true := (mem_freeD ms d).1 (by rw [hfree]; exact List.mem_cons_self ..)
            obtain ⟨i0, hi0⟩ := hall d hd.1
            have hn0 : done'.testBit i0 = false := by have := hd.2.1; rwa [(M i0 d hi0).bit, isIn_pow] at this
            rcases e2 with rfl | ⟨i, r, rfl, hf⟩
            · have := D2.exe i0 (List.getElem?_eq_some_iff.1 hi0).1 (by simp)
              rw [hn0] at this; cases this
            obtain ⟨di, hi, hno⟩ := D2.head hlen M
            have hdi : di = d := by
              have hm : di ∈ freeD done' ms := by
                refine (mem_freeD ms di).2 ⟨List.mem_of_getElem? hi, ?_, ?_⟩
                · rw [(M i di hi).bit, isIn_pow]; exact hf
                · refine isIn_iff.2 fun j hj => D2.exe j ?_ (hno j hj)
                  have := (M i di hi).lt j hj
                  have := (List.getElem?_eq_some_iff.1 hi).1
                  omega
              rw [hfree] at hm
              exact List.mem_singleton.1 hm
            subst hdi
            have hrd2 : RdR ρ1 rnd rr := hrd.mono x2
            have hoi := getOps M hi
            -- behind the act
            have fin : ∀ (s3 : St) (ρ3 : Rho) (w3 : World) (tmps3 : Array Value) (ds3 : List Deferred) (cs3 : List Frame), (runPlan E sz ops.toList rest).run I rnd s3 = some (ex, s2) → Ext ρ1 ρ3 → (∀ id, id < nx0 → ρ3 id = ρ1 id) →
                DInv E N ν w0 sz ops ms (Nat.lor am (Nat.lor di.bit di.pc)) (Nat.lor di.bit done') nx0 s3 ρ3 kd tmps3 ds3 cs3 w3 r → CsUp kd cs cs3 → tmps3.size = tmps1.size →
                Steps E.P (lone (mkF fn kd rr tmps1 ds (.inRegion ops (i :: r) :: k)) cs w1) (lone (mkF fn kd rr tmps3 ds3 (.inRegion ops r :: k)) cs3 w3) →
                DEnd E N ν w0 fn sz ops nx0 ρ kd rr tmps ds k cs w rem ex s2 := by
              intro s3 ρ3 w3 tmps3 ds3 cs3 hr3 x3 o3 D3 u3 z3 st3
              obtain ⟨ρ4, w4, tmps4, ds4, cs4, o4, n4, f4, u4, z4, en4⟩ := runPlan_ok hE hpc hI hlen M n _ _ rest hrest s3 ex s2 hr3 ρ3 tmps3 ds3 cs3 w3 r (hrd2.mono x3) D3
              exact ⟨ρ4, w4, tmps4, ds4, cs4, fun id h => (o4 id h).trans ((o3 id h).trans (o2 id h)), n4, f4, u3.trans u4, z4.trans (z3.trans z2), .of_steps (st2.trans st3) en4⟩
            have hskip : Region.wanted di.o (yielded ops tmps1) = false → ((setF sz di.o.dst).run undefA s1 fun s => (runPlan E sz ops.toList rest).run I rnd s) = some (ex, s2) → DEnd E N ν w0 fn sz ops nx0 ρ kd rr tmps ds k cs w rem ex s2 := by
              intro hw h2
              obtain ⟨k1, k2⟩ := setF_ok h2
              refine fin _ ρ1 w1 _ ds cs k1 (Ext.refl _) (fun _ _ => rfl) (D2.act M hi hf hno (v := undefA) (v' := undef) (tm1 := s1.tm) (Grow.refl _ _) D2.hr (VR_tup.2 ⟨[], VRs_nil.2 rfl, rfl⟩) rfl (fun _ => rfl) k2 D2.df D2.cm) (CsUp.refl _ _) (putD_size _ _ _) (.one (st_op_skip hoi hw))
            have hdo : Region.wanted di.o (yielded ops tmps1) = true → (actDX E sz di.o (pendD (Nat.lor am di.pc) done' ms) (runPlan E sz ops.toList rest)).run I rnd s1 = some (ex, s2) → DEnd E N ν w0 fn sz ops nx0 ρ kd rr tmps ds k cs w rem ex s2 := by
              intro hw h2
              obtain ⟨tm, hp, nx, sds, cm⟩ := s1
              simp only [actDX] at h2
              rw [hideK_eq] at h2
              split at h2
              · rename_i o ho
                -- the slots put aside
                have hfs : FS N ν w0 ρ1 sz ⟨hideT (lostT (pendD (Nat.lor am di.pc) done' ms)) tm, hp, nx, sds, cm⟩ kd tmps1 ds cs w1 := by
                  refine ⟨fun t a hg => ?_, D2.hr, D2.szT, D2.df, D2.cm⟩
                  rw [get_hideT] at hg
                  split at hg
                  · cases hg
                  · rename_i hnt
                    refine D2.tr t a hg fun j dj hp hd => hnt (mem_lostT _ t ⟨dj, mem_pendD ms dj (List.mem_of_getElem? hp.2.2) (D2.pend j dj hp) ?_ ?_, hd⟩)
                    · rw [(M j dj hp.2.2).bit, isIn_pow]; exact hp.2.1
                    · rw [(M j dj hp.2.2).bit, isIn_pow, lor_bit, D2.am j hp.1, Bool.false_or]
                      cases e : di.pc.testBit j with
                      | false => rfl
                      | true => exact absurd hp.1 (D2.pc M i di hi hno j e)
                have ha := act_ok (N := N) (ν := ν) (w0 := w0) (fn := fn) (sz := sz) hE hI ho ρ1 kd rr tmps1 ds k cs w1 ops i r hrd2 hfs hoi hw
                split at h2
                · rename_i v s'
                  obtain ⟨etm, ρ', w', v', ds', cs', g1, g2, g3, g4, g5⟩ := ha
                  obtain ⟨tm', hp', nx', sds', cm'⟩ := s'
                  simp only at h2 etm
                  rw [backK_eq] at h2
                  obtain ⟨k1, k2⟩ := setF_ok h2
                  subst etm
                  have x3 := g1.ext D2.hr
                  exact fin _ ρ' w' _ ds' cs' k1 x3 (fun id h => g1.old id (Nat.lt_of_lt_of_le h D2.nx)) (D2.act M hi hf hno g1 g3.hr g2 rfl (fun u => get_back _ _ u) k2 g3.df g3.cm) g4 (putD_size _ _ _) g5
                · rename_i ch s'
                  cases h2
                  obtain ⟨ρ', w', ch', g1, g2, g3, g4⟩ := ha
                  exact ⟨ρ', w', tmps1, ds, cs, fun id h => (g1.old id (Nat.lt_of_lt_of_le h D2.nx)).trans (o2 id h), Nat.le_trans D2.nx g1.le, g3, CsUp.refl _ _, z2, _, ch', g2, catches_region, st2.trans g4⟩
              · cases h2
            unfold guardDX at h1
            split at h1
            · rename_i hg
              exact hdo (D2.want hlen M hi (by rw [hg]; rfl)) h1
            · rename_i g hg
              simp only at h1
              split at h1
              · rename_i hw
                exact hdo (D2.want hlen M hi (by rw [hg]; exact hw)) h1
              · rename_i hw
                exact hskip (D2.want hlen M hi (by rw [hg]; exact hw)) h1
              · cases h1
          · cases h1
        · cases h
      · cases h

theorem regD_ok (hE : EnvOK E) (hpc : ∀ p ∈ E.pc, PFok ν p) (hI : IHOK E N ν w0 I) {id : Nat} {ops : Array Oper} (h : (regD E sz ops.toList).run I rnd s = some (ex, s2)) :
    XOK E N ν w0 fn sz [.code (.region id ops true)] rnd s ex s2 := by
  unfold regD at h
  split at h
  · rename_i ms hms
    split at h
    · rename_i p hpl
      obtain ⟨hlen0, M⟩ := prepD_ok ops.toList ops.toList 0 [] ms hms rfl (Nat.zero_le _) rfl (fun j d hj => by simp at hj)
      have hlen : ms.length = ops.size := hlen0.trans (Array.length_toList ..)
      intro ρ kd rr tmps ds k cs w hr hf
      have hback : ∀ i j, depO ops i j → j < i := by
        rintro i j ⟨o, ho, e, he, hb, rfl⟩
        have hil : i < ms.length := by rw [hlen]; exact (Array.getElem?_eq_some_iff.1 ho).1
        have hm := List.getElem?_eq_getElem hil
        have := getOps M hm
        rw [ho] at this; cases this
        exact (M i _ hm).lt _ (((M i _ hm).pm _).2 ⟨e, he, hb, rfl⟩)
      obtain ⟨hgood, hmem⟩ := lin_ok hback (w.tape w.drawn (.order fn id))
      have hst := st_region_draw (P := E.P) (fn := fn) (kd := kd) (rnd := rr) (tmps := tmps) (ds := ds) (k := k) (cs := cs) (w := w) (id := id) (ops := ops)
      have hsch : Region.schedule (E.P.follows .mixedOrders) ops (w.tape w.drawn (.order fn id)) = Region.linearise .any ops (w.tape w.drawn (.order fn id)) := by
        unfold Region.schedule; rw [hE.mixed]; rfl
      rw [hsch] at hst
      have hh : HR N ν w0 ρ s.hp s.nx { w with drawn := w.drawn + 1 } := hf.hr.drew rfl rfl rfl rfl
      have hnop : ∀ i d, ¬ Pend ms 0 (Region.linearise .any ops (w.tape w.drawn (.order fn id))) i d := fun i d hp => by have := hp.2.1; simp at this
      have D : DInv E N ν w0 sz ops ms 0 0 s.nx s ρ kd tmps ds cs { w with drawn := w.drawn + 1 } (Region.linearise .any ops (w.tape w.drawn (.order fn id))) :=
        ⟨hgood, fun i hi => by rw [hlen]; exact (hmem i).1 hi, fun i d hi hn => absurd ((hmem i).2 (by rw [← hlen]; exact (List.getElem?_eq_some_iff.1 hi).1)) hn,
          fun i hi hn => absurd ((hmem i).2 (by rw [← hlen]; exact hi)) hn, fun i d hp => absurd hp (hnop i d), fun i _ => by simp, fun t a ht _ => hf.tr t a ht, hh, hf.sz, fun i d t hp => absurd hp (hnop i d),
          hf.df, hf.cm, Nat.le_refl _, fun i id hp => by obtain ⟨d, t, v, hp, _⟩ := hp; exact absurd hp (hnop i d), fun i j id hp _ => by obtain ⟨d, t, v, hp, _⟩ := hp; exact absurd hp (hnop i d)⟩
      obtain ⟨ρ', w', tmps', ds', cs', o1, n1, f1, u1, z1, e1⟩ := runPlan_ok (fn := fn) (k := k) hE hpc hI hlen M _ _ _ p hpl s ex s2 h ρ tmps ds cs _ _ hr D
      exact ⟨ρ', w', tmps', ds', cs', ⟨o1, n1⟩, f1, u1, z1, .of_steps (.one hst) e1⟩
    · cases h
  · cases h

end
end Pk
