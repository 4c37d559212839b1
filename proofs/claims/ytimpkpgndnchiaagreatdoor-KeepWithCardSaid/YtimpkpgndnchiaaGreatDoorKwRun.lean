/- KeepWith holds: called with any quota and any counts it returns true, and its arguments read as before. No condition. (The chapter's rows and the eleven ways of the rest are run, abstractly, by the kernel; the run is proved right once, for every program, in the texts before.) -/
import Derived.Test.YtimpkpgndnchiaaGreatDoorKT7
import Derived.Test.YtimpkpgndnchiaaGreatDoorTie
import Derived.Test.YtimpkpgndnchiaaGreatDoorCards
import Derived.Test.YtimpkpgndnchiaaGreatDoorPkG
import Derived.ProofKit
import Derived.OpenShut
import Derived.LaidMore
import Derived.Lay
import Derived.SevenTiedAt
import Derived.Stop.Joined
set_option maxRecDepth 100000
namespace Go.Proofs.YtimpkpgndnchiaaGreatDoor
open Go.ChangeShapes Go.WideShapes Go.ChangeAt Go.RowKit Pk
noncomputable section
def envP (pc : List PF) : Env := { P := Go.Proofs.Tryz.prog, TT := TT0, FT := FT0, pc := pc, ctr := ctrT T7 }
theorem envP_ok (pc : List PF) : EnvOK (envP pc) := envOK_of rfl rfl noNum mixedOk
def kwArgs : List AV := [.sym .i64 0, .agg [.sym .u64 1, .sym .u64 2, .sym .u64 3, .sym .u64 4, .sym .u64 5, .sym .u64 6, .sym .u64 7, .sym .u64 8]]
def kwRun (pc : List PF) : Bool := okTrue (bodyA (envP pc) (ev (envP pc) (some 105) 3000) 3 kwArgs .no .nil 0)
def pcNeg : List PF := [⟨.lss, .sym .i64 0, .int .i64 (.ofNat 0), true⟩]
theorem runNeg : kwRun pcNeg = true := by kernel_rfl
def pcBig : List PF := [⟨.lss, .sym .i64 0, .int .i64 (.ofNat 0), false⟩, ⟨.gtr, .sym .i64 0, .int .i64 (.ofNat 1048576), true⟩]
theorem runBig : kwRun pcBig = true := by kernel_rfl
def pcOk : List PF := [⟨.lss, .sym .i64 0, .int .i64 (.ofNat 0), false⟩, ⟨.gtr, .sym .i64 0, .int .i64 (.ofNat 1048576), false⟩, ⟨.leq, .sym .u64 1, (.int .u64 (.ofNat 4611686018427387903)), true⟩, ⟨.gtr, .sym .u64 1, (.int .u64 (.ofNat 4611686018427387903)), false⟩, ⟨.leq, .sym .u64 2, (.int .u64 (.ofNat 4611686018427387903)), true⟩, ⟨.gtr, .sym .u64 2, (.int .u64 (.ofNat 4611686018427387903)), false⟩, ⟨.leq, .sym .u64 3, (.int .u64 (.ofNat 4611686018427387903)), true⟩, ⟨.gtr, .sym .u64 3, (.int .u64 (.ofNat 4611686018427387903)), false⟩, ⟨.leq, .sym .u64 4, (.int .u64 (.ofNat 4611686018427387903)), true⟩, ⟨.gtr, .sym .u64 4, (.int .u64 (.ofNat 4611686018427387903)), false⟩, ⟨.leq, .sym .u64 5, (.int .u64 (.ofNat 4611686018427387903)), true⟩, ⟨.gtr, .sym .u64 5, (.int .u64 (.ofNat 4611686018427387903)), false⟩, ⟨.leq, .sym .u64 6, (.int .u64 (.ofNat 4611686018427387903)), true⟩, ⟨.gtr, .sym .u64 6, (.int .u64 (.ofNat 4611686018427387903)), false⟩, ⟨.leq, .sym .u64 7, (.int .u64 (.ofNat 4611686018427387903)), true⟩, ⟨.gtr, .sym .u64 7, (.int .u64 (.ofNat 4611686018427387903)), false⟩, ⟨.leq, .sym .u64 8, (.int .u64 (.ofNat 4611686018427387903)), true⟩, ⟨.gtr, .sym .u64 8, (.int .u64 (.ofNat 4611686018427387903)), false⟩]
theorem runOk : kwRun pcOk = true := by kernel_rfl
def pcB0 : List PF := [⟨.lss, .sym .i64 0, .int .i64 (.ofNat 0), false⟩, ⟨.gtr, .sym .i64 0, .int .i64 (.ofNat 1048576), false⟩, ⟨.leq, .sym .u64 1, (.int .u64 (.ofNat 4611686018427387903)), false⟩, ⟨.gtr, .sym .u64 1, (.int .u64 (.ofNat 4611686018427387903)), true⟩]
theorem runB0 : kwRun pcB0 = true := by kernel_rfl
def pcB1 : List PF := [⟨.lss, .sym .i64 0, .int .i64 (.ofNat 0), false⟩, ⟨.gtr, .sym .i64 0, .int .i64 (.ofNat 1048576), false⟩, ⟨.leq, .sym .u64 1, (.int .u64 (.ofNat 4611686018427387903)), true⟩, ⟨.gtr, .sym .u64 1, (.int .u64 (.ofNat 4611686018427387903)), false⟩, ⟨.leq, .sym .u64 2, (.int .u64 (.ofNat 4611686018427387903)), false⟩, ⟨.gtr, .sym .u64 2, (.int .u64 (.ofNat 4611686018427387903)), true⟩]
theorem runB1 : kwRun pcB1 = true := by kernel_rfl
def pcB2 : List PF := [⟨.lss, .sym .i64 0, .int .i64 (.ofNat 0), false⟩, ⟨.gtr, .sym .i64 0, .int .i64 (.ofNat 1048576), false⟩, ⟨.leq, .sym .u64 1, (.int .u64 (.ofNat 4611686018427387903)), true⟩, ⟨.gtr, .sym .u64 1, (.int .u64 (.ofNat 4611686018427387903)), false⟩, ⟨.leq, .sym .u64 2, (.int .u64 (.ofNat 4611686018427387903)), true⟩, ⟨.gtr, .sym .u64 2, (.int .u64 (.ofNat 4611686018427387903)), false⟩, ⟨.leq, .sym .u64 3, (.int .u64 (.ofNat 4611686018427387903)), false⟩, ⟨.gtr, .sym .u64 3, (.int .u64 (.ofNat 4611686018427387903)), true⟩]
theorem runB2 : kwRun pcB2 = true := by kernel_rfl
def pcB3 : List PF := [⟨.lss, .sym .i64 0, .int .i64 (.ofNat 0), false⟩, ⟨.gtr, .sym .i64 0, .int .i64 (.ofNat 1048576), false⟩, ⟨.leq, .sym .u64 1, (.int .u64 (.ofNat 4611686018427387903)), true⟩, ⟨.gtr, .sym .u64 1, (.int .u64 (.ofNat 4611686018427387903)), false⟩, ⟨.leq, .sym .u64 2, (.int .u64 (.ofNat 4611686018427387903)), true⟩, ⟨.gtr, .sym .u64 2, (.int .u64 (.ofNat 4611686018427387903)), false⟩, ⟨.leq, .sym .u64 3, (.int .u64 (.ofNat 4611686018427387903)), true⟩, ⟨.gtr, .sym .u64 3, (.int .u64 (.ofNat 4611686018427387903)), false⟩, ⟨.leq, .sym .u64 4, (.int .u64 (.ofNat 4611686018427387903)), false⟩, ⟨.gtr, .sym .u64 4, (.int .u64 (.ofNat 4611686018427387903)), true⟩]
theorem runB3 : kwRun pcB3 = true := by kernel_rfl
def pcB4 : List PF := [⟨.lss, .sym .i64 0, .int .i64 (.ofNat 0), false⟩, ⟨.gtr, .sym .i64 0, .int .i64 (.ofNat 1048576), false⟩, ⟨.leq, .sym .u64 1, (.int .u64 (.ofNat 4611686018427387903)), true⟩, ⟨.gtr, .sym .u64 1, (.int .u64 (.ofNat 4611686018427387903)), false⟩, ⟨.leq, .sym .u64 2, (.int .u64 (.ofNat 4611686018427387903)), true⟩, ⟨.gtr, .sym .u64 2, (.int .u64 (.ofNat 4611686018427387903)), false⟩, ⟨.leq, .sym .u64 3, (.int .u64 (.ofNat 4611686018427387903)), true⟩, ⟨.gtr, .sym .u64 3, (.int .u64 (.ofNat 4611686018427387903)), false⟩, ⟨.leq, .sym .u64 4, (.int .u64 (.ofNat 4611686018427387903)), true⟩, ⟨.gtr, .sym .u64 4, (.int .u64 (.ofNat 4611686018427387903)), false⟩, ⟨.leq, .sym .u64 5, (.int .u64 (.ofNat 4611686018427387903)), false⟩, ⟨.gtr, .sym .u64 5, (.int .u64 (.ofNat 4611686018427387903)), true⟩]
theorem runB4 : kwRun pcB4 = true := by kernel_rfl
def pcB5 : List PF := [⟨.lss, .sym .i64 0, .int .i64 (.ofNat 0), false⟩, ⟨.gtr, .sym .i64 0, .int .i64 (.ofNat 1048576), false⟩, ⟨.leq, .sym .u64 1, (.int .u64 (.ofNat 4611686018427387903)), true⟩, ⟨.gtr, .sym .u64 1, (.int .u64 (.ofNat 4611686018427387903)), false⟩, ⟨.leq, .sym .u64 2, (.int .u64 (.ofNat 4611686018427387903)), true⟩, ⟨.gtr, .sym .u64 2, (.int .u64 (.ofNat 4611686018427387903)), false⟩, ⟨.leq, .sym .u64 3, (.int .u64 (.ofNat 4611686018427387903)), true⟩, ⟨.gtr, .sym .u64 3, (.int .u64 (.ofNat 4611686018427387903)), false⟩, ⟨.leq, .sym .u64 4, (.int .u64 (.ofNat 4611686018427387903)), true⟩, ⟨.gtr, .sym .u64 4, (.int .u64 (.ofNat 4611686018427387903)), false⟩, ⟨.leq, .sym .u64 5, (.int .u64 (.ofNat 4611686018427387903)), true⟩, ⟨.gtr, .sym .u64 5, (.int .u64 (.ofNat 4611686018427387903)), false⟩, ⟨.leq, .sym .u64 6, (.int .u64 (.ofNat 4611686018427387903)), false⟩, ⟨.gtr, .sym .u64 6, (.int .u64 (.ofNat 4611686018427387903)), true⟩]
theorem runB5 : kwRun pcB5 = true := by kernel_rfl
def pcB6 : List PF := [⟨.lss, .sym .i64 0, .int .i64 (.ofNat 0), false⟩, ⟨.gtr, .sym .i64 0, .int .i64 (.ofNat 1048576), false⟩, ⟨.leq, .sym .u64 1, (.int .u64 (.ofNat 4611686018427387903)), true⟩, ⟨.gtr, .sym .u64 1, (.int .u64 (.ofNat 4611686018427387903)), false⟩, ⟨.leq, .sym .u64 2, (.int .u64 (.ofNat 4611686018427387903)), true⟩, ⟨.gtr, .sym .u64 2, (.int .u64 (.ofNat 4611686018427387903)), false⟩, ⟨.leq, .sym .u64 3, (.int .u64 (.ofNat 4611686018427387903)), true⟩, ⟨.gtr, .sym .u64 3, (.int .u64 (.ofNat 4611686018427387903)), false⟩, ⟨.leq, .sym .u64 4, (.int .u64 (.ofNat 4611686018427387903)), true⟩, ⟨.gtr, .sym .u64 4, (.int .u64 (.ofNat 4611686018427387903)), false⟩, ⟨.leq, .sym .u64 5, (.int .u64 (.ofNat 4611686018427387903)), true⟩, ⟨.gtr, .sym .u64 5, (.int .u64 (.ofNat 4611686018427387903)), false⟩, ⟨.leq, .sym .u64 6, (.int .u64 (.ofNat 4611686018427387903)), true⟩, ⟨.gtr, .sym .u64 6, (.int .u64 (.ofNat 4611686018427387903)), false⟩, ⟨.leq, .sym .u64 7, (.int .u64 (.ofNat 4611686018427387903)), false⟩, ⟨.gtr, .sym .u64 7, (.int .u64 (.ofNat 4611686018427387903)), true⟩]
theorem runB6 : kwRun pcB6 = true := by kernel_rfl
def pcB7 : List PF := [⟨.lss, .sym .i64 0, .int .i64 (.ofNat 0), false⟩, ⟨.gtr, .sym .i64 0, .int .i64 (.ofNat 1048576), false⟩, ⟨.leq, .sym .u64 1, (.int .u64 (.ofNat 4611686018427387903)), true⟩, ⟨.gtr, .sym .u64 1, (.int .u64 (.ofNat 4611686018427387903)), false⟩, ⟨.leq, .sym .u64 2, (.int .u64 (.ofNat 4611686018427387903)), true⟩, ⟨.gtr, .sym .u64 2, (.int .u64 (.ofNat 4611686018427387903)), false⟩, ⟨.leq, .sym .u64 3, (.int .u64 (.ofNat 4611686018427387903)), true⟩, ⟨.gtr, .sym .u64 3, (.int .u64 (.ofNat 4611686018427387903)), false⟩, ⟨.leq, .sym .u64 4, (.int .u64 (.ofNat 4611686018427387903)), true⟩, ⟨.gtr, .sym .u64 4, (.int .u64 (.ofNat 4611686018427387903)), false⟩, ⟨.leq, .sym .u64 5, (.int .u64 (.ofNat 4611686018427387903)), true⟩, ⟨.gtr, .sym .u64 5, (.int .u64 (.ofNat 4611686018427387903)), false⟩, ⟨.leq, .sym .u64 6, (.int .u64 (.ofNat 4611686018427387903)), true⟩, ⟨.gtr, .sym .u64 6, (.int .u64 (.ofNat 4611686018427387903)), false⟩, ⟨.leq, .sym .u64 7, (.int .u64 (.ofNat 4611686018427387903)), true⟩, ⟨.gtr, .sym .u64 7, (.int .u64 (.ofNat 4611686018427387903)), false⟩, ⟨.leq, .sym .u64 8, (.int .u64 (.ofNat 4611686018427387903)), false⟩, ⟨.gtr, .sym .u64 8, (.int .u64 (.ofNat 4611686018427387903)), true⟩]
theorem runB7 : kwRun pcB7 = true := by kernel_rfl
end
section
variable {ν : Nat → Int} {k : IntKind} {i : Nat} {C : Int}
theorem pfLe (h : ν i ≤ C) : PFok ν ⟨.leq, .sym k i, .int k C, true⟩ := ⟨k, _, C, rfl, rfl, by simp [cmpI, h]⟩
theorem pfGt' (h : ν i ≤ C) : PFok ν ⟨.gtr, .sym k i, .int k C, false⟩ := ⟨k, _, C, rfl, rfl, by simp [cmpI]; omega⟩
theorem pfLe' (h : ¬ ν i ≤ C) : PFok ν ⟨.leq, .sym k i, .int k C, false⟩ := ⟨k, _, C, rfl, rfl, by simp [cmpI]; omega⟩
theorem pfGt (h : ¬ ν i ≤ C) : PFok ν ⟨.gtr, .sym k i, .int k C, true⟩ := ⟨k, _, C, rfl, rfl, by simp [cmpI]; omega⟩
theorem pfLt (h : ν i < C) : PFok ν ⟨.lss, .sym k i, .int k C, true⟩ := ⟨k, _, C, rfl, rfl, by simp [cmpI, h]⟩
theorem pfLt' (h : ¬ ν i < C) : PFok ν ⟨.lss, .sym k i, .int k C, false⟩ := ⟨k, _, C, rfl, rfl, by simp [cmpI]; omega⟩
end

/-- The symbols' numbers. -/
def nu (q : Int) (xs : List Int) : Nat → Int
  | 0 => q
  | i + 1 => xs.getD i 0

theorem noPf {ν : Nat → Int} : ∀ p ∈ ([] : List PF), PFok ν p := fun _ h => by cases h
theorem andPf {ν : Nat → Int} {p : PF} {l : List PF} (h : PFok ν p) (hl : ∀ p ∈ l, PFok ν p) : ∀ x ∈ p :: l, PFok ν x := List.forall_mem_cons.2 ⟨h, hl⟩

theorem wfBounds {k : IntKind} {n : Int} (h : (Lit.int k n).wf = true) : k.min ≤ n ∧ n ≤ k.max := by
  simpa [Lit.wf] using h

theorem kwCalls (q : Int) (xs : List Int) (hq : (Lit.int .i64 q).wf = true) (hlen : xs.length = 8) (hx : ∀ x ∈ xs, (Lit.int .u64 x).wf = true) (W : World) :
    Calls Go.Proofs.Tryz.prog 3 #[.int .i64 q, .agg (xs.map fun x => Value.int .u64 x).toArray] W fun e W' => e = .returned (.bool true) ∧ Below W.heap.size W W' := by
  have args : VRs (nu q xs) (fun _ => none) kwArgs (#[.int .i64 q, .agg (xs.map fun x => Value.int .u64 x).toArray] : Array Value).toList := by
    match xs, hlen, hx with
    | [x0, x1, x2, x3, x4, x5, x6, x7], _, hx =>
      have hb : ∀ x ∈ [x0, x1, x2, x3, x4, x5, x6, x7], IntKind.u64.min ≤ x ∧ x ≤ IntKind.u64.max := fun x h => wfBounds (hx x h)
      simp only [List.forall_mem_cons] at hb
      obtain ⟨b0, b1, b2, b3, b4, b5, b6, b7, _⟩ := hb
      refine VRs_cons.2 ⟨_, _, VR_sym.2 ⟨rfl, wfBounds hq⟩, VRs.one (VR_agg.2 ⟨_, ?_, ?_, rfl⟩), rfl⟩
      · exact VRs_cons.2 ⟨_, _, VR_sym.2 ⟨rfl, b0⟩, VRs_cons.2 ⟨_, _, VR_sym.2 ⟨rfl, b1⟩, VRs_cons.2 ⟨_, _, VR_sym.2 ⟨rfl, b2⟩, VRs_cons.2 ⟨_, _, VR_sym.2 ⟨rfl, b3⟩,
          VRs_cons.2 ⟨_, _, VR_sym.2 ⟨rfl, b4⟩, VRs_cons.2 ⟨_, _, VR_sym.2 ⟨rfl, b5⟩, VRs_cons.2 ⟨_, _, VR_sym.2 ⟨rfl, b6⟩, VRs_cons.2 ⟨_, _, VR_sym.2 ⟨rfl, b7⟩, VRs_nil.2 rfl, rfl⟩, rfl⟩, rfl⟩, rfl⟩, rfl⟩, rfl⟩, rfl⟩, rfl⟩
      · intro v hv
        obtain ⟨x, _, rfl⟩ := List.mem_map.1 hv
        rfl
  have go : ∀ pc : List PF, kwRun pc = true → (∀ p ∈ pc, PFok (nu q xs) p) → Calls Go.Proofs.Tryz.prog 3 #[.int .i64 q, .agg (xs.map fun x => Value.int .u64 x).toArray] W fun e W' => e = .returned (.bool true) ∧ Below W.heap.size W W' :=
    fun pc hr hp => law_calls (E := envP pc) (envP_ok pc) hp (given_of (T := T7) cloneOk rfl T7_ok) hr args
  by_cases hn : q < 0
  · exact go pcNeg runNeg (andPf (pfLt (ν := nu q xs) (i := 0) hn) noPf)
  have n1 : PFok (nu q xs) ⟨.lss, .sym .i64 0, .int .i64 (.ofNat 0), false⟩ := pfLt' (ν := nu q xs) (i := 0) hn
  by_cases hb : q ≤ 1048576
  case neg => exact go pcBig runBig (andPf n1 (andPf (pfGt (ν := nu q xs) (i := 0) hb) noPf))
  have n2 : PFok (nu q xs) ⟨.gtr, .sym .i64 0, .int .i64 (.ofNat 1048576), false⟩ := pfGt' (ν := nu q xs) (i := 0) hb
  by_cases h0 : nu q xs 1 ≤ 4611686018427387903
  case neg => exact go pcB0 runB0 (andPf n1 (andPf n2 (andPf (pfLe' h0) (andPf (pfGt h0) noPf))))
  by_cases h1 : nu q xs 2 ≤ 4611686018427387903
  case neg => exact go pcB1 runB1 (andPf n1 (andPf n2 (andPf (pfLe h0) (andPf (pfGt' h0) (andPf (pfLe' h1) (andPf (pfGt h1) noPf))))))
  by_cases h2 : nu q xs 3 ≤ 4611686018427387903
  case neg => exact go pcB2 runB2 (andPf n1 (andPf n2 (andPf (pfLe h0) (andPf (pfGt' h0) (andPf (pfLe h1) (andPf (pfGt' h1) (andPf (pfLe' h2) (andPf (pfGt h2) noPf))))))))
  by_cases h3 : nu q xs 4 ≤ 4611686018427387903
  case neg => exact go pcB3 runB3 (andPf n1 (andPf n2 (andPf (pfLe h0) (andPf (pfGt' h0) (andPf (pfLe h1) (andPf (pfGt' h1) (andPf (pfLe h2) (andPf (pfGt' h2) (andPf (pfLe' h3) (andPf (pfGt h3) noPf))))))))))
  by_cases h4 : nu q xs 5 ≤ 4611686018427387903
  case neg => exact go pcB4 runB4 (andPf n1 (andPf n2 (andPf (pfLe h0) (andPf (pfGt' h0) (andPf (pfLe h1) (andPf (pfGt' h1) (andPf (pfLe h2) (andPf (pfGt' h2) (andPf (pfLe h3) (andPf (pfGt' h3) (andPf (pfLe' h4) (andPf (pfGt h4) noPf))))))))))))
  by_cases h5 : nu q xs 6 ≤ 4611686018427387903
  case neg => exact go pcB5 runB5 (andPf n1 (andPf n2 (andPf (pfLe h0) (andPf (pfGt' h0) (andPf (pfLe h1) (andPf (pfGt' h1) (andPf (pfLe h2) (andPf (pfGt' h2) (andPf (pfLe h3) (andPf (pfGt' h3) (andPf (pfLe h4) (andPf (pfGt' h4) (andPf (pfLe' h5) (andPf (pfGt h5) noPf))))))))))))))
  by_cases h6 : nu q xs 7 ≤ 4611686018427387903
  case neg => exact go pcB6 runB6 (andPf n1 (andPf n2 (andPf (pfLe h0) (andPf (pfGt' h0) (andPf (pfLe h1) (andPf (pfGt' h1) (andPf (pfLe h2) (andPf (pfGt' h2) (andPf (pfLe h3) (andPf (pfGt' h3) (andPf (pfLe h4) (andPf (pfGt' h4) (andPf (pfLe h5) (andPf (pfGt' h5) (andPf (pfLe' h6) (andPf (pfGt h6) noPf))))))))))))))))
  by_cases h7 : nu q xs 8 ≤ 4611686018427387903
  case neg => exact go pcB7 runB7 (andPf n1 (andPf n2 (andPf (pfLe h0) (andPf (pfGt' h0) (andPf (pfLe h1) (andPf (pfGt' h1) (andPf (pfLe h2) (andPf (pfGt' h2) (andPf (pfLe h3) (andPf (pfGt' h3) (andPf (pfLe h4) (andPf (pfGt' h4) (andPf (pfLe h5) (andPf (pfGt' h5) (andPf (pfLe h6) (andPf (pfGt' h6) (andPf (pfLe' h7) (andPf (pfGt h7) noPf))))))))))))))))))
  exact go pcOk runOk (andPf n1 (andPf n2 (andPf (pfLe h0) (andPf (pfGt' h0) (andPf (pfLe h1) (andPf (pfGt' h1) (andPf (pfLe h2) (andPf (pfGt' h2) (andPf (pfLe h3) (andPf (pfGt' h3) (andPf (pfLe h4) (andPf (pfGt' h4) (andPf (pfLe h5) (andPf (pfGt' h5) (andPf (pfLe h6) (andPf (pfGt' h6) (andPf (pfLe h7) (andPf (pfGt' h7) (noPf)))))))))))))))))))

theorem own : ownKnob Tryz.prog.godebug = none := by kernel_rfl
theorem laidOut : laidOutB Tryz.prog = true := by kernel_rfl
theorem readable : (Tryz.f3.params.toList.all fun t => Tryz.prog.readableRec t && decide (t < Tryz.prog.types.size)) = true := by kernel_rfl
theorem cells22 : Tryz.prog.cellsOf 22 = 1 := by kernel_rfl
theorem cells23 : Tryz.prog.cellsOf 23 = 8 := by kernel_rfl

theorem lifted (os : Os) (started : os.Started) (H : Type) (enc : TypeId × Value → H) :
    ReturnsInHanded {} Tryz.checked os 3 .any (fun w args => (Rows.keepWithSpec.pre enc Tryz.prog Tryz.f3 Rows.keepWithRow.domain false w args ∧ laidMetH Tryz.prog Rows.keepWithRow.laid w) ∧ sizedMet enc Tryz.prog Tryz.f3 (OpenSpec.ofChange Rows.keepWithSpec) false w args)
      (Rows.keepWithSpec.post enc Tryz.prog Tryz.f3 false true false false) := by
  refine returnsInHanded_of_change_and (C := Tryz.checked) (X := fun w _ => laidMetH Tryz.prog Rows.keepWithRow.laid w) (fun _ _ _ hh h => h.of_heap hh) own started (by kernel_rfl) Tryz.func3
    (ChangeSpec.witness_shaped (enc := enc) (C := Tryz.checked) (os := os) (X := fun w _ => laidMetH Tryz.prog Rows.keepWithRow.laid w) false (World.laidAll Tryz.prog os Rows.keepWithRow.laid) #[.int .i64 0, .agg #[.int .u64 0, .int .u64 0, .int .u64 0, .int .u64 0, .int .u64 0, .int .u64 0, .int .u64 0, .int .u64 0]] 8 (World.laidAll_os _ _ _)
      (World.shaped_of_ZipB (by kernel_rfl) (by kernel_rfl)) (by kernel_rfl) (by kernel_rfl) (by kernel_rfl)
      (by rw [MakeChecks.laidMetH_plain _ _ _ (by kernel_rfl)]; exact laidMet_laidAll _ (by kernel_rfl) (by kernel_rfl))) ?_
  intro W base args ds gs before hval0 hW _ _ _ _
  have hval : ∀ (j : Nat) t v, Tryz.f3.params[j]? = some t → args[j]? = some v → Value.okWide Tryz.prog W .any base t v := hval0
  have hW' := hW
  obtain ⟨p, q, hA0, hV, rfl, _, _⟩ := hW
  have hA : DataW.TrodAll enc Tryz.prog W 0 (fun _ => true) true Tryz.f3.params.toList args.toList ds p := hA0
  rw [Tryz.params3] at hA hval
  obtain ⟨v0, v1, d0, d1, p0, p1, rfl, rfl, rfl, h0, h1⟩ := trodAll_two hA
  obtain ⟨rfl, rfl⟩ := trodVars_none hV
  obtain ⟨a, rfl, rfl, rfl, wa⟩ := open_int Tryz.underlying3 (hval 0 3 v0 rfl rfl) h0
  obtain ⟨xs, hlen, rfl, hx⟩ := open_nums Tryz.underlying23 Tryz.underlying22 cells22 cells23 (hval 1 23 v1 rfl rfl) h1
  refine (kwCalls a xs wa hlen hx W).mono fun e W' ⟨he, hB⟩ => ?_
  subst he
  exact ⟨_, rfl, law_post laidOut readable rfl hW' rfl rfl Tryz.underlying4 hB⟩

end Go.Proofs.YtimpkpgndnchiaaGreatDoor
