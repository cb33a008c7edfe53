/-
  What digest.state.next yields is the state behind 64 bytes, reckoned by the digest's own words: for every state, every 64 bytes, every memory. No condition.
-/
import Derived.Test.YtlfkmklgbigfaaaGreatDoorAmF
import Derived.Test.YtlfkmklgbigfaaaGreatDoorProg
import Derived.KernelRfl
noncomputable section
namespace Go.Proofs.YtlfkmklgbigfaaaGreatDoor.sha
open Go Go.Am
set_option maxRecDepth 100000
def C0 : Cfg := { p := AP.of Tryz.prog, gl := 0, orc := .e }
def CS : Cfg := { p := AP.of Tryz.prog, gl := 0, orc := .e, pur := purT [(179, @downP sF)] }
def zer : Nat → List Value
  | 0 => []
  | n + 1 => .int .u32 (.ofNat 0) :: zer n
def frN (x : W8) : AFrame := ⟨151, 111, T.ofList [.agg ⟨lstW x⟩, .slice (some ⟨0, 0, none⟩) 64 64], [.code (cAt Tryz.f151 [])], [], .run, .normal, none⟩
def start (e : TypeId) (x : W8) (b : Nat → Nat) : AState := ⟨frN x, [], oneRow (lst8 b 64 0) e⟩
theorem enters (x : W8) : @enterA sF CS 151 [.agg ⟨lstW x⟩, .slice (some ⟨0, 0, none⟩) 64 64] .normal = some (frN x) := by kernel_rfl
def S0 (e : TypeId) (x : W8) (b w : Nat → Nat) : AState := ⟨⟨177, 93, (.n (.n (.n .e (some (.pointer (some ⟨4, 0, none⟩))) .e) none .e) (some (.slice (some ⟨0, 0, none⟩) 64 64)) (.n .e (some (.pointer (some ⟨3, 0, none⟩))) (.n (.n .e (some (.int .i64 (.ofNat 1))) .e) none .e))),
  [.inLoop (cAt Tryz.f177 [1, 1, 0, 1, 0, 0]), .inBlock 0, .code (cAt Tryz.f177 [1, 1, 1])],
  [], .run, .normal, none⟩,
 [⟨151, 111, (.n (.n .e (some (.slice (some ⟨0, 0, none⟩) 64 64)) .e) (some (.agg ⟨lstW x⟩)) (.n (.n .e (some (.pointer (some ⟨2, 0, none⟩))) .e) (some (.pointer (some ⟨1, 0, none⟩))) (.n .e none (.n .e (some (.slice (some ⟨0, 0, none⟩) 64 64)) .e)))),
  [.reg (rAt Tryz.f151 [1, 0]) (dropL 1 (rAt Tryz.f151 [1, 0]).toList), .code (cAt Tryz.f151 [1, 1])],
  [], .run, .normal, none⟩],
 ⟨(.n (.n (.n .e (some (.cells (t64 (fun _ => .int .u32 (.ofNat 0))) 64 235 false false)) .e) (some (.cells (t8 (nthW x)) 8 207 false false)) .e) (some (.cells (T.ofList (lst8 b 64 0)) 64 e true true)) (.n (.n .e (some (.cells (t64 (fun j => .int .u32 (.ofNat (w j)))) 64 235 false false)) .e) (some (.cells (t8 (fun _ => .int .u32 (.ofNat 0))) 8 207 false false)) .e)), 5⟩⟩
def S3 (e : TypeId) (x : W8) (b w : Nat → Nat) : AState := ⟨⟨177, 93, (.n (.n (.n .e (some (.pointer (some ⟨4, 0, none⟩))) .e) none .e) (some (.slice (some ⟨0, 0, none⟩) 64 64)) (.n .e (some (.pointer (some ⟨3, 0, none⟩))) (.n (.n .e (some (.int .i64 (.ofNat 4))) .e) none .e))),
  [.inLoop (cAt Tryz.f177 [1, 1, 0, 1, 0, 0]), .inBlock 0, .code (cAt Tryz.f177 [1, 1, 1])],
  [], .run, .normal, none⟩,
 [⟨151, 111, (.n (.n .e (some (.slice (some ⟨0, 0, none⟩) 64 64)) .e) (some (.agg ⟨lstW x⟩)) (.n (.n .e (some (.pointer (some ⟨2, 0, none⟩))) .e) (some (.pointer (some ⟨1, 0, none⟩))) (.n .e none (.n .e (some (.slice (some ⟨0, 0, none⟩) 64 64)) .e)))),
  [.reg (rAt Tryz.f151 [1, 0]) (dropL 1 (rAt Tryz.f151 [1, 0]).toList), .code (cAt Tryz.f151 [1, 1])],
  [], .run, .normal, none⟩],
 ⟨(.n (.n (.n .e (some (.cells (t64 (fun _ => .int .u32 (.ofNat 0))) 64 235 false false)) .e) (some (.cells (t8 (nthW x)) 8 207 false false)) .e) (some (.cells (T.ofList (lst8 b 64 0)) 64 e true true)) (.n (.n .e (some (.cells (t64 (fun j => .int .u32 (.ofNat (w j)))) 64 235 false false)) .e) (some (.cells (t8 (fun _ => .int .u32 (.ofNat 0))) 8 207 false false)) .e)), 5⟩⟩
def S7 (e : TypeId) (x : W8) (b w : Nat → Nat) : AState := ⟨⟨177, 93, (.n (.n (.n .e (some (.pointer (some ⟨4, 0, none⟩))) .e) none .e) (some (.slice (some ⟨0, 0, none⟩) 64 64)) (.n .e (some (.pointer (some ⟨3, 0, none⟩))) (.n (.n .e (some (.int .i64 (.ofNat 8))) .e) none .e))),
  [.inLoop (cAt Tryz.f177 [1, 1, 0, 1, 0, 0]), .inBlock 0, .code (cAt Tryz.f177 [1, 1, 1])],
  [], .run, .normal, none⟩,
 [⟨151, 111, (.n (.n .e (some (.slice (some ⟨0, 0, none⟩) 64 64)) .e) (some (.agg ⟨lstW x⟩)) (.n (.n .e (some (.pointer (some ⟨2, 0, none⟩))) .e) (some (.pointer (some ⟨1, 0, none⟩))) (.n .e none (.n .e (some (.slice (some ⟨0, 0, none⟩) 64 64)) .e)))),
  [.reg (rAt Tryz.f151 [1, 0]) (dropL 1 (rAt Tryz.f151 [1, 0]).toList), .code (cAt Tryz.f151 [1, 1])],
  [], .run, .normal, none⟩],
 ⟨(.n (.n (.n .e (some (.cells (t64 (fun _ => .int .u32 (.ofNat 0))) 64 235 false false)) .e) (some (.cells (t8 (nthW x)) 8 207 false false)) .e) (some (.cells (T.ofList (lst8 b 64 0)) 64 e true true)) (.n (.n .e (some (.cells (t64 (fun j => .int .u32 (.ofNat (w j)))) 64 235 false false)) .e) (some (.cells (t8 (fun _ => .int .u32 (.ofNat 0))) 8 207 false false)) .e)), 5⟩⟩
def S11 (e : TypeId) (x : W8) (b w : Nat → Nat) : AState := ⟨⟨177, 93, (.n (.n (.n .e (some (.pointer (some ⟨4, 0, none⟩))) .e) none .e) (some (.slice (some ⟨0, 0, none⟩) 64 64)) (.n .e (some (.pointer (some ⟨3, 0, none⟩))) (.n (.n .e (some (.int .i64 (.ofNat 12))) .e) none .e))),
  [.inLoop (cAt Tryz.f177 [1, 1, 0, 1, 0, 0]), .inBlock 0, .code (cAt Tryz.f177 [1, 1, 1])],
  [], .run, .normal, none⟩,
 [⟨151, 111, (.n (.n .e (some (.slice (some ⟨0, 0, none⟩) 64 64)) .e) (some (.agg ⟨lstW x⟩)) (.n (.n .e (some (.pointer (some ⟨2, 0, none⟩))) .e) (some (.pointer (some ⟨1, 0, none⟩))) (.n .e none (.n .e (some (.slice (some ⟨0, 0, none⟩) 64 64)) .e)))),
  [.reg (rAt Tryz.f151 [1, 0]) (dropL 1 (rAt Tryz.f151 [1, 0]).toList), .code (cAt Tryz.f151 [1, 1])],
  [], .run, .normal, none⟩],
 ⟨(.n (.n (.n .e (some (.cells (t64 (fun _ => .int .u32 (.ofNat 0))) 64 235 false false)) .e) (some (.cells (t8 (nthW x)) 8 207 false false)) .e) (some (.cells (T.ofList (lst8 b 64 0)) 64 e true true)) (.n (.n .e (some (.cells (t64 (fun j => .int .u32 (.ofNat (w j)))) 64 235 false false)) .e) (some (.cells (t8 (fun _ => .int .u32 (.ofNat 0))) 8 207 false false)) .e)), 5⟩⟩
def S15 (e : TypeId) (x : W8) (b w : Nat → Nat) : AState := ⟨⟨177, 93, (.n (.n (.n .e (some (.pointer (some ⟨4, 0, none⟩))) .e) none .e) none (.n .e (some (.pointer (some ⟨3, 0, none⟩))) (.n (.n .e (some (.int .i64 (.ofNat 16))) .e) none .e))),
  [.inLoop (cAt Tryz.f177 [1, 1, 0, 1, 0, 0]), .inBlock 0, .code (cAt Tryz.f177 [1, 1, 1])],
  [], .run, .normal, none⟩,
 [⟨151, 111, (.n (.n .e (some (.slice (some ⟨0, 0, none⟩) 64 64)) .e) (some (.agg ⟨lstW x⟩)) (.n (.n .e (some (.pointer (some ⟨2, 0, none⟩))) .e) (some (.pointer (some ⟨1, 0, none⟩))) (.n .e none (.n .e (some (.slice (some ⟨0, 0, none⟩) 64 64)) .e)))),
  [.reg (rAt Tryz.f151 [1, 0]) (dropL 1 (rAt Tryz.f151 [1, 0]).toList), .code (cAt Tryz.f151 [1, 1])],
  [], .run, .normal, none⟩],
 ⟨(.n (.n (.n .e (some (.cells (t64 (fun _ => .int .u32 (.ofNat 0))) 64 235 false false)) .e) (some (.cells (t8 (nthW x)) 8 207 false false)) .e) (some (.cells (T.ofList (lst8 b 64 0)) 64 e true true)) (.n (.n .e (some (.cells (t64 (fun j => .int .u32 (.ofNat (w j)))) 64 235 false false)) .e) (some (.cells (t8 (fun _ => .int .u32 (.ofNat 0))) 8 207 false false)) .e)), 5⟩⟩
def S16 (e : TypeId) (x : W8) (b w : Nat → Nat) : AState := ⟨⟨177, 93, (.n (.n (.n .e (some (.pointer (some ⟨4, 0, none⟩))) .e) none (.n .e (some (.int .i64 (.ofNat 17))) .e)) none (.n .e (some (.pointer (some ⟨3, 0, none⟩))) .e)),
  [.inLoop (cAt Tryz.f177 [1, 1, 1, 0, 1, 0, 0]), .inBlock 2, .code (cAt Tryz.f177 [1, 1, 1, 1])],
  [], .run, .normal, none⟩,
 [⟨151, 111, (.n (.n .e (some (.slice (some ⟨0, 0, none⟩) 64 64)) .e) (some (.agg ⟨lstW x⟩)) (.n (.n .e (some (.pointer (some ⟨2, 0, none⟩))) .e) (some (.pointer (some ⟨1, 0, none⟩))) (.n .e none (.n .e (some (.slice (some ⟨0, 0, none⟩) 64 64)) .e)))),
  [.reg (rAt Tryz.f151 [1, 0]) (dropL 1 (rAt Tryz.f151 [1, 0]).toList), .code (cAt Tryz.f151 [1, 1])],
  [], .run, .normal, none⟩],
 ⟨(.n (.n (.n .e (some (.cells (t64 (fun _ => .int .u32 (.ofNat 0))) 64 235 false false)) .e) (some (.cells (t8 (nthW x)) 8 207 false false)) .e) (some (.cells (T.ofList (lst8 b 64 0)) 64 e true true)) (.n (.n .e (some (.cells (t64 (fun j => .int .u32 (.ofNat (w j)))) 64 235 false false)) .e) (some (.cells (t8 (fun _ => .int .u32 (.ofNat 0))) 8 207 false false)) .e)), 5⟩⟩
def S17 (e : TypeId) (x : W8) (b w : Nat → Nat) : AState := ⟨⟨177, 93, (.n (.n (.n .e (some (.pointer (some ⟨4, 0, none⟩))) .e) none (.n .e (some (.int .i64 (.ofNat 18))) .e)) none (.n .e (some (.pointer (some ⟨3, 0, none⟩))) .e)),
  [.inLoop (cAt Tryz.f177 [1, 1, 1, 0, 1, 0, 0]), .inBlock 2, .code (cAt Tryz.f177 [1, 1, 1, 1])],
  [], .run, .normal, none⟩,
 [⟨151, 111, (.n (.n .e (some (.slice (some ⟨0, 0, none⟩) 64 64)) .e) (some (.agg ⟨lstW x⟩)) (.n (.n .e (some (.pointer (some ⟨2, 0, none⟩))) .e) (some (.pointer (some ⟨1, 0, none⟩))) (.n .e none (.n .e (some (.slice (some ⟨0, 0, none⟩) 64 64)) .e)))),
  [.reg (rAt Tryz.f151 [1, 0]) (dropL 1 (rAt Tryz.f151 [1, 0]).toList), .code (cAt Tryz.f151 [1, 1])],
  [], .run, .normal, none⟩],
 ⟨(.n (.n (.n .e (some (.cells (t64 (fun _ => .int .u32 (.ofNat 0))) 64 235 false false)) .e) (some (.cells (t8 (nthW x)) 8 207 false false)) .e) (some (.cells (T.ofList (lst8 b 64 0)) 64 e true true)) (.n (.n .e (some (.cells (t64 (fun j => .int .u32 (.ofNat (w j)))) 64 235 false false)) .e) (some (.cells (t8 (fun _ => .int .u32 (.ofNat 0))) 8 207 false false)) .e)), 5⟩⟩
def S18 (e : TypeId) (x : W8) (b w : Nat → Nat) : AState := ⟨⟨177, 93, (.n (.n (.n .e (some (.pointer (some ⟨4, 0, none⟩))) .e) none (.n .e (some (.int .i64 (.ofNat 19))) .e)) none (.n .e (some (.pointer (some ⟨3, 0, none⟩))) .e)),
  [.inLoop (cAt Tryz.f177 [1, 1, 1, 0, 1, 0, 0]), .inBlock 2, .code (cAt Tryz.f177 [1, 1, 1, 1])],
  [], .run, .normal, none⟩,
 [⟨151, 111, (.n (.n .e (some (.slice (some ⟨0, 0, none⟩) 64 64)) .e) (some (.agg ⟨lstW x⟩)) (.n (.n .e (some (.pointer (some ⟨2, 0, none⟩))) .e) (some (.pointer (some ⟨1, 0, none⟩))) (.n .e none (.n .e (some (.slice (some ⟨0, 0, none⟩) 64 64)) .e)))),
  [.reg (rAt Tryz.f151 [1, 0]) (dropL 1 (rAt Tryz.f151 [1, 0]).toList), .code (cAt Tryz.f151 [1, 1])],
  [], .run, .normal, none⟩],
 ⟨(.n (.n (.n .e (some (.cells (t64 (fun _ => .int .u32 (.ofNat 0))) 64 235 false false)) .e) (some (.cells (t8 (nthW x)) 8 207 false false)) .e) (some (.cells (T.ofList (lst8 b 64 0)) 64 e true true)) (.n (.n .e (some (.cells (t64 (fun j => .int .u32 (.ofNat (w j)))) 64 235 false false)) .e) (some (.cells (t8 (fun _ => .int .u32 (.ofNat 0))) 8 207 false false)) .e)), 5⟩⟩
def S19 (e : TypeId) (x : W8) (b w : Nat → Nat) : AState := ⟨⟨177, 93, (.n (.n (.n .e (some (.pointer (some ⟨4, 0, none⟩))) .e) none (.n .e (some (.int .i64 (.ofNat 20))) .e)) none (.n .e (some (.pointer (some ⟨3, 0, none⟩))) .e)),
  [.inLoop (cAt Tryz.f177 [1, 1, 1, 0, 1, 0, 0]), .inBlock 2, .code (cAt Tryz.f177 [1, 1, 1, 1])],
  [], .run, .normal, none⟩,
 [⟨151, 111, (.n (.n .e (some (.slice (some ⟨0, 0, none⟩) 64 64)) .e) (some (.agg ⟨lstW x⟩)) (.n (.n .e (some (.pointer (some ⟨2, 0, none⟩))) .e) (some (.pointer (some ⟨1, 0, none⟩))) (.n .e none (.n .e (some (.slice (some ⟨0, 0, none⟩) 64 64)) .e)))),
  [.reg (rAt Tryz.f151 [1, 0]) (dropL 1 (rAt Tryz.f151 [1, 0]).toList), .code (cAt Tryz.f151 [1, 1])],
  [], .run, .normal, none⟩],
 ⟨(.n (.n (.n .e (some (.cells (t64 (fun _ => .int .u32 (.ofNat 0))) 64 235 false false)) .e) (some (.cells (t8 (nthW x)) 8 207 false false)) .e) (some (.cells (T.ofList (lst8 b 64 0)) 64 e true true)) (.n (.n .e (some (.cells (t64 (fun j => .int .u32 (.ofNat (w j)))) 64 235 false false)) .e) (some (.cells (t8 (fun _ => .int .u32 (.ofNat 0))) 8 207 false false)) .e)), 5⟩⟩
def S20 (e : TypeId) (x : W8) (b w : Nat → Nat) : AState := ⟨⟨177, 93, (.n (.n (.n .e (some (.pointer (some ⟨4, 0, none⟩))) .e) none (.n .e (some (.int .i64 (.ofNat 21))) .e)) none (.n .e (some (.pointer (some ⟨3, 0, none⟩))) .e)),
  [.inLoop (cAt Tryz.f177 [1, 1, 1, 0, 1, 0, 0]), .inBlock 2, .code (cAt Tryz.f177 [1, 1, 1, 1])],
  [], .run, .normal, none⟩,
 [⟨151, 111, (.n (.n .e (some (.slice (some ⟨0, 0, none⟩) 64 64)) .e) (some (.agg ⟨lstW x⟩)) (.n (.n .e (some (.pointer (some ⟨2, 0, none⟩))) .e) (some (.pointer (some ⟨1, 0, none⟩))) (.n .e none (.n .e (some (.slice (some ⟨0, 0, none⟩) 64 64)) .e)))),
  [.reg (rAt Tryz.f151 [1, 0]) (dropL 1 (rAt Tryz.f151 [1, 0]).toList), .code (cAt Tryz.f151 [1, 1])],
  [], .run, .normal, none⟩],
 ⟨(.n (.n (.n .e (some (.cells (t64 (fun _ => .int .u32 (.ofNat 0))) 64 235 false false)) .e) (some (.cells (t8 (nthW x)) 8 207 false false)) .e) (some (.cells (T.ofList (lst8 b 64 0)) 64 e true true)) (.n (.n .e (some (.cells (t64 (fun j => .int .u32 (.ofNat (w j)))) 64 235 false false)) .e) (some (.cells (t8 (fun _ => .int .u32 (.ofNat 0))) 8 207 false false)) .e)), 5⟩⟩
def S21 (e : TypeId) (x : W8) (b w : Nat → Nat) : AState := ⟨⟨177, 93, (.n (.n (.n .e (some (.pointer (some ⟨4, 0, none⟩))) .e) none (.n .e (some (.int .i64 (.ofNat 22))) .e)) none (.n .e (some (.pointer (some ⟨3, 0, none⟩))) .e)),
  [.inLoop (cAt Tryz.f177 [1, 1, 1, 0, 1, 0, 0]), .inBlock 2, .code (cAt Tryz.f177 [1, 1, 1, 1])],
  [], .run, .normal, none⟩,
 [⟨151, 111, (.n (.n .e (some (.slice (some ⟨0, 0, none⟩) 64 64)) .e) (some (.agg ⟨lstW x⟩)) (.n (.n .e (some (.pointer (some ⟨2, 0, none⟩))) .e) (some (.pointer (some ⟨1, 0, none⟩))) (.n .e none (.n .e (some (.slice (some ⟨0, 0, none⟩) 64 64)) .e)))),
  [.reg (rAt Tryz.f151 [1, 0]) (dropL 1 (rAt Tryz.f151 [1, 0]).toList), .code (cAt Tryz.f151 [1, 1])],
  [], .run, .normal, none⟩],
 ⟨(.n (.n (.n .e (some (.cells (t64 (fun _ => .int .u32 (.ofNat 0))) 64 235 false false)) .e) (some (.cells (t8 (nthW x)) 8 207 false false)) .e) (some (.cells (T.ofList (lst8 b 64 0)) 64 e true true)) (.n (.n .e (some (.cells (t64 (fun j => .int .u32 (.ofNat (w j)))) 64 235 false false)) .e) (some (.cells (t8 (fun _ => .int .u32 (.ofNat 0))) 8 207 false false)) .e)), 5⟩⟩
def S22 (e : TypeId) (x : W8) (b w : Nat → Nat) : AState := ⟨⟨177, 93, (.n (.n (.n .e (some (.pointer (some ⟨4, 0, none⟩))) .e) none (.n .e (some (.int .i64 (.ofNat 23))) .e)) none (.n .e (some (.pointer (some ⟨3, 0, none⟩))) .e)),
  [.inLoop (cAt Tryz.f177 [1, 1, 1, 0, 1, 0, 0]), .inBlock 2, .code (cAt Tryz.f177 [1, 1, 1, 1])],
  [], .run, .normal, none⟩,
 [⟨151, 111, (.n (.n .e (some (.slice (some ⟨0, 0, none⟩) 64 64)) .e) (some (.agg ⟨lstW x⟩)) (.n (.n .e (some (.pointer (some ⟨2, 0, none⟩))) .e) (some (.pointer (some ⟨1, 0, none⟩))) (.n .e none (.n .e (some (.slice (some ⟨0, 0, none⟩) 64 64)) .e)))),
  [.reg (rAt Tryz.f151 [1, 0]) (dropL 1 (rAt Tryz.f151 [1, 0]).toList), .code (cAt Tryz.f151 [1, 1])],
  [], .run, .normal, none⟩],
 ⟨(.n (.n (.n .e (some (.cells (t64 (fun _ => .int .u32 (.ofNat 0))) 64 235 false false)) .e) (some (.cells (t8 (nthW x)) 8 207 false false)) .e) (some (.cells (T.ofList (lst8 b 64 0)) 64 e true true)) (.n (.n .e (some (.cells (t64 (fun j => .int .u32 (.ofNat (w j)))) 64 235 false false)) .e) (some (.cells (t8 (fun _ => .int .u32 (.ofNat 0))) 8 207 false false)) .e)), 5⟩⟩
def S23 (e : TypeId) (x : W8) (b w : Nat → Nat) : AState := ⟨⟨177, 93, (.n (.n (.n .e (some (.pointer (some ⟨4, 0, none⟩))) .e) none (.n .e (some (.int .i64 (.ofNat 24))) .e)) none (.n .e (some (.pointer (some ⟨3, 0, none⟩))) .e)),
  [.inLoop (cAt Tryz.f177 [1, 1, 1, 0, 1, 0, 0]), .inBlock 2, .code (cAt Tryz.f177 [1, 1, 1, 1])],
  [], .run, .normal, none⟩,
 [⟨151, 111, (.n (.n .e (some (.slice (some ⟨0, 0, none⟩) 64 64)) .e) (some (.agg ⟨lstW x⟩)) (.n (.n .e (some (.pointer (some ⟨2, 0, none⟩))) .e) (some (.pointer (some ⟨1, 0, none⟩))) (.n .e none (.n .e (some (.slice (some ⟨0, 0, none⟩) 64 64)) .e)))),
  [.reg (rAt Tryz.f151 [1, 0]) (dropL 1 (rAt Tryz.f151 [1, 0]).toList), .code (cAt Tryz.f151 [1, 1])],
  [], .run, .normal, none⟩],
 ⟨(.n (.n (.n .e (some (.cells (t64 (fun _ => .int .u32 (.ofNat 0))) 64 235 false false)) .e) (some (.cells (t8 (nthW x)) 8 207 false false)) .e) (some (.cells (T.ofList (lst8 b 64 0)) 64 e true true)) (.n (.n .e (some (.cells (t64 (fun j => .int .u32 (.ofNat (w j)))) 64 235 false false)) .e) (some (.cells (t8 (fun _ => .int .u32 (.ofNat 0))) 8 207 false false)) .e)), 5⟩⟩
def S24 (e : TypeId) (x : W8) (b w : Nat → Nat) : AState := ⟨⟨177, 93, (.n (.n (.n .e (some (.pointer (some ⟨4, 0, none⟩))) .e) none (.n .e (some (.int .i64 (.ofNat 25))) .e)) none (.n .e (some (.pointer (some ⟨3, 0, none⟩))) .e)),
  [.inLoop (cAt Tryz.f177 [1, 1, 1, 0, 1, 0, 0]), .inBlock 2, .code (cAt Tryz.f177 [1, 1, 1, 1])],
  [], .run, .normal, none⟩,
 [⟨151, 111, (.n (.n .e (some (.slice (some ⟨0, 0, none⟩) 64 64)) .e) (some (.agg ⟨lstW x⟩)) (.n (.n .e (some (.pointer (some ⟨2, 0, none⟩))) .e) (some (.pointer (some ⟨1, 0, none⟩))) (.n .e none (.n .e (some (.slice (some ⟨0, 0, none⟩) 64 64)) .e)))),
  [.reg (rAt Tryz.f151 [1, 0]) (dropL 1 (rAt Tryz.f151 [1, 0]).toList), .code (cAt Tryz.f151 [1, 1])],
  [], .run, .normal, none⟩],
 ⟨(.n (.n (.n .e (some (.cells (t64 (fun _ => .int .u32 (.ofNat 0))) 64 235 false false)) .e) (some (.cells (t8 (nthW x)) 8 207 false false)) .e) (some (.cells (T.ofList (lst8 b 64 0)) 64 e true true)) (.n (.n .e (some (.cells (t64 (fun j => .int .u32 (.ofNat (w j)))) 64 235 false false)) .e) (some (.cells (t8 (fun _ => .int .u32 (.ofNat 0))) 8 207 false false)) .e)), 5⟩⟩
def S25 (e : TypeId) (x : W8) (b w : Nat → Nat) : AState := ⟨⟨177, 93, (.n (.n (.n .e (some (.pointer (some ⟨4, 0, none⟩))) .e) none (.n .e (some (.int .i64 (.ofNat 26))) .e)) none (.n .e (some (.pointer (some ⟨3, 0, none⟩))) .e)),
  [.inLoop (cAt Tryz.f177 [1, 1, 1, 0, 1, 0, 0]), .inBlock 2, .code (cAt Tryz.f177 [1, 1, 1, 1])],
  [], .run, .normal, none⟩,
 [⟨151, 111, (.n (.n .e (some (.slice (some ⟨0, 0, none⟩) 64 64)) .e) (some (.agg ⟨lstW x⟩)) (.n (.n .e (some (.pointer (some ⟨2, 0, none⟩))) .e) (some (.pointer (some ⟨1, 0, none⟩))) (.n .e none (.n .e (some (.slice (some ⟨0, 0, none⟩) 64 64)) .e)))),
  [.reg (rAt Tryz.f151 [1, 0]) (dropL 1 (rAt Tryz.f151 [1, 0]).toList), .code (cAt Tryz.f151 [1, 1])],
  [], .run, .normal, none⟩],
 ⟨(.n (.n (.n .e (some (.cells (t64 (fun _ => .int .u32 (.ofNat 0))) 64 235 false false)) .e) (some (.cells (t8 (nthW x)) 8 207 false false)) .e) (some (.cells (T.ofList (lst8 b 64 0)) 64 e true true)) (.n (.n .e (some (.cells (t64 (fun j => .int .u32 (.ofNat (w j)))) 64 235 false false)) .e) (some (.cells (t8 (fun _ => .int .u32 (.ofNat 0))) 8 207 false false)) .e)), 5⟩⟩
def S26 (e : TypeId) (x : W8) (b w : Nat → Nat) : AState := ⟨⟨177, 93, (.n (.n (.n .e (some (.pointer (some ⟨4, 0, none⟩))) .e) none (.n .e (some (.int .i64 (.ofNat 27))) .e)) none (.n .e (some (.pointer (some ⟨3, 0, none⟩))) .e)),
  [.inLoop (cAt Tryz.f177 [1, 1, 1, 0, 1, 0, 0]), .inBlock 2, .code (cAt Tryz.f177 [1, 1, 1, 1])],
  [], .run, .normal, none⟩,
 [⟨151, 111, (.n (.n .e (some (.slice (some ⟨0, 0, none⟩) 64 64)) .e) (some (.agg ⟨lstW x⟩)) (.n (.n .e (some (.pointer (some ⟨2, 0, none⟩))) .e) (some (.pointer (some ⟨1, 0, none⟩))) (.n .e none (.n .e (some (.slice (some ⟨0, 0, none⟩) 64 64)) .e)))),
  [.reg (rAt Tryz.f151 [1, 0]) (dropL 1 (rAt Tryz.f151 [1, 0]).toList), .code (cAt Tryz.f151 [1, 1])],
  [], .run, .normal, none⟩],
 ⟨(.n (.n (.n .e (some (.cells (t64 (fun _ => .int .u32 (.ofNat 0))) 64 235 false false)) .e) (some (.cells (t8 (nthW x)) 8 207 false false)) .e) (some (.cells (T.ofList (lst8 b 64 0)) 64 e true true)) (.n (.n .e (some (.cells (t64 (fun j => .int .u32 (.ofNat (w j)))) 64 235 false false)) .e) (some (.cells (t8 (fun _ => .int .u32 (.ofNat 0))) 8 207 false false)) .e)), 5⟩⟩
def S27 (e : TypeId) (x : W8) (b w : Nat → Nat) : AState := ⟨⟨177, 93, (.n (.n (.n .e (some (.pointer (some ⟨4, 0, none⟩))) .e) none (.n .e (some (.int .i64 (.ofNat 28))) .e)) none (.n .e (some (.pointer (some ⟨3, 0, none⟩))) .e)),
  [.inLoop (cAt Tryz.f177 [1, 1, 1, 0, 1, 0, 0]), .inBlock 2, .code (cAt Tryz.f177 [1, 1, 1, 1])],
  [], .run, .normal, none⟩,
 [⟨151, 111, (.n (.n .e (some (.slice (some ⟨0, 0, none⟩) 64 64)) .e) (some (.agg ⟨lstW x⟩)) (.n (.n .e (some (.pointer (some ⟨2, 0, none⟩))) .e) (some (.pointer (some ⟨1, 0, none⟩))) (.n .e none (.n .e (some (.slice (some ⟨0, 0, none⟩) 64 64)) .e)))),
  [.reg (rAt Tryz.f151 [1, 0]) (dropL 1 (rAt Tryz.f151 [1, 0]).toList), .code (cAt Tryz.f151 [1, 1])],
  [], .run, .normal, none⟩],
 ⟨(.n (.n (.n .e (some (.cells (t64 (fun _ => .int .u32 (.ofNat 0))) 64 235 false false)) .e) (some (.cells (t8 (nthW x)) 8 207 false false)) .e) (some (.cells (T.ofList (lst8 b 64 0)) 64 e true true)) (.n (.n .e (some (.cells (t64 (fun j => .int .u32 (.ofNat (w j)))) 64 235 false false)) .e) (some (.cells (t8 (fun _ => .int .u32 (.ofNat 0))) 8 207 false false)) .e)), 5⟩⟩
def S28 (e : TypeId) (x : W8) (b w : Nat → Nat) : AState := ⟨⟨177, 93, (.n (.n (.n .e (some (.pointer (some ⟨4, 0, none⟩))) .e) none (.n .e (some (.int .i64 (.ofNat 29))) .e)) none (.n .e (some (.pointer (some ⟨3, 0, none⟩))) .e)),
  [.inLoop (cAt Tryz.f177 [1, 1, 1, 0, 1, 0, 0]), .inBlock 2, .code (cAt Tryz.f177 [1, 1, 1, 1])],
  [], .run, .normal, none⟩,
 [⟨151, 111, (.n (.n .e (some (.slice (some ⟨0, 0, none⟩) 64 64)) .e) (some (.agg ⟨lstW x⟩)) (.n (.n .e (some (.pointer (some ⟨2, 0, none⟩))) .e) (some (.pointer (some ⟨1, 0, none⟩))) (.n .e none (.n .e (some (.slice (some ⟨0, 0, none⟩) 64 64)) .e)))),
  [.reg (rAt Tryz.f151 [1, 0]) (dropL 1 (rAt Tryz.f151 [1, 0]).toList), .code (cAt Tryz.f151 [1, 1])],
  [], .run, .normal, none⟩],
 ⟨(.n (.n (.n .e (some (.cells (t64 (fun _ => .int .u32 (.ofNat 0))) 64 235 false false)) .e) (some (.cells (t8 (nthW x)) 8 207 false false)) .e) (some (.cells (T.ofList (lst8 b 64 0)) 64 e true true)) (.n (.n .e (some (.cells (t64 (fun j => .int .u32 (.ofNat (w j)))) 64 235 false false)) .e) (some (.cells (t8 (fun _ => .int .u32 (.ofNat 0))) 8 207 false false)) .e)), 5⟩⟩
def S29 (e : TypeId) (x : W8) (b w : Nat → Nat) : AState := ⟨⟨177, 93, (.n (.n (.n .e (some (.pointer (some ⟨4, 0, none⟩))) .e) none (.n .e (some (.int .i64 (.ofNat 30))) .e)) none (.n .e (some (.pointer (some ⟨3, 0, none⟩))) .e)),
  [.inLoop (cAt Tryz.f177 [1, 1, 1, 0, 1, 0, 0]), .inBlock 2, .code (cAt Tryz.f177 [1, 1, 1, 1])],
  [], .run, .normal, none⟩,
 [⟨151, 111, (.n (.n .e (some (.slice (some ⟨0, 0, none⟩) 64 64)) .e) (some (.agg ⟨lstW x⟩)) (.n (.n .e (some (.pointer (some ⟨2, 0, none⟩))) .e) (some (.pointer (some ⟨1, 0, none⟩))) (.n .e none (.n .e (some (.slice (some ⟨0, 0, none⟩) 64 64)) .e)))),
  [.reg (rAt Tryz.f151 [1, 0]) (dropL 1 (rAt Tryz.f151 [1, 0]).toList), .code (cAt Tryz.f151 [1, 1])],
  [], .run, .normal, none⟩],
 ⟨(.n (.n (.n .e (some (.cells (t64 (fun _ => .int .u32 (.ofNat 0))) 64 235 false false)) .e) (some (.cells (t8 (nthW x)) 8 207 false false)) .e) (some (.cells (T.ofList (lst8 b 64 0)) 64 e true true)) (.n (.n .e (some (.cells (t64 (fun j => .int .u32 (.ofNat (w j)))) 64 235 false false)) .e) (some (.cells (t8 (fun _ => .int .u32 (.ofNat 0))) 8 207 false false)) .e)), 5⟩⟩
def S30 (e : TypeId) (x : W8) (b w : Nat → Nat) : AState := ⟨⟨177, 93, (.n (.n (.n .e (some (.pointer (some ⟨4, 0, none⟩))) .e) none (.n .e (some (.int .i64 (.ofNat 31))) .e)) none (.n .e (some (.pointer (some ⟨3, 0, none⟩))) .e)),
  [.inLoop (cAt Tryz.f177 [1, 1, 1, 0, 1, 0, 0]), .inBlock 2, .code (cAt Tryz.f177 [1, 1, 1, 1])],
  [], .run, .normal, none⟩,
 [⟨151, 111, (.n (.n .e (some (.slice (some ⟨0, 0, none⟩) 64 64)) .e) (some (.agg ⟨lstW x⟩)) (.n (.n .e (some (.pointer (some ⟨2, 0, none⟩))) .e) (some (.pointer (some ⟨1, 0, none⟩))) (.n .e none (.n .e (some (.slice (some ⟨0, 0, none⟩) 64 64)) .e)))),
  [.reg (rAt Tryz.f151 [1, 0]) (dropL 1 (rAt Tryz.f151 [1, 0]).toList), .code (cAt Tryz.f151 [1, 1])],
  [], .run, .normal, none⟩],
 ⟨(.n (.n (.n .e (some (.cells (t64 (fun _ => .int .u32 (.ofNat 0))) 64 235 false false)) .e) (some (.cells (t8 (nthW x)) 8 207 false false)) .e) (some (.cells (T.ofList (lst8 b 64 0)) 64 e true true)) (.n (.n .e (some (.cells (t64 (fun j => .int .u32 (.ofNat (w j)))) 64 235 false false)) .e) (some (.cells (t8 (fun _ => .int .u32 (.ofNat 0))) 8 207 false false)) .e)), 5⟩⟩
def S31 (e : TypeId) (x : W8) (b w : Nat → Nat) : AState := ⟨⟨177, 93, (.n (.n (.n .e (some (.pointer (some ⟨4, 0, none⟩))) .e) none (.n .e (some (.int .i64 (.ofNat 32))) .e)) none (.n .e (some (.pointer (some ⟨3, 0, none⟩))) .e)),
  [.inLoop (cAt Tryz.f177 [1, 1, 1, 0, 1, 0, 0]), .inBlock 2, .code (cAt Tryz.f177 [1, 1, 1, 1])],
  [], .run, .normal, none⟩,
 [⟨151, 111, (.n (.n .e (some (.slice (some ⟨0, 0, none⟩) 64 64)) .e) (some (.agg ⟨lstW x⟩)) (.n (.n .e (some (.pointer (some ⟨2, 0, none⟩))) .e) (some (.pointer (some ⟨1, 0, none⟩))) (.n .e none (.n .e (some (.slice (some ⟨0, 0, none⟩) 64 64)) .e)))),
  [.reg (rAt Tryz.f151 [1, 0]) (dropL 1 (rAt Tryz.f151 [1, 0]).toList), .code (cAt Tryz.f151 [1, 1])],
  [], .run, .normal, none⟩],
 ⟨(.n (.n (.n .e (some (.cells (t64 (fun _ => .int .u32 (.ofNat 0))) 64 235 false false)) .e) (some (.cells (t8 (nthW x)) 8 207 false false)) .e) (some (.cells (T.ofList (lst8 b 64 0)) 64 e true true)) (.n (.n .e (some (.cells (t64 (fun j => .int .u32 (.ofNat (w j)))) 64 235 false false)) .e) (some (.cells (t8 (fun _ => .int .u32 (.ofNat 0))) 8 207 false false)) .e)), 5⟩⟩
def S32 (e : TypeId) (x : W8) (b w : Nat → Nat) : AState := ⟨⟨177, 93, (.n (.n (.n .e (some (.pointer (some ⟨4, 0, none⟩))) .e) none (.n .e (some (.int .i64 (.ofNat 33))) .e)) none (.n .e (some (.pointer (some ⟨3, 0, none⟩))) .e)),
  [.inLoop (cAt Tryz.f177 [1, 1, 1, 0, 1, 0, 0]), .inBlock 2, .code (cAt Tryz.f177 [1, 1, 1, 1])],
  [], .run, .normal, none⟩,
 [⟨151, 111, (.n (.n .e (some (.slice (some ⟨0, 0, none⟩) 64 64)) .e) (some (.agg ⟨lstW x⟩)) (.n (.n .e (some (.pointer (some ⟨2, 0, none⟩))) .e) (some (.pointer (some ⟨1, 0, none⟩))) (.n .e none (.n .e (some (.slice (some ⟨0, 0, none⟩) 64 64)) .e)))),
  [.reg (rAt Tryz.f151 [1, 0]) (dropL 1 (rAt Tryz.f151 [1, 0]).toList), .code (cAt Tryz.f151 [1, 1])],
  [], .run, .normal, none⟩],
 ⟨(.n (.n (.n .e (some (.cells (t64 (fun _ => .int .u32 (.ofNat 0))) 64 235 false false)) .e) (some (.cells (t8 (nthW x)) 8 207 false false)) .e) (some (.cells (T.ofList (lst8 b 64 0)) 64 e true true)) (.n (.n .e (some (.cells (t64 (fun j => .int .u32 (.ofNat (w j)))) 64 235 false false)) .e) (some (.cells (t8 (fun _ => .int .u32 (.ofNat 0))) 8 207 false false)) .e)), 5⟩⟩
def S33 (e : TypeId) (x : W8) (b w : Nat → Nat) : AState := ⟨⟨177, 93, (.n (.n (.n .e (some (.pointer (some ⟨4, 0, none⟩))) .e) none (.n .e (some (.int .i64 (.ofNat 34))) .e)) none (.n .e (some (.pointer (some ⟨3, 0, none⟩))) .e)),
  [.inLoop (cAt Tryz.f177 [1, 1, 1, 0, 1, 0, 0]), .inBlock 2, .code (cAt Tryz.f177 [1, 1, 1, 1])],
  [], .run, .normal, none⟩,
 [⟨151, 111, (.n (.n .e (some (.slice (some ⟨0, 0, none⟩) 64 64)) .e) (some (.agg ⟨lstW x⟩)) (.n (.n .e (some (.pointer (some ⟨2, 0, none⟩))) .e) (some (.pointer (some ⟨1, 0, none⟩))) (.n .e none (.n .e (some (.slice (some ⟨0, 0, none⟩) 64 64)) .e)))),
  [.reg (rAt Tryz.f151 [1, 0]) (dropL 1 (rAt Tryz.f151 [1, 0]).toList), .code (cAt Tryz.f151 [1, 1])],
  [], .run, .normal, none⟩],
 ⟨(.n (.n (.n .e (some (.cells (t64 (fun _ => .int .u32 (.ofNat 0))) 64 235 false false)) .e) (some (.cells (t8 (nthW x)) 8 207 false false)) .e) (some (.cells (T.ofList (lst8 b 64 0)) 64 e true true)) (.n (.n .e (some (.cells (t64 (fun j => .int .u32 (.ofNat (w j)))) 64 235 false false)) .e) (some (.cells (t8 (fun _ => .int .u32 (.ofNat 0))) 8 207 false false)) .e)), 5⟩⟩
def S34 (e : TypeId) (x : W8) (b w : Nat → Nat) : AState := ⟨⟨177, 93, (.n (.n (.n .e (some (.pointer (some ⟨4, 0, none⟩))) .e) none (.n .e (some (.int .i64 (.ofNat 35))) .e)) none (.n .e (some (.pointer (some ⟨3, 0, none⟩))) .e)),
  [.inLoop (cAt Tryz.f177 [1, 1, 1, 0, 1, 0, 0]), .inBlock 2, .code (cAt Tryz.f177 [1, 1, 1, 1])],
  [], .run, .normal, none⟩,
 [⟨151, 111, (.n (.n .e (some (.slice (some ⟨0, 0, none⟩) 64 64)) .e) (some (.agg ⟨lstW x⟩)) (.n (.n .e (some (.pointer (some ⟨2, 0, none⟩))) .e) (some (.pointer (some ⟨1, 0, none⟩))) (.n .e none (.n .e (some (.slice (some ⟨0, 0, none⟩) 64 64)) .e)))),
  [.reg (rAt Tryz.f151 [1, 0]) (dropL 1 (rAt Tryz.f151 [1, 0]).toList), .code (cAt Tryz.f151 [1, 1])],
  [], .run, .normal, none⟩],
 ⟨(.n (.n (.n .e (some (.cells (t64 (fun _ => .int .u32 (.ofNat 0))) 64 235 false false)) .e) (some (.cells (t8 (nthW x)) 8 207 false false)) .e) (some (.cells (T.ofList (lst8 b 64 0)) 64 e true true)) (.n (.n .e (some (.cells (t64 (fun j => .int .u32 (.ofNat (w j)))) 64 235 false false)) .e) (some (.cells (t8 (fun _ => .int .u32 (.ofNat 0))) 8 207 false false)) .e)), 5⟩⟩
def S35 (e : TypeId) (x : W8) (b w : Nat → Nat) : AState := ⟨⟨177, 93, (.n (.n (.n .e (some (.pointer (some ⟨4, 0, none⟩))) .e) none (.n .e (some (.int .i64 (.ofNat 36))) .e)) none (.n .e (some (.pointer (some ⟨3, 0, none⟩))) .e)),
  [.inLoop (cAt Tryz.f177 [1, 1, 1, 0, 1, 0, 0]), .inBlock 2, .code (cAt Tryz.f177 [1, 1, 1, 1])],
  [], .run, .normal, none⟩,
 [⟨151, 111, (.n (.n .e (some (.slice (some ⟨0, 0, none⟩) 64 64)) .e) (some (.agg ⟨lstW x⟩)) (.n (.n .e (some (.pointer (some ⟨2, 0, none⟩))) .e) (some (.pointer (some ⟨1, 0, none⟩))) (.n .e none (.n .e (some (.slice (some ⟨0, 0, none⟩) 64 64)) .e)))),
  [.reg (rAt Tryz.f151 [1, 0]) (dropL 1 (rAt Tryz.f151 [1, 0]).toList), .code (cAt Tryz.f151 [1, 1])],
  [], .run, .normal, none⟩],
 ⟨(.n (.n (.n .e (some (.cells (t64 (fun _ => .int .u32 (.ofNat 0))) 64 235 false false)) .e) (some (.cells (t8 (nthW x)) 8 207 false false)) .e) (some (.cells (T.ofList (lst8 b 64 0)) 64 e true true)) (.n (.n .e (some (.cells (t64 (fun j => .int .u32 (.ofNat (w j)))) 64 235 false false)) .e) (some (.cells (t8 (fun _ => .int .u32 (.ofNat 0))) 8 207 false false)) .e)), 5⟩⟩
def S36 (e : TypeId) (x : W8) (b w : Nat → Nat) : AState := ⟨⟨177, 93, (.n (.n (.n .e (some (.pointer (some ⟨4, 0, none⟩))) .e) none (.n .e (some (.int .i64 (.ofNat 37))) .e)) none (.n .e (some (.pointer (some ⟨3, 0, none⟩))) .e)),
  [.inLoop (cAt Tryz.f177 [1, 1, 1, 0, 1, 0, 0]), .inBlock 2, .code (cAt Tryz.f177 [1, 1, 1, 1])],
  [], .run, .normal, none⟩,
 [⟨151, 111, (.n (.n .e (some (.slice (some ⟨0, 0, none⟩) 64 64)) .e) (some (.agg ⟨lstW x⟩)) (.n (.n .e (some (.pointer (some ⟨2, 0, none⟩))) .e) (some (.pointer (some ⟨1, 0, none⟩))) (.n .e none (.n .e (some (.slice (some ⟨0, 0, none⟩) 64 64)) .e)))),
  [.reg (rAt Tryz.f151 [1, 0]) (dropL 1 (rAt Tryz.f151 [1, 0]).toList), .code (cAt Tryz.f151 [1, 1])],
  [], .run, .normal, none⟩],
 ⟨(.n (.n (.n .e (some (.cells (t64 (fun _ => .int .u32 (.ofNat 0))) 64 235 false false)) .e) (some (.cells (t8 (nthW x)) 8 207 false false)) .e) (some (.cells (T.ofList (lst8 b 64 0)) 64 e true true)) (.n (.n .e (some (.cells (t64 (fun j => .int .u32 (.ofNat (w j)))) 64 235 false false)) .e) (some (.cells (t8 (fun _ => .int .u32 (.ofNat 0))) 8 207 false false)) .e)), 5⟩⟩
def S37 (e : TypeId) (x : W8) (b w : Nat → Nat) : AState := ⟨⟨177, 93, (.n (.n (.n .e (some (.pointer (some ⟨4, 0, none⟩))) .e) none (.n .e (some (.int .i64 (.ofNat 38))) .e)) none (.n .e (some (.pointer (some ⟨3, 0, none⟩))) .e)),
  [.inLoop (cAt Tryz.f177 [1, 1, 1, 0, 1, 0, 0]), .inBlock 2, .code (cAt Tryz.f177 [1, 1, 1, 1])],
  [], .run, .normal, none⟩,
 [⟨151, 111, (.n (.n .e (some (.slice (some ⟨0, 0, none⟩) 64 64)) .e) (some (.agg ⟨lstW x⟩)) (.n (.n .e (some (.pointer (some ⟨2, 0, none⟩))) .e) (some (.pointer (some ⟨1, 0, none⟩))) (.n .e none (.n .e (some (.slice (some ⟨0, 0, none⟩) 64 64)) .e)))),
  [.reg (rAt Tryz.f151 [1, 0]) (dropL 1 (rAt Tryz.f151 [1, 0]).toList), .code (cAt Tryz.f151 [1, 1])],
  [], .run, .normal, none⟩],
 ⟨(.n (.n (.n .e (some (.cells (t64 (fun _ => .int .u32 (.ofNat 0))) 64 235 false false)) .e) (some (.cells (t8 (nthW x)) 8 207 false false)) .e) (some (.cells (T.ofList (lst8 b 64 0)) 64 e true true)) (.n (.n .e (some (.cells (t64 (fun j => .int .u32 (.ofNat (w j)))) 64 235 false false)) .e) (some (.cells (t8 (fun _ => .int .u32 (.ofNat 0))) 8 207 false false)) .e)), 5⟩⟩
def S38 (e : TypeId) (x : W8) (b w : Nat → Nat) : AState := ⟨⟨177, 93, (.n (.n (.n .e (some (.pointer (some ⟨4, 0, none⟩))) .e) none (.n .e (some (.int .i64 (.ofNat 39))) .e)) none (.n .e (some (.pointer (some ⟨3, 0, none⟩))) .e)),
  [.inLoop (cAt Tryz.f177 [1, 1, 1, 0, 1, 0, 0]), .inBlock 2, .code (cAt Tryz.f177 [1, 1, 1, 1])],
  [], .run, .normal, none⟩,
 [⟨151, 111, (.n (.n .e (some (.slice (some ⟨0, 0, none⟩) 64 64)) .e) (some (.agg ⟨lstW x⟩)) (.n (.n .e (some (.pointer (some ⟨2, 0, none⟩))) .e) (some (.pointer (some ⟨1, 0, none⟩))) (.n .e none (.n .e (some (.slice (some ⟨0, 0, none⟩) 64 64)) .e)))),
  [.reg (rAt Tryz.f151 [1, 0]) (dropL 1 (rAt Tryz.f151 [1, 0]).toList), .code (cAt Tryz.f151 [1, 1])],
  [], .run, .normal, none⟩],
 ⟨(.n (.n (.n .e (some (.cells (t64 (fun _ => .int .u32 (.ofNat 0))) 64 235 false false)) .e) (some (.cells (t8 (nthW x)) 8 207 false false)) .e) (some (.cells (T.ofList (lst8 b 64 0)) 64 e true true)) (.n (.n .e (some (.cells (t64 (fun j => .int .u32 (.ofNat (w j)))) 64 235 false false)) .e) (some (.cells (t8 (fun _ => .int .u32 (.ofNat 0))) 8 207 false false)) .e)), 5⟩⟩
def S39 (e : TypeId) (x : W8) (b w : Nat → Nat) : AState := ⟨⟨177, 93, (.n (.n (.n .e (some (.pointer (some ⟨4, 0, none⟩))) .e) none (.n .e (some (.int .i64 (.ofNat 40))) .e)) none (.n .e (some (.pointer (some ⟨3, 0, none⟩))) .e)),
  [.inLoop (cAt Tryz.f177 [1, 1, 1, 0, 1, 0, 0]), .inBlock 2, .code (cAt Tryz.f177 [1, 1, 1, 1])],
  [], .run, .normal, none⟩,
 [⟨151, 111, (.n (.n .e (some (.slice (some ⟨0, 0, none⟩) 64 64)) .e) (some (.agg ⟨lstW x⟩)) (.n (.n .e (some (.pointer (some ⟨2, 0, none⟩))) .e) (some (.pointer (some ⟨1, 0, none⟩))) (.n .e none (.n .e (some (.slice (some ⟨0, 0, none⟩) 64 64)) .e)))),
  [.reg (rAt Tryz.f151 [1, 0]) (dropL 1 (rAt Tryz.f151 [1, 0]).toList), .code (cAt Tryz.f151 [1, 1])],
  [], .run, .normal, none⟩],
 ⟨(.n (.n (.n .e (some (.cells (t64 (fun _ => .int .u32 (.ofNat 0))) 64 235 false false)) .e) (some (.cells (t8 (nthW x)) 8 207 false false)) .e) (some (.cells (T.ofList (lst8 b 64 0)) 64 e true true)) (.n (.n .e (some (.cells (t64 (fun j => .int .u32 (.ofNat (w j)))) 64 235 false false)) .e) (some (.cells (t8 (fun _ => .int .u32 (.ofNat 0))) 8 207 false false)) .e)), 5⟩⟩
def S40 (e : TypeId) (x : W8) (b w : Nat → Nat) : AState := ⟨⟨177, 93, (.n (.n (.n .e (some (.pointer (some ⟨4, 0, none⟩))) .e) none (.n .e (some (.int .i64 (.ofNat 41))) .e)) none (.n .e (some (.pointer (some ⟨3, 0, none⟩))) .e)),
  [.inLoop (cAt Tryz.f177 [1, 1, 1, 0, 1, 0, 0]), .inBlock 2, .code (cAt Tryz.f177 [1, 1, 1, 1])],
  [], .run, .normal, none⟩,
 [⟨151, 111, (.n (.n .e (some (.slice (some ⟨0, 0, none⟩) 64 64)) .e) (some (.agg ⟨lstW x⟩)) (.n (.n .e (some (.pointer (some ⟨2, 0, none⟩))) .e) (some (.pointer (some ⟨1, 0, none⟩))) (.n .e none (.n .e (some (.slice (some ⟨0, 0, none⟩) 64 64)) .e)))),
  [.reg (rAt Tryz.f151 [1, 0]) (dropL 1 (rAt Tryz.f151 [1, 0]).toList), .code (cAt Tryz.f151 [1, 1])],
  [], .run, .normal, none⟩],
 ⟨(.n (.n (.n .e (some (.cells (t64 (fun _ => .int .u32 (.ofNat 0))) 64 235 false false)) .e) (some (.cells (t8 (nthW x)) 8 207 false false)) .e) (some (.cells (T.ofList (lst8 b 64 0)) 64 e true true)) (.n (.n .e (some (.cells (t64 (fun j => .int .u32 (.ofNat (w j)))) 64 235 false false)) .e) (some (.cells (t8 (fun _ => .int .u32 (.ofNat 0))) 8 207 false false)) .e)), 5⟩⟩
def S41 (e : TypeId) (x : W8) (b w : Nat → Nat) : AState := ⟨⟨177, 93, (.n (.n (.n .e (some (.pointer (some ⟨4, 0, none⟩))) .e) none (.n .e (some (.int .i64 (.ofNat 42))) .e)) none (.n .e (some (.pointer (some ⟨3, 0, none⟩))) .e)),
  [.inLoop (cAt Tryz.f177 [1, 1, 1, 0, 1, 0, 0]), .inBlock 2, .code (cAt Tryz.f177 [1, 1, 1, 1])],
  [], .run, .normal, none⟩,
 [⟨151, 111, (.n (.n .e (some (.slice (some ⟨0, 0, none⟩) 64 64)) .e) (some (.agg ⟨lstW x⟩)) (.n (.n .e (some (.pointer (some ⟨2, 0, none⟩))) .e) (some (.pointer (some ⟨1, 0, none⟩))) (.n .e none (.n .e (some (.slice (some ⟨0, 0, none⟩) 64 64)) .e)))),
  [.reg (rAt Tryz.f151 [1, 0]) (dropL 1 (rAt Tryz.f151 [1, 0]).toList), .code (cAt Tryz.f151 [1, 1])],
  [], .run, .normal, none⟩],
 ⟨(.n (.n (.n .e (some (.cells (t64 (fun _ => .int .u32 (.ofNat 0))) 64 235 false false)) .e) (some (.cells (t8 (nthW x)) 8 207 false false)) .e) (some (.cells (T.ofList (lst8 b 64 0)) 64 e true true)) (.n (.n .e (some (.cells (t64 (fun j => .int .u32 (.ofNat (w j)))) 64 235 false false)) .e) (some (.cells (t8 (fun _ => .int .u32 (.ofNat 0))) 8 207 false false)) .e)), 5⟩⟩
def S42 (e : TypeId) (x : W8) (b w : Nat → Nat) : AState := ⟨⟨177, 93, (.n (.n (.n .e (some (.pointer (some ⟨4, 0, none⟩))) .e) none (.n .e (some (.int .i64 (.ofNat 43))) .e)) none (.n .e (some (.pointer (some ⟨3, 0, none⟩))) .e)),
  [.inLoop (cAt Tryz.f177 [1, 1, 1, 0, 1, 0, 0]), .inBlock 2, .code (cAt Tryz.f177 [1, 1, 1, 1])],
  [], .run, .normal, none⟩,
 [⟨151, 111, (.n (.n .e (some (.slice (some ⟨0, 0, none⟩) 64 64)) .e) (some (.agg ⟨lstW x⟩)) (.n (.n .e (some (.pointer (some ⟨2, 0, none⟩))) .e) (some (.pointer (some ⟨1, 0, none⟩))) (.n .e none (.n .e (some (.slice (some ⟨0, 0, none⟩) 64 64)) .e)))),
  [.reg (rAt Tryz.f151 [1, 0]) (dropL 1 (rAt Tryz.f151 [1, 0]).toList), .code (cAt Tryz.f151 [1, 1])],
  [], .run, .normal, none⟩],
 ⟨(.n (.n (.n .e (some (.cells (t64 (fun _ => .int .u32 (.ofNat 0))) 64 235 false false)) .e) (some (.cells (t8 (nthW x)) 8 207 false false)) .e) (some (.cells (T.ofList (lst8 b 64 0)) 64 e true true)) (.n (.n .e (some (.cells (t64 (fun j => .int .u32 (.ofNat (w j)))) 64 235 false false)) .e) (some (.cells (t8 (fun _ => .int .u32 (.ofNat 0))) 8 207 false false)) .e)), 5⟩⟩
def S43 (e : TypeId) (x : W8) (b w : Nat → Nat) : AState := ⟨⟨177, 93, (.n (.n (.n .e (some (.pointer (some ⟨4, 0, none⟩))) .e) none (.n .e (some (.int .i64 (.ofNat 44))) .e)) none (.n .e (some (.pointer (some ⟨3, 0, none⟩))) .e)),
  [.inLoop (cAt Tryz.f177 [1, 1, 1, 0, 1, 0, 0]), .inBlock 2, .code (cAt Tryz.f177 [1, 1, 1, 1])],
  [], .run, .normal, none⟩,
 [⟨151, 111, (.n (.n .e (some (.slice (some ⟨0, 0, none⟩) 64 64)) .e) (some (.agg ⟨lstW x⟩)) (.n (.n .e (some (.pointer (some ⟨2, 0, none⟩))) .e) (some (.pointer (some ⟨1, 0, none⟩))) (.n .e none (.n .e (some (.slice (some ⟨0, 0, none⟩) 64 64)) .e)))),
  [.reg (rAt Tryz.f151 [1, 0]) (dropL 1 (rAt Tryz.f151 [1, 0]).toList), .code (cAt Tryz.f151 [1, 1])],
  [], .run, .normal, none⟩],
 ⟨(.n (.n (.n .e (some (.cells (t64 (fun _ => .int .u32 (.ofNat 0))) 64 235 false false)) .e) (some (.cells (t8 (nthW x)) 8 207 false false)) .e) (some (.cells (T.ofList (lst8 b 64 0)) 64 e true true)) (.n (.n .e (some (.cells (t64 (fun j => .int .u32 (.ofNat (w j)))) 64 235 false false)) .e) (some (.cells (t8 (fun _ => .int .u32 (.ofNat 0))) 8 207 false false)) .e)), 5⟩⟩
def S44 (e : TypeId) (x : W8) (b w : Nat → Nat) : AState := ⟨⟨177, 93, (.n (.n (.n .e (some (.pointer (some ⟨4, 0, none⟩))) .e) none (.n .e (some (.int .i64 (.ofNat 45))) .e)) none (.n .e (some (.pointer (some ⟨3, 0, none⟩))) .e)),
  [.inLoop (cAt Tryz.f177 [1, 1, 1, 0, 1, 0, 0]), .inBlock 2, .code (cAt Tryz.f177 [1, 1, 1, 1])],
  [], .run, .normal, none⟩,
 [⟨151, 111, (.n (.n .e (some (.slice (some ⟨0, 0, none⟩) 64 64)) .e) (some (.agg ⟨lstW x⟩)) (.n (.n .e (some (.pointer (some ⟨2, 0, none⟩))) .e) (some (.pointer (some ⟨1, 0, none⟩))) (.n .e none (.n .e (some (.slice (some ⟨0, 0, none⟩) 64 64)) .e)))),
  [.reg (rAt Tryz.f151 [1, 0]) (dropL 1 (rAt Tryz.f151 [1, 0]).toList), .code (cAt Tryz.f151 [1, 1])],
  [], .run, .normal, none⟩],
 ⟨(.n (.n (.n .e (some (.cells (t64 (fun _ => .int .u32 (.ofNat 0))) 64 235 false false)) .e) (some (.cells (t8 (nthW x)) 8 207 false false)) .e) (some (.cells (T.ofList (lst8 b 64 0)) 64 e true true)) (.n (.n .e (some (.cells (t64 (fun j => .int .u32 (.ofNat (w j)))) 64 235 false false)) .e) (some (.cells (t8 (fun _ => .int .u32 (.ofNat 0))) 8 207 false false)) .e)), 5⟩⟩
def S45 (e : TypeId) (x : W8) (b w : Nat → Nat) : AState := ⟨⟨177, 93, (.n (.n (.n .e (some (.pointer (some ⟨4, 0, none⟩))) .e) none (.n .e (some (.int .i64 (.ofNat 46))) .e)) none (.n .e (some (.pointer (some ⟨3, 0, none⟩))) .e)),
  [.inLoop (cAt Tryz.f177 [1, 1, 1, 0, 1, 0, 0]), .inBlock 2, .code (cAt Tryz.f177 [1, 1, 1, 1])],
  [], .run, .normal, none⟩,
 [⟨151, 111, (.n (.n .e (some (.slice (some ⟨0, 0, none⟩) 64 64)) .e) (some (.agg ⟨lstW x⟩)) (.n (.n .e (some (.pointer (some ⟨2, 0, none⟩))) .e) (some (.pointer (some ⟨1, 0, none⟩))) (.n .e none (.n .e (some (.slice (some ⟨0, 0, none⟩) 64 64)) .e)))),
  [.reg (rAt Tryz.f151 [1, 0]) (dropL 1 (rAt Tryz.f151 [1, 0]).toList), .code (cAt Tryz.f151 [1, 1])],
  [], .run, .normal, none⟩],
 ⟨(.n (.n (.n .e (some (.cells (t64 (fun _ => .int .u32 (.ofNat 0))) 64 235 false false)) .e) (some (.cells (t8 (nthW x)) 8 207 false false)) .e) (some (.cells (T.ofList (lst8 b 64 0)) 64 e true true)) (.n (.n .e (some (.cells (t64 (fun j => .int .u32 (.ofNat (w j)))) 64 235 false false)) .e) (some (.cells (t8 (fun _ => .int .u32 (.ofNat 0))) 8 207 false false)) .e)), 5⟩⟩
def S46 (e : TypeId) (x : W8) (b w : Nat → Nat) : AState := ⟨⟨177, 93, (.n (.n (.n .e (some (.pointer (some ⟨4, 0, none⟩))) .e) none (.n .e (some (.int .i64 (.ofNat 47))) .e)) none (.n .e (some (.pointer (some ⟨3, 0, none⟩))) .e)),
  [.inLoop (cAt Tryz.f177 [1, 1, 1, 0, 1, 0, 0]), .inBlock 2, .code (cAt Tryz.f177 [1, 1, 1, 1])],
  [], .run, .normal, none⟩,
 [⟨151, 111, (.n (.n .e (some (.slice (some ⟨0, 0, none⟩) 64 64)) .e) (some (.agg ⟨lstW x⟩)) (.n (.n .e (some (.pointer (some ⟨2, 0, none⟩))) .e) (some (.pointer (some ⟨1, 0, none⟩))) (.n .e none (.n .e (some (.slice (some ⟨0, 0, none⟩) 64 64)) .e)))),
  [.reg (rAt Tryz.f151 [1, 0]) (dropL 1 (rAt Tryz.f151 [1, 0]).toList), .code (cAt Tryz.f151 [1, 1])],
  [], .run, .normal, none⟩],
 ⟨(.n (.n (.n .e (some (.cells (t64 (fun _ => .int .u32 (.ofNat 0))) 64 235 false false)) .e) (some (.cells (t8 (nthW x)) 8 207 false false)) .e) (some (.cells (T.ofList (lst8 b 64 0)) 64 e true true)) (.n (.n .e (some (.cells (t64 (fun j => .int .u32 (.ofNat (w j)))) 64 235 false false)) .e) (some (.cells (t8 (fun _ => .int .u32 (.ofNat 0))) 8 207 false false)) .e)), 5⟩⟩
def S47 (e : TypeId) (x : W8) (b w : Nat → Nat) : AState := ⟨⟨177, 93, (.n (.n (.n .e (some (.pointer (some ⟨4, 0, none⟩))) .e) none (.n .e (some (.int .i64 (.ofNat 48))) .e)) none (.n .e (some (.pointer (some ⟨3, 0, none⟩))) .e)),
  [.inLoop (cAt Tryz.f177 [1, 1, 1, 0, 1, 0, 0]), .inBlock 2, .code (cAt Tryz.f177 [1, 1, 1, 1])],
  [], .run, .normal, none⟩,
 [⟨151, 111, (.n (.n .e (some (.slice (some ⟨0, 0, none⟩) 64 64)) .e) (some (.agg ⟨lstW x⟩)) (.n (.n .e (some (.pointer (some ⟨2, 0, none⟩))) .e) (some (.pointer (some ⟨1, 0, none⟩))) (.n .e none (.n .e (some (.slice (some ⟨0, 0, none⟩) 64 64)) .e)))),
  [.reg (rAt Tryz.f151 [1, 0]) (dropL 1 (rAt Tryz.f151 [1, 0]).toList), .code (cAt Tryz.f151 [1, 1])],
  [], .run, .normal, none⟩],
 ⟨(.n (.n (.n .e (some (.cells (t64 (fun _ => .int .u32 (.ofNat 0))) 64 235 false false)) .e) (some (.cells (t8 (nthW x)) 8 207 false false)) .e) (some (.cells (T.ofList (lst8 b 64 0)) 64 e true true)) (.n (.n .e (some (.cells (t64 (fun j => .int .u32 (.ofNat (w j)))) 64 235 false false)) .e) (some (.cells (t8 (fun _ => .int .u32 (.ofNat 0))) 8 207 false false)) .e)), 5⟩⟩
def S48 (e : TypeId) (x : W8) (b w : Nat → Nat) : AState := ⟨⟨177, 93, (.n (.n (.n .e (some (.pointer (some ⟨4, 0, none⟩))) .e) none (.n .e (some (.int .i64 (.ofNat 49))) .e)) none (.n .e (some (.pointer (some ⟨3, 0, none⟩))) .e)),
  [.inLoop (cAt Tryz.f177 [1, 1, 1, 0, 1, 0, 0]), .inBlock 2, .code (cAt Tryz.f177 [1, 1, 1, 1])],
  [], .run, .normal, none⟩,
 [⟨151, 111, (.n (.n .e (some (.slice (some ⟨0, 0, none⟩) 64 64)) .e) (some (.agg ⟨lstW x⟩)) (.n (.n .e (some (.pointer (some ⟨2, 0, none⟩))) .e) (some (.pointer (some ⟨1, 0, none⟩))) (.n .e none (.n .e (some (.slice (some ⟨0, 0, none⟩) 64 64)) .e)))),
  [.reg (rAt Tryz.f151 [1, 0]) (dropL 1 (rAt Tryz.f151 [1, 0]).toList), .code (cAt Tryz.f151 [1, 1])],
  [], .run, .normal, none⟩],
 ⟨(.n (.n (.n .e (some (.cells (t64 (fun _ => .int .u32 (.ofNat 0))) 64 235 false false)) .e) (some (.cells (t8 (nthW x)) 8 207 false false)) .e) (some (.cells (T.ofList (lst8 b 64 0)) 64 e true true)) (.n (.n .e (some (.cells (t64 (fun j => .int .u32 (.ofNat (w j)))) 64 235 false false)) .e) (some (.cells (t8 (fun _ => .int .u32 (.ofNat 0))) 8 207 false false)) .e)), 5⟩⟩
def S49 (e : TypeId) (x : W8) (b w : Nat → Nat) : AState := ⟨⟨177, 93, (.n (.n (.n .e (some (.pointer (some ⟨4, 0, none⟩))) .e) none (.n .e (some (.int .i64 (.ofNat 50))) .e)) none (.n .e (some (.pointer (some ⟨3, 0, none⟩))) .e)),
  [.inLoop (cAt Tryz.f177 [1, 1, 1, 0, 1, 0, 0]), .inBlock 2, .code (cAt Tryz.f177 [1, 1, 1, 1])],
  [], .run, .normal, none⟩,
 [⟨151, 111, (.n (.n .e (some (.slice (some ⟨0, 0, none⟩) 64 64)) .e) (some (.agg ⟨lstW x⟩)) (.n (.n .e (some (.pointer (some ⟨2, 0, none⟩))) .e) (some (.pointer (some ⟨1, 0, none⟩))) (.n .e none (.n .e (some (.slice (some ⟨0, 0, none⟩) 64 64)) .e)))),
  [.reg (rAt Tryz.f151 [1, 0]) (dropL 1 (rAt Tryz.f151 [1, 0]).toList), .code (cAt Tryz.f151 [1, 1])],
  [], .run, .normal, none⟩],
 ⟨(.n (.n (.n .e (some (.cells (t64 (fun _ => .int .u32 (.ofNat 0))) 64 235 false false)) .e) (some (.cells (t8 (nthW x)) 8 207 false false)) .e) (some (.cells (T.ofList (lst8 b 64 0)) 64 e true true)) (.n (.n .e (some (.cells (t64 (fun j => .int .u32 (.ofNat (w j)))) 64 235 false false)) .e) (some (.cells (t8 (fun _ => .int .u32 (.ofNat 0))) 8 207 false false)) .e)), 5⟩⟩
def S50 (e : TypeId) (x : W8) (b w : Nat → Nat) : AState := ⟨⟨177, 93, (.n (.n (.n .e (some (.pointer (some ⟨4, 0, none⟩))) .e) none (.n .e (some (.int .i64 (.ofNat 51))) .e)) none (.n .e (some (.pointer (some ⟨3, 0, none⟩))) .e)),
  [.inLoop (cAt Tryz.f177 [1, 1, 1, 0, 1, 0, 0]), .inBlock 2, .code (cAt Tryz.f177 [1, 1, 1, 1])],
  [], .run, .normal, none⟩,
 [⟨151, 111, (.n (.n .e (some (.slice (some ⟨0, 0, none⟩) 64 64)) .e) (some (.agg ⟨lstW x⟩)) (.n (.n .e (some (.pointer (some ⟨2, 0, none⟩))) .e) (some (.pointer (some ⟨1, 0, none⟩))) (.n .e none (.n .e (some (.slice (some ⟨0, 0, none⟩) 64 64)) .e)))),
  [.reg (rAt Tryz.f151 [1, 0]) (dropL 1 (rAt Tryz.f151 [1, 0]).toList), .code (cAt Tryz.f151 [1, 1])],
  [], .run, .normal, none⟩],
 ⟨(.n (.n (.n .e (some (.cells (t64 (fun _ => .int .u32 (.ofNat 0))) 64 235 false false)) .e) (some (.cells (t8 (nthW x)) 8 207 false false)) .e) (some (.cells (T.ofList (lst8 b 64 0)) 64 e true true)) (.n (.n .e (some (.cells (t64 (fun j => .int .u32 (.ofNat (w j)))) 64 235 false false)) .e) (some (.cells (t8 (fun _ => .int .u32 (.ofNat 0))) 8 207 false false)) .e)), 5⟩⟩
def S51 (e : TypeId) (x : W8) (b w : Nat → Nat) : AState := ⟨⟨177, 93, (.n (.n (.n .e (some (.pointer (some ⟨4, 0, none⟩))) .e) none (.n .e (some (.int .i64 (.ofNat 52))) .e)) none (.n .e (some (.pointer (some ⟨3, 0, none⟩))) .e)),
  [.inLoop (cAt Tryz.f177 [1, 1, 1, 0, 1, 0, 0]), .inBlock 2, .code (cAt Tryz.f177 [1, 1, 1, 1])],
  [], .run, .normal, none⟩,
 [⟨151, 111, (.n (.n .e (some (.slice (some ⟨0, 0, none⟩) 64 64)) .e) (some (.agg ⟨lstW x⟩)) (.n (.n .e (some (.pointer (some ⟨2, 0, none⟩))) .e) (some (.pointer (some ⟨1, 0, none⟩))) (.n .e none (.n .e (some (.slice (some ⟨0, 0, none⟩) 64 64)) .e)))),
  [.reg (rAt Tryz.f151 [1, 0]) (dropL 1 (rAt Tryz.f151 [1, 0]).toList), .code (cAt Tryz.f151 [1, 1])],
  [], .run, .normal, none⟩],
 ⟨(.n (.n (.n .e (some (.cells (t64 (fun _ => .int .u32 (.ofNat 0))) 64 235 false false)) .e) (some (.cells (t8 (nthW x)) 8 207 false false)) .e) (some (.cells (T.ofList (lst8 b 64 0)) 64 e true true)) (.n (.n .e (some (.cells (t64 (fun j => .int .u32 (.ofNat (w j)))) 64 235 false false)) .e) (some (.cells (t8 (fun _ => .int .u32 (.ofNat 0))) 8 207 false false)) .e)), 5⟩⟩
def S52 (e : TypeId) (x : W8) (b w : Nat → Nat) : AState := ⟨⟨177, 93, (.n (.n (.n .e (some (.pointer (some ⟨4, 0, none⟩))) .e) none (.n .e (some (.int .i64 (.ofNat 53))) .e)) none (.n .e (some (.pointer (some ⟨3, 0, none⟩))) .e)),
  [.inLoop (cAt Tryz.f177 [1, 1, 1, 0, 1, 0, 0]), .inBlock 2, .code (cAt Tryz.f177 [1, 1, 1, 1])],
  [], .run, .normal, none⟩,
 [⟨151, 111, (.n (.n .e (some (.slice (some ⟨0, 0, none⟩) 64 64)) .e) (some (.agg ⟨lstW x⟩)) (.n (.n .e (some (.pointer (some ⟨2, 0, none⟩))) .e) (some (.pointer (some ⟨1, 0, none⟩))) (.n .e none (.n .e (some (.slice (some ⟨0, 0, none⟩) 64 64)) .e)))),
  [.reg (rAt Tryz.f151 [1, 0]) (dropL 1 (rAt Tryz.f151 [1, 0]).toList), .code (cAt Tryz.f151 [1, 1])],
  [], .run, .normal, none⟩],
 ⟨(.n (.n (.n .e (some (.cells (t64 (fun _ => .int .u32 (.ofNat 0))) 64 235 false false)) .e) (some (.cells (t8 (nthW x)) 8 207 false false)) .e) (some (.cells (T.ofList (lst8 b 64 0)) 64 e true true)) (.n (.n .e (some (.cells (t64 (fun j => .int .u32 (.ofNat (w j)))) 64 235 false false)) .e) (some (.cells (t8 (fun _ => .int .u32 (.ofNat 0))) 8 207 false false)) .e)), 5⟩⟩
def S53 (e : TypeId) (x : W8) (b w : Nat → Nat) : AState := ⟨⟨177, 93, (.n (.n (.n .e (some (.pointer (some ⟨4, 0, none⟩))) .e) none (.n .e (some (.int .i64 (.ofNat 54))) .e)) none (.n .e (some (.pointer (some ⟨3, 0, none⟩))) .e)),
  [.inLoop (cAt Tryz.f177 [1, 1, 1, 0, 1, 0, 0]), .inBlock 2, .code (cAt Tryz.f177 [1, 1, 1, 1])],
  [], .run, .normal, none⟩,
 [⟨151, 111, (.n (.n .e (some (.slice (some ⟨0, 0, none⟩) 64 64)) .e) (some (.agg ⟨lstW x⟩)) (.n (.n .e (some (.pointer (some ⟨2, 0, none⟩))) .e) (some (.pointer (some ⟨1, 0, none⟩))) (.n .e none (.n .e (some (.slice (some ⟨0, 0, none⟩) 64 64)) .e)))),
  [.reg (rAt Tryz.f151 [1, 0]) (dropL 1 (rAt Tryz.f151 [1, 0]).toList), .code (cAt Tryz.f151 [1, 1])],
  [], .run, .normal, none⟩],
 ⟨(.n (.n (.n .e (some (.cells (t64 (fun _ => .int .u32 (.ofNat 0))) 64 235 false false)) .e) (some (.cells (t8 (nthW x)) 8 207 false false)) .e) (some (.cells (T.ofList (lst8 b 64 0)) 64 e true true)) (.n (.n .e (some (.cells (t64 (fun j => .int .u32 (.ofNat (w j)))) 64 235 false false)) .e) (some (.cells (t8 (fun _ => .int .u32 (.ofNat 0))) 8 207 false false)) .e)), 5⟩⟩
def S54 (e : TypeId) (x : W8) (b w : Nat → Nat) : AState := ⟨⟨177, 93, (.n (.n (.n .e (some (.pointer (some ⟨4, 0, none⟩))) .e) none (.n .e (some (.int .i64 (.ofNat 55))) .e)) none (.n .e (some (.pointer (some ⟨3, 0, none⟩))) .e)),
  [.inLoop (cAt Tryz.f177 [1, 1, 1, 0, 1, 0, 0]), .inBlock 2, .code (cAt Tryz.f177 [1, 1, 1, 1])],
  [], .run, .normal, none⟩,
 [⟨151, 111, (.n (.n .e (some (.slice (some ⟨0, 0, none⟩) 64 64)) .e) (some (.agg ⟨lstW x⟩)) (.n (.n .e (some (.pointer (some ⟨2, 0, none⟩))) .e) (some (.pointer (some ⟨1, 0, none⟩))) (.n .e none (.n .e (some (.slice (some ⟨0, 0, none⟩) 64 64)) .e)))),
  [.reg (rAt Tryz.f151 [1, 0]) (dropL 1 (rAt Tryz.f151 [1, 0]).toList), .code (cAt Tryz.f151 [1, 1])],
  [], .run, .normal, none⟩],
 ⟨(.n (.n (.n .e (some (.cells (t64 (fun _ => .int .u32 (.ofNat 0))) 64 235 false false)) .e) (some (.cells (t8 (nthW x)) 8 207 false false)) .e) (some (.cells (T.ofList (lst8 b 64 0)) 64 e true true)) (.n (.n .e (some (.cells (t64 (fun j => .int .u32 (.ofNat (w j)))) 64 235 false false)) .e) (some (.cells (t8 (fun _ => .int .u32 (.ofNat 0))) 8 207 false false)) .e)), 5⟩⟩
def S55 (e : TypeId) (x : W8) (b w : Nat → Nat) : AState := ⟨⟨177, 93, (.n (.n (.n .e (some (.pointer (some ⟨4, 0, none⟩))) .e) none (.n .e (some (.int .i64 (.ofNat 56))) .e)) none (.n .e (some (.pointer (some ⟨3, 0, none⟩))) .e)),
  [.inLoop (cAt Tryz.f177 [1, 1, 1, 0, 1, 0, 0]), .inBlock 2, .code (cAt Tryz.f177 [1, 1, 1, 1])],
  [], .run, .normal, none⟩,
 [⟨151, 111, (.n (.n .e (some (.slice (some ⟨0, 0, none⟩) 64 64)) .e) (some (.agg ⟨lstW x⟩)) (.n (.n .e (some (.pointer (some ⟨2, 0, none⟩))) .e) (some (.pointer (some ⟨1, 0, none⟩))) (.n .e none (.n .e (some (.slice (some ⟨0, 0, none⟩) 64 64)) .e)))),
  [.reg (rAt Tryz.f151 [1, 0]) (dropL 1 (rAt Tryz.f151 [1, 0]).toList), .code (cAt Tryz.f151 [1, 1])],
  [], .run, .normal, none⟩],
 ⟨(.n (.n (.n .e (some (.cells (t64 (fun _ => .int .u32 (.ofNat 0))) 64 235 false false)) .e) (some (.cells (t8 (nthW x)) 8 207 false false)) .e) (some (.cells (T.ofList (lst8 b 64 0)) 64 e true true)) (.n (.n .e (some (.cells (t64 (fun j => .int .u32 (.ofNat (w j)))) 64 235 false false)) .e) (some (.cells (t8 (fun _ => .int .u32 (.ofNat 0))) 8 207 false false)) .e)), 5⟩⟩
def S56 (e : TypeId) (x : W8) (b w : Nat → Nat) : AState := ⟨⟨177, 93, (.n (.n (.n .e (some (.pointer (some ⟨4, 0, none⟩))) .e) none (.n .e (some (.int .i64 (.ofNat 57))) .e)) none (.n .e (some (.pointer (some ⟨3, 0, none⟩))) .e)),
  [.inLoop (cAt Tryz.f177 [1, 1, 1, 0, 1, 0, 0]), .inBlock 2, .code (cAt Tryz.f177 [1, 1, 1, 1])],
  [], .run, .normal, none⟩,
 [⟨151, 111, (.n (.n .e (some (.slice (some ⟨0, 0, none⟩) 64 64)) .e) (some (.agg ⟨lstW x⟩)) (.n (.n .e (some (.pointer (some ⟨2, 0, none⟩))) .e) (some (.pointer (some ⟨1, 0, none⟩))) (.n .e none (.n .e (some (.slice (some ⟨0, 0, none⟩) 64 64)) .e)))),
  [.reg (rAt Tryz.f151 [1, 0]) (dropL 1 (rAt Tryz.f151 [1, 0]).toList), .code (cAt Tryz.f151 [1, 1])],
  [], .run, .normal, none⟩],
 ⟨(.n (.n (.n .e (some (.cells (t64 (fun _ => .int .u32 (.ofNat 0))) 64 235 false false)) .e) (some (.cells (t8 (nthW x)) 8 207 false false)) .e) (some (.cells (T.ofList (lst8 b 64 0)) 64 e true true)) (.n (.n .e (some (.cells (t64 (fun j => .int .u32 (.ofNat (w j)))) 64 235 false false)) .e) (some (.cells (t8 (fun _ => .int .u32 (.ofNat 0))) 8 207 false false)) .e)), 5⟩⟩
def S57 (e : TypeId) (x : W8) (b w : Nat → Nat) : AState := ⟨⟨177, 93, (.n (.n (.n .e (some (.pointer (some ⟨4, 0, none⟩))) .e) none (.n .e (some (.int .i64 (.ofNat 58))) .e)) none (.n .e (some (.pointer (some ⟨3, 0, none⟩))) .e)),
  [.inLoop (cAt Tryz.f177 [1, 1, 1, 0, 1, 0, 0]), .inBlock 2, .code (cAt Tryz.f177 [1, 1, 1, 1])],
  [], .run, .normal, none⟩,
 [⟨151, 111, (.n (.n .e (some (.slice (some ⟨0, 0, none⟩) 64 64)) .e) (some (.agg ⟨lstW x⟩)) (.n (.n .e (some (.pointer (some ⟨2, 0, none⟩))) .e) (some (.pointer (some ⟨1, 0, none⟩))) (.n .e none (.n .e (some (.slice (some ⟨0, 0, none⟩) 64 64)) .e)))),
  [.reg (rAt Tryz.f151 [1, 0]) (dropL 1 (rAt Tryz.f151 [1, 0]).toList), .code (cAt Tryz.f151 [1, 1])],
  [], .run, .normal, none⟩],
 ⟨(.n (.n (.n .e (some (.cells (t64 (fun _ => .int .u32 (.ofNat 0))) 64 235 false false)) .e) (some (.cells (t8 (nthW x)) 8 207 false false)) .e) (some (.cells (T.ofList (lst8 b 64 0)) 64 e true true)) (.n (.n .e (some (.cells (t64 (fun j => .int .u32 (.ofNat (w j)))) 64 235 false false)) .e) (some (.cells (t8 (fun _ => .int .u32 (.ofNat 0))) 8 207 false false)) .e)), 5⟩⟩
def S58 (e : TypeId) (x : W8) (b w : Nat → Nat) : AState := ⟨⟨177, 93, (.n (.n (.n .e (some (.pointer (some ⟨4, 0, none⟩))) .e) none (.n .e (some (.int .i64 (.ofNat 59))) .e)) none (.n .e (some (.pointer (some ⟨3, 0, none⟩))) .e)),
  [.inLoop (cAt Tryz.f177 [1, 1, 1, 0, 1, 0, 0]), .inBlock 2, .code (cAt Tryz.f177 [1, 1, 1, 1])],
  [], .run, .normal, none⟩,
 [⟨151, 111, (.n (.n .e (some (.slice (some ⟨0, 0, none⟩) 64 64)) .e) (some (.agg ⟨lstW x⟩)) (.n (.n .e (some (.pointer (some ⟨2, 0, none⟩))) .e) (some (.pointer (some ⟨1, 0, none⟩))) (.n .e none (.n .e (some (.slice (some ⟨0, 0, none⟩) 64 64)) .e)))),
  [.reg (rAt Tryz.f151 [1, 0]) (dropL 1 (rAt Tryz.f151 [1, 0]).toList), .code (cAt Tryz.f151 [1, 1])],
  [], .run, .normal, none⟩],
 ⟨(.n (.n (.n .e (some (.cells (t64 (fun _ => .int .u32 (.ofNat 0))) 64 235 false false)) .e) (some (.cells (t8 (nthW x)) 8 207 false false)) .e) (some (.cells (T.ofList (lst8 b 64 0)) 64 e true true)) (.n (.n .e (some (.cells (t64 (fun j => .int .u32 (.ofNat (w j)))) 64 235 false false)) .e) (some (.cells (t8 (fun _ => .int .u32 (.ofNat 0))) 8 207 false false)) .e)), 5⟩⟩
def S59 (e : TypeId) (x : W8) (b w : Nat → Nat) : AState := ⟨⟨177, 93, (.n (.n (.n .e (some (.pointer (some ⟨4, 0, none⟩))) .e) none (.n .e (some (.int .i64 (.ofNat 60))) .e)) none (.n .e (some (.pointer (some ⟨3, 0, none⟩))) .e)),
  [.inLoop (cAt Tryz.f177 [1, 1, 1, 0, 1, 0, 0]), .inBlock 2, .code (cAt Tryz.f177 [1, 1, 1, 1])],
  [], .run, .normal, none⟩,
 [⟨151, 111, (.n (.n .e (some (.slice (some ⟨0, 0, none⟩) 64 64)) .e) (some (.agg ⟨lstW x⟩)) (.n (.n .e (some (.pointer (some ⟨2, 0, none⟩))) .e) (some (.pointer (some ⟨1, 0, none⟩))) (.n .e none (.n .e (some (.slice (some ⟨0, 0, none⟩) 64 64)) .e)))),
  [.reg (rAt Tryz.f151 [1, 0]) (dropL 1 (rAt Tryz.f151 [1, 0]).toList), .code (cAt Tryz.f151 [1, 1])],
  [], .run, .normal, none⟩],
 ⟨(.n (.n (.n .e (some (.cells (t64 (fun _ => .int .u32 (.ofNat 0))) 64 235 false false)) .e) (some (.cells (t8 (nthW x)) 8 207 false false)) .e) (some (.cells (T.ofList (lst8 b 64 0)) 64 e true true)) (.n (.n .e (some (.cells (t64 (fun j => .int .u32 (.ofNat (w j)))) 64 235 false false)) .e) (some (.cells (t8 (fun _ => .int .u32 (.ofNat 0))) 8 207 false false)) .e)), 5⟩⟩
def S60 (e : TypeId) (x : W8) (b w : Nat → Nat) : AState := ⟨⟨177, 93, (.n (.n (.n .e (some (.pointer (some ⟨4, 0, none⟩))) .e) none (.n .e (some (.int .i64 (.ofNat 61))) .e)) none (.n .e (some (.pointer (some ⟨3, 0, none⟩))) .e)),
  [.inLoop (cAt Tryz.f177 [1, 1, 1, 0, 1, 0, 0]), .inBlock 2, .code (cAt Tryz.f177 [1, 1, 1, 1])],
  [], .run, .normal, none⟩,
 [⟨151, 111, (.n (.n .e (some (.slice (some ⟨0, 0, none⟩) 64 64)) .e) (some (.agg ⟨lstW x⟩)) (.n (.n .e (some (.pointer (some ⟨2, 0, none⟩))) .e) (some (.pointer (some ⟨1, 0, none⟩))) (.n .e none (.n .e (some (.slice (some ⟨0, 0, none⟩) 64 64)) .e)))),
  [.reg (rAt Tryz.f151 [1, 0]) (dropL 1 (rAt Tryz.f151 [1, 0]).toList), .code (cAt Tryz.f151 [1, 1])],
  [], .run, .normal, none⟩],
 ⟨(.n (.n (.n .e (some (.cells (t64 (fun _ => .int .u32 (.ofNat 0))) 64 235 false false)) .e) (some (.cells (t8 (nthW x)) 8 207 false false)) .e) (some (.cells (T.ofList (lst8 b 64 0)) 64 e true true)) (.n (.n .e (some (.cells (t64 (fun j => .int .u32 (.ofNat (w j)))) 64 235 false false)) .e) (some (.cells (t8 (fun _ => .int .u32 (.ofNat 0))) 8 207 false false)) .e)), 5⟩⟩
def S61 (e : TypeId) (x : W8) (b w : Nat → Nat) : AState := ⟨⟨177, 93, (.n (.n (.n .e (some (.pointer (some ⟨4, 0, none⟩))) .e) none (.n .e (some (.int .i64 (.ofNat 62))) .e)) none (.n .e (some (.pointer (some ⟨3, 0, none⟩))) .e)),
  [.inLoop (cAt Tryz.f177 [1, 1, 1, 0, 1, 0, 0]), .inBlock 2, .code (cAt Tryz.f177 [1, 1, 1, 1])],
  [], .run, .normal, none⟩,
 [⟨151, 111, (.n (.n .e (some (.slice (some ⟨0, 0, none⟩) 64 64)) .e) (some (.agg ⟨lstW x⟩)) (.n (.n .e (some (.pointer (some ⟨2, 0, none⟩))) .e) (some (.pointer (some ⟨1, 0, none⟩))) (.n .e none (.n .e (some (.slice (some ⟨0, 0, none⟩) 64 64)) .e)))),
  [.reg (rAt Tryz.f151 [1, 0]) (dropL 1 (rAt Tryz.f151 [1, 0]).toList), .code (cAt Tryz.f151 [1, 1])],
  [], .run, .normal, none⟩],
 ⟨(.n (.n (.n .e (some (.cells (t64 (fun _ => .int .u32 (.ofNat 0))) 64 235 false false)) .e) (some (.cells (t8 (nthW x)) 8 207 false false)) .e) (some (.cells (T.ofList (lst8 b 64 0)) 64 e true true)) (.n (.n .e (some (.cells (t64 (fun j => .int .u32 (.ofNat (w j)))) 64 235 false false)) .e) (some (.cells (t8 (fun _ => .int .u32 (.ofNat 0))) 8 207 false false)) .e)), 5⟩⟩
def S62 (e : TypeId) (x : W8) (b w : Nat → Nat) : AState := ⟨⟨177, 93, (.n (.n (.n .e (some (.pointer (some ⟨4, 0, none⟩))) .e) none (.n .e (some (.int .i64 (.ofNat 63))) .e)) none (.n .e (some (.pointer (some ⟨3, 0, none⟩))) .e)),
  [.inLoop (cAt Tryz.f177 [1, 1, 1, 0, 1, 0, 0]), .inBlock 2, .code (cAt Tryz.f177 [1, 1, 1, 1])],
  [], .run, .normal, none⟩,
 [⟨151, 111, (.n (.n .e (some (.slice (some ⟨0, 0, none⟩) 64 64)) .e) (some (.agg ⟨lstW x⟩)) (.n (.n .e (some (.pointer (some ⟨2, 0, none⟩))) .e) (some (.pointer (some ⟨1, 0, none⟩))) (.n .e none (.n .e (some (.slice (some ⟨0, 0, none⟩) 64 64)) .e)))),
  [.reg (rAt Tryz.f151 [1, 0]) (dropL 1 (rAt Tryz.f151 [1, 0]).toList), .code (cAt Tryz.f151 [1, 1])],
  [], .run, .normal, none⟩],
 ⟨(.n (.n (.n .e (some (.cells (t64 (fun _ => .int .u32 (.ofNat 0))) 64 235 false false)) .e) (some (.cells (t8 (nthW x)) 8 207 false false)) .e) (some (.cells (T.ofList (lst8 b 64 0)) 64 e true true)) (.n (.n .e (some (.cells (t64 (fun j => .int .u32 (.ofNat (w j)))) 64 235 false false)) .e) (some (.cells (t8 (fun _ => .int .u32 (.ofNat 0))) 8 207 false false)) .e)), 5⟩⟩
def S63 (e : TypeId) (x : W8) (b w : Nat → Nat) : AState := ⟨⟨177, 93, (.n (.n (.n .e (some (.pointer (some ⟨4, 0, none⟩))) .e) none (.n .e (some (.int .i64 (.ofNat 64))) .e)) none (.n .e (some (.pointer (some ⟨3, 0, none⟩))) .e)),
  [.inLoop (cAt Tryz.f177 [1, 1, 1, 0, 1, 0, 0]), .inBlock 2, .code (cAt Tryz.f177 [1, 1, 1, 1])],
  [], .run, .normal, none⟩,
 [⟨151, 111, (.n (.n .e (some (.slice (some ⟨0, 0, none⟩) 64 64)) .e) (some (.agg ⟨lstW x⟩)) (.n (.n .e (some (.pointer (some ⟨2, 0, none⟩))) .e) (some (.pointer (some ⟨1, 0, none⟩))) (.n .e none (.n .e (some (.slice (some ⟨0, 0, none⟩) 64 64)) .e)))),
  [.reg (rAt Tryz.f151 [1, 0]) (dropL 1 (rAt Tryz.f151 [1, 0]).toList), .code (cAt Tryz.f151 [1, 1])],
  [], .run, .normal, none⟩],
 ⟨(.n (.n (.n .e (some (.cells (t64 (fun _ => .int .u32 (.ofNat 0))) 64 235 false false)) .e) (some (.cells (t8 (nthW x)) 8 207 false false)) .e) (some (.cells (T.ofList (lst8 b 64 0)) 64 e true true)) (.n (.n .e (some (.cells (t64 (fun j => .int .u32 (.ofNat (w j)))) 64 235 false false)) .e) (some (.cells (t8 (fun _ => .int .u32 (.ofNat 0))) 8 207 false false)) .e)), 5⟩⟩
def N0 (x r : W8) (w : Nat → Nat) : AState := ⟨⟨151, 111, (.n (.n (.n (.n .e (some (.pointer (some ⟨8, 0, none⟩))) .e) none .e) none (.n .e (some (.pointer (some ⟨6, 0, none⟩))) .e)) none (.n (.n .e (some (.pointer (some ⟨2, 0, none⟩))) .e) (some (.pointer (some ⟨1, 0, none⟩))) (.n (.n (.n .e (some (.int .i64 (.ofNat 1))) .e) none .e) (some (.pointer (some ⟨7, 0, none⟩))) .e))),
  [.inLoop (cAt Tryz.f151 [1, 1, 1, 0, 1, 0, 0]), .inBlock 0, .code (cAt Tryz.f151 [1, 1, 1, 1])],
  [], .run, .normal, none⟩,
 [],
 ⟨(.n (.n (.n (.n .e (some (.cells (t64 (fun j => .int .u32 (.ofNat (nthN hK j)))) 64 235 false false)) .e) none .e) (some (.cells (t8 (nthW x)) 8 207 false false)) .e) none (.n (.n (.n .e (some (.cells (t8 (nthW r)) 8 207 false false)) .e) none .e) (some (.cells (t8 (fun _ => .int .u32 (.ofNat 0))) 8 207 false false)) (.n .e (some (.cells (t64 (fun j => .int .u32 (.ofNat (w j)))) 64 235 false false)) .e))), 9⟩⟩
def N7 (x r : W8) (w : Nat → Nat) : AState := ⟨⟨151, 111, (.n (.n (.n (.n .e (some (.pointer (some ⟨8, 0, none⟩))) .e) none .e) none (.n .e (some (.pointer (some ⟨6, 0, none⟩))) .e)) none (.n (.n .e (some (.pointer (some ⟨2, 0, none⟩))) .e) (some (.pointer (some ⟨1, 0, none⟩))) (.n (.n (.n .e (some (.int .i64 (.ofNat 8))) .e) none .e) (some (.pointer (some ⟨7, 0, none⟩))) .e))),
  [.inLoop (cAt Tryz.f151 [1, 1, 1, 0, 1, 0, 0]), .inBlock 0, .code (cAt Tryz.f151 [1, 1, 1, 1])],
  [], .run, .normal, none⟩,
 [],
 ⟨(.n (.n (.n (.n .e (some (.cells (t64 (fun j => .int .u32 (.ofNat (nthN hK j)))) 64 235 false false)) .e) none .e) (some (.cells (t8 (nthW x)) 8 207 false false)) .e) none (.n (.n (.n .e (some (.cells (t8 (nthW r)) 8 207 false false)) .e) none .e) (some (.cells (t8 (fun _ => .int .u32 (.ofNat 0))) 8 207 false false)) (.n .e (some (.cells (t64 (fun j => .int .u32 (.ofNat (w j)))) 64 235 false false)) .e))), 9⟩⟩
def N14 (x r : W8) (w : Nat → Nat) : AState := ⟨⟨151, 111, (.n (.n (.n (.n .e (some (.pointer (some ⟨8, 0, none⟩))) .e) none .e) none (.n .e (some (.pointer (some ⟨6, 0, none⟩))) .e)) none (.n (.n .e (some (.pointer (some ⟨2, 0, none⟩))) .e) (some (.pointer (some ⟨1, 0, none⟩))) (.n (.n (.n .e (some (.int .i64 (.ofNat 15))) .e) none .e) (some (.pointer (some ⟨7, 0, none⟩))) .e))),
  [.inLoop (cAt Tryz.f151 [1, 1, 1, 0, 1, 0, 0]), .inBlock 0, .code (cAt Tryz.f151 [1, 1, 1, 1])],
  [], .run, .normal, none⟩,
 [],
 ⟨(.n (.n (.n (.n .e (some (.cells (t64 (fun j => .int .u32 (.ofNat (nthN hK j)))) 64 235 false false)) .e) none .e) (some (.cells (t8 (nthW x)) 8 207 false false)) .e) none (.n (.n (.n .e (some (.cells (t8 (nthW r)) 8 207 false false)) .e) none .e) (some (.cells (t8 (fun _ => .int .u32 (.ofNat 0))) 8 207 false false)) (.n .e (some (.cells (t64 (fun j => .int .u32 (.ofNat (w j)))) 64 235 false false)) .e))), 9⟩⟩
def N21 (x r : W8) (w : Nat → Nat) : AState := ⟨⟨151, 111, (.n (.n (.n (.n .e (some (.pointer (some ⟨8, 0, none⟩))) .e) none .e) none (.n .e (some (.pointer (some ⟨6, 0, none⟩))) .e)) none (.n (.n .e (some (.pointer (some ⟨2, 0, none⟩))) .e) (some (.pointer (some ⟨1, 0, none⟩))) (.n (.n (.n .e (some (.int .i64 (.ofNat 22))) .e) none .e) (some (.pointer (some ⟨7, 0, none⟩))) .e))),
  [.inLoop (cAt Tryz.f151 [1, 1, 1, 0, 1, 0, 0]), .inBlock 0, .code (cAt Tryz.f151 [1, 1, 1, 1])],
  [], .run, .normal, none⟩,
 [],
 ⟨(.n (.n (.n (.n .e (some (.cells (t64 (fun j => .int .u32 (.ofNat (nthN hK j)))) 64 235 false false)) .e) none .e) (some (.cells (t8 (nthW x)) 8 207 false false)) .e) none (.n (.n (.n .e (some (.cells (t8 (nthW r)) 8 207 false false)) .e) none .e) (some (.cells (t8 (fun _ => .int .u32 (.ofNat 0))) 8 207 false false)) (.n .e (some (.cells (t64 (fun j => .int .u32 (.ofNat (w j)))) 64 235 false false)) .e))), 9⟩⟩
def N28 (x r : W8) (w : Nat → Nat) : AState := ⟨⟨151, 111, (.n (.n (.n (.n .e (some (.pointer (some ⟨8, 0, none⟩))) .e) none .e) none (.n .e (some (.pointer (some ⟨6, 0, none⟩))) .e)) none (.n (.n .e (some (.pointer (some ⟨2, 0, none⟩))) .e) (some (.pointer (some ⟨1, 0, none⟩))) (.n (.n (.n .e (some (.int .i64 (.ofNat 29))) .e) none .e) (some (.pointer (some ⟨7, 0, none⟩))) .e))),
  [.inLoop (cAt Tryz.f151 [1, 1, 1, 0, 1, 0, 0]), .inBlock 0, .code (cAt Tryz.f151 [1, 1, 1, 1])],
  [], .run, .normal, none⟩,
 [],
 ⟨(.n (.n (.n (.n .e (some (.cells (t64 (fun j => .int .u32 (.ofNat (nthN hK j)))) 64 235 false false)) .e) none .e) (some (.cells (t8 (nthW x)) 8 207 false false)) .e) none (.n (.n (.n .e (some (.cells (t8 (nthW r)) 8 207 false false)) .e) none .e) (some (.cells (t8 (fun _ => .int .u32 (.ofNat 0))) 8 207 false false)) (.n .e (some (.cells (t64 (fun j => .int .u32 (.ofNat (w j)))) 64 235 false false)) .e))), 9⟩⟩
def N35 (x r : W8) (w : Nat → Nat) : AState := ⟨⟨151, 111, (.n (.n (.n (.n .e (some (.pointer (some ⟨8, 0, none⟩))) .e) none .e) none (.n .e (some (.pointer (some ⟨6, 0, none⟩))) .e)) none (.n (.n .e (some (.pointer (some ⟨2, 0, none⟩))) .e) (some (.pointer (some ⟨1, 0, none⟩))) (.n (.n (.n .e (some (.int .i64 (.ofNat 36))) .e) none .e) (some (.pointer (some ⟨7, 0, none⟩))) .e))),
  [.inLoop (cAt Tryz.f151 [1, 1, 1, 0, 1, 0, 0]), .inBlock 0, .code (cAt Tryz.f151 [1, 1, 1, 1])],
  [], .run, .normal, none⟩,
 [],
 ⟨(.n (.n (.n (.n .e (some (.cells (t64 (fun j => .int .u32 (.ofNat (nthN hK j)))) 64 235 false false)) .e) none .e) (some (.cells (t8 (nthW x)) 8 207 false false)) .e) none (.n (.n (.n .e (some (.cells (t8 (nthW r)) 8 207 false false)) .e) none .e) (some (.cells (t8 (fun _ => .int .u32 (.ofNat 0))) 8 207 false false)) (.n .e (some (.cells (t64 (fun j => .int .u32 (.ofNat (w j)))) 64 235 false false)) .e))), 9⟩⟩
def N42 (x r : W8) (w : Nat → Nat) : AState := ⟨⟨151, 111, (.n (.n (.n (.n .e (some (.pointer (some ⟨8, 0, none⟩))) .e) none .e) none (.n .e (some (.pointer (some ⟨6, 0, none⟩))) .e)) none (.n (.n .e (some (.pointer (some ⟨2, 0, none⟩))) .e) (some (.pointer (some ⟨1, 0, none⟩))) (.n (.n (.n .e (some (.int .i64 (.ofNat 43))) .e) none .e) (some (.pointer (some ⟨7, 0, none⟩))) .e))),
  [.inLoop (cAt Tryz.f151 [1, 1, 1, 0, 1, 0, 0]), .inBlock 0, .code (cAt Tryz.f151 [1, 1, 1, 1])],
  [], .run, .normal, none⟩,
 [],
 ⟨(.n (.n (.n (.n .e (some (.cells (t64 (fun j => .int .u32 (.ofNat (nthN hK j)))) 64 235 false false)) .e) none .e) (some (.cells (t8 (nthW x)) 8 207 false false)) .e) none (.n (.n (.n .e (some (.cells (t8 (nthW r)) 8 207 false false)) .e) none .e) (some (.cells (t8 (fun _ => .int .u32 (.ofNat 0))) 8 207 false false)) (.n .e (some (.cells (t64 (fun j => .int .u32 (.ofNat (w j)))) 64 235 false false)) .e))), 9⟩⟩
def N49 (x r : W8) (w : Nat → Nat) : AState := ⟨⟨151, 111, (.n (.n (.n (.n .e (some (.pointer (some ⟨8, 0, none⟩))) .e) none .e) none (.n .e (some (.pointer (some ⟨6, 0, none⟩))) .e)) none (.n (.n .e (some (.pointer (some ⟨2, 0, none⟩))) .e) (some (.pointer (some ⟨1, 0, none⟩))) (.n (.n (.n .e (some (.int .i64 (.ofNat 50))) .e) none .e) (some (.pointer (some ⟨7, 0, none⟩))) .e))),
  [.inLoop (cAt Tryz.f151 [1, 1, 1, 0, 1, 0, 0]), .inBlock 0, .code (cAt Tryz.f151 [1, 1, 1, 1])],
  [], .run, .normal, none⟩,
 [],
 ⟨(.n (.n (.n (.n .e (some (.cells (t64 (fun j => .int .u32 (.ofNat (nthN hK j)))) 64 235 false false)) .e) none .e) (some (.cells (t8 (nthW x)) 8 207 false false)) .e) none (.n (.n (.n .e (some (.cells (t8 (nthW r)) 8 207 false false)) .e) none .e) (some (.cells (t8 (fun _ => .int .u32 (.ofNat 0))) 8 207 false false)) (.n .e (some (.cells (t64 (fun j => .int .u32 (.ofNat (w j)))) 64 235 false false)) .e))), 9⟩⟩
def N56 (x r : W8) (w : Nat → Nat) : AState := ⟨⟨151, 111, (.n (.n (.n (.n .e (some (.pointer (some ⟨8, 0, none⟩))) .e) none .e) none (.n .e (some (.pointer (some ⟨6, 0, none⟩))) .e)) none (.n (.n .e (some (.pointer (some ⟨2, 0, none⟩))) .e) (some (.pointer (some ⟨1, 0, none⟩))) (.n (.n (.n .e (some (.int .i64 (.ofNat 57))) .e) none .e) (some (.pointer (some ⟨7, 0, none⟩))) .e))),
  [.inLoop (cAt Tryz.f151 [1, 1, 1, 0, 1, 0, 0]), .inBlock 0, .code (cAt Tryz.f151 [1, 1, 1, 1])],
  [], .run, .normal, none⟩,
 [],
 ⟨(.n (.n (.n (.n .e (some (.cells (t64 (fun j => .int .u32 (.ofNat (nthN hK j)))) 64 235 false false)) .e) none .e) (some (.cells (t8 (nthW x)) 8 207 false false)) .e) none (.n (.n (.n .e (some (.cells (t8 (nthW r)) 8 207 false false)) .e) none .e) (some (.cells (t8 (fun _ => .int .u32 (.ofNat 0))) 8 207 false false)) (.n .e (some (.cells (t64 (fun j => .int .u32 (.ofNat (w j)))) 64 235 false false)) .e))), 9⟩⟩
def N63 (x r : W8) : AState := ⟨⟨151, 111, (.n (.n (.n (.n .e (some (.pointer (some ⟨8, 0, none⟩))) .e) none .e) none .e) none (.n (.n .e (some (.pointer (some ⟨2, 0, none⟩))) .e) (some (.pointer (some ⟨1, 0, none⟩))) (.n (.n (.n .e (some (.int .i64 (.ofNat 64))) .e) none .e) none .e))),
  [.inLoop (cAt Tryz.f151 [1, 1, 1, 0, 1, 0, 0]), .inBlock 0, .code (cAt Tryz.f151 [1, 1, 1, 1])],
  [], .run, .normal, none⟩,
 [],
 ⟨(.n (.n .e (some (.cells (t8 (nthW x)) 8 207 false false)) .e) none (.n (.n (.n .e (some (.cells (t8 (nthW r)) 8 207 false false)) .e) none .e) (some (.cells (t8 (fun _ => .int .u32 (.ofNat 0))) 8 207 false false)) .e)), 9⟩⟩

def frD (x n : Nat) : AFrame := ⟨179, 9, T.ofList [.int .u32 (.ofNat x), .int .i64 (.ofNat n)], [.code (cAt Tryz.f179 [])], [], .run, .normal, none⟩
theorem d2 (x : Nat) : @enterA sF C0 179 [.int .u32 (.ofNat x), .int .i64 (.ofNat 2)] .normal = some (frD x 2) := by kernel_rfl
theorem t2 (x : Nat) : @lastA sF C0 179 100 ⟨frD x 2, [], ⟨.e, 0⟩⟩ = some (.int .u32 (.ofNat (hdown x 2))) := by kernel_rfl
theorem d6 (x : Nat) : @enterA sF C0 179 [.int .u32 (.ofNat x), .int .i64 (.ofNat 6)] .normal = some (frD x 6) := by kernel_rfl
theorem t6 (x : Nat) : @lastA sF C0 179 100 ⟨frD x 6, [], ⟨.e, 0⟩⟩ = some (.int .u32 (.ofNat (hdown x 6))) := by kernel_rfl
theorem d7 (x : Nat) : @enterA sF C0 179 [.int .u32 (.ofNat x), .int .i64 (.ofNat 7)] .normal = some (frD x 7) := by kernel_rfl
theorem t7 (x : Nat) : @lastA sF C0 179 100 ⟨frD x 7, [], ⟨.e, 0⟩⟩ = some (.int .u32 (.ofNat (hdown x 7))) := by kernel_rfl
theorem d11 (x : Nat) : @enterA sF C0 179 [.int .u32 (.ofNat x), .int .i64 (.ofNat 11)] .normal = some (frD x 11) := by kernel_rfl
theorem t11 (x : Nat) : @lastA sF C0 179 100 ⟨frD x 11, [], ⟨.e, 0⟩⟩ = some (.int .u32 (.ofNat (hdown x 11))) := by kernel_rfl
theorem d13 (x : Nat) : @enterA sF C0 179 [.int .u32 (.ofNat x), .int .i64 (.ofNat 13)] .normal = some (frD x 13) := by kernel_rfl
theorem t13 (x : Nat) : @lastA sF C0 179 100 ⟨frD x 13, [], ⟨.e, 0⟩⟩ = some (.int .u32 (.ofNat (hdown x 13))) := by kernel_rfl
theorem d17 (x : Nat) : @enterA sF C0 179 [.int .u32 (.ofNat x), .int .i64 (.ofNat 17)] .normal = some (frD x 17) := by kernel_rfl
theorem t17 (x : Nat) : @lastA sF C0 179 100 ⟨frD x 17, [], ⟨.e, 0⟩⟩ = some (.int .u32 (.ofNat (hdown x 17))) := by kernel_rfl
theorem d18 (x : Nat) : @enterA sF C0 179 [.int .u32 (.ofNat x), .int .i64 (.ofNat 18)] .normal = some (frD x 18) := by kernel_rfl
theorem t18 (x : Nat) : @lastA sF C0 179 100 ⟨frD x 18, [], ⟨.e, 0⟩⟩ = some (.int .u32 (.ofNat (hdown x 18))) := by kernel_rfl
theorem d19 (x : Nat) : @enterA sF C0 179 [.int .u32 (.ofNat x), .int .i64 (.ofNat 19)] .normal = some (frD x 19) := by kernel_rfl
theorem t19 (x : Nat) : @lastA sF C0 179 100 ⟨frD x 19, [], ⟨.e, 0⟩⟩ = some (.int .u32 (.ofNat (hdown x 19))) := by kernel_rfl
theorem d22 (x : Nat) : @enterA sF C0 179 [.int .u32 (.ofNat x), .int .i64 (.ofNat 22)] .normal = some (frD x 22) := by kernel_rfl
theorem t22 (x : Nat) : @lastA sF C0 179 100 ⟨frD x 22, [], ⟨.e, 0⟩⟩ = some (.int .u32 (.ofNat (hdown x 22))) := by kernel_rfl
theorem d25 (x : Nat) : @enterA sF C0 179 [.int .u32 (.ofNat x), .int .i64 (.ofNat 25)] .normal = some (frD x 25) := by kernel_rfl
theorem t25 (x : Nat) : @lastA sF C0 179 100 ⟨frD x 25, [], ⟨.e, 0⟩⟩ = some (.int .u32 (.ofNat (hdown x 25))) := by kernel_rfl
theorem gS0 (e : TypeId) (x : W8) (b : Nat → Nat) : @segT sF CS 56 [0, 1, 2, 3, 4] [0, 2, 3, 10] (start e x b) = some (S0 e x b (hinit 1 0 b hzero)) := by kernel_rfl
theorem gS3 (e : TypeId) (x : W8) (b w : Nat → Nat) : @segT sF CS 138 [0, 1, 2, 3, 4] [0, 2, 3, 10] (S0 e x b w) = some (S3 e x b (hinit 3 1 b w)) := by kernel_rfl
theorem gS7 (e : TypeId) (x : W8) (b w : Nat → Nat) : @segT sF CS 184 [0, 1, 2, 3, 4] [0, 2, 3, 10] (S3 e x b w) = some (S7 e x b (hinit 4 4 b w)) := by kernel_rfl
theorem gS11 (e : TypeId) (x : W8) (b w : Nat → Nat) : @segT sF CS 184 [0, 1, 2, 3, 4] [0, 2, 3, 10] (S7 e x b w) = some (S11 e x b (hinit 4 8 b w)) := by kernel_rfl
theorem gS15 (e : TypeId) (x : W8) (b w : Nat → Nat) : @segT sF CS 184 [0, 1, 2, 3, 4] [2, 3, 10] (S11 e x b w) = some (S15 e x b (hinit 4 12 b w)) := by kernel_rfl
theorem gS16 (e : TypeId) (x : W8) (b w : Nat → Nat) : @segT sF CS 109 [0, 1, 2, 3, 4] [2, 3, 5] (S15 e x b w) = some (S16 e x b (hsteps 1 16 w)) := by kernel_rfl
theorem gS17 (e : TypeId) (x : W8) (b w : Nat → Nat) : @segT sF CS 104 [0, 1, 2, 3, 4] [2, 3, 5] (S16 e x b w) = some (S17 e x b (hsteps 1 17 w)) := by kernel_rfl
theorem gS18 (e : TypeId) (x : W8) (b w : Nat → Nat) : @segT sF CS 104 [0, 1, 2, 3, 4] [2, 3, 5] (S17 e x b w) = some (S18 e x b (hsteps 1 18 w)) := by kernel_rfl
theorem gS19 (e : TypeId) (x : W8) (b w : Nat → Nat) : @segT sF CS 104 [0, 1, 2, 3, 4] [2, 3, 5] (S18 e x b w) = some (S19 e x b (hsteps 1 19 w)) := by kernel_rfl
theorem gS20 (e : TypeId) (x : W8) (b w : Nat → Nat) : @segT sF CS 104 [0, 1, 2, 3, 4] [2, 3, 5] (S19 e x b w) = some (S20 e x b (hsteps 1 20 w)) := by kernel_rfl
theorem gS21 (e : TypeId) (x : W8) (b w : Nat → Nat) : @segT sF CS 104 [0, 1, 2, 3, 4] [2, 3, 5] (S20 e x b w) = some (S21 e x b (hsteps 1 21 w)) := by kernel_rfl
theorem gS22 (e : TypeId) (x : W8) (b w : Nat → Nat) : @segT sF CS 104 [0, 1, 2, 3, 4] [2, 3, 5] (S21 e x b w) = some (S22 e x b (hsteps 1 22 w)) := by kernel_rfl
theorem gS23 (e : TypeId) (x : W8) (b w : Nat → Nat) : @segT sF CS 104 [0, 1, 2, 3, 4] [2, 3, 5] (S22 e x b w) = some (S23 e x b (hsteps 1 23 w)) := by kernel_rfl
theorem gS24 (e : TypeId) (x : W8) (b w : Nat → Nat) : @segT sF CS 104 [0, 1, 2, 3, 4] [2, 3, 5] (S23 e x b w) = some (S24 e x b (hsteps 1 24 w)) := by kernel_rfl
theorem gS25 (e : TypeId) (x : W8) (b w : Nat → Nat) : @segT sF CS 104 [0, 1, 2, 3, 4] [2, 3, 5] (S24 e x b w) = some (S25 e x b (hsteps 1 25 w)) := by kernel_rfl
theorem gS26 (e : TypeId) (x : W8) (b w : Nat → Nat) : @segT sF CS 104 [0, 1, 2, 3, 4] [2, 3, 5] (S25 e x b w) = some (S26 e x b (hsteps 1 26 w)) := by kernel_rfl
theorem gS27 (e : TypeId) (x : W8) (b w : Nat → Nat) : @segT sF CS 104 [0, 1, 2, 3, 4] [2, 3, 5] (S26 e x b w) = some (S27 e x b (hsteps 1 27 w)) := by kernel_rfl
theorem gS28 (e : TypeId) (x : W8) (b w : Nat → Nat) : @segT sF CS 104 [0, 1, 2, 3, 4] [2, 3, 5] (S27 e x b w) = some (S28 e x b (hsteps 1 28 w)) := by kernel_rfl
theorem gS29 (e : TypeId) (x : W8) (b w : Nat → Nat) : @segT sF CS 104 [0, 1, 2, 3, 4] [2, 3, 5] (S28 e x b w) = some (S29 e x b (hsteps 1 29 w)) := by kernel_rfl
theorem gS30 (e : TypeId) (x : W8) (b w : Nat → Nat) : @segT sF CS 104 [0, 1, 2, 3, 4] [2, 3, 5] (S29 e x b w) = some (S30 e x b (hsteps 1 30 w)) := by kernel_rfl
theorem gS31 (e : TypeId) (x : W8) (b w : Nat → Nat) : @segT sF CS 104 [0, 1, 2, 3, 4] [2, 3, 5] (S30 e x b w) = some (S31 e x b (hsteps 1 31 w)) := by kernel_rfl
theorem gS32 (e : TypeId) (x : W8) (b w : Nat → Nat) : @segT sF CS 104 [0, 1, 2, 3, 4] [2, 3, 5] (S31 e x b w) = some (S32 e x b (hsteps 1 32 w)) := by kernel_rfl
theorem gS33 (e : TypeId) (x : W8) (b w : Nat → Nat) : @segT sF CS 104 [0, 1, 2, 3, 4] [2, 3, 5] (S32 e x b w) = some (S33 e x b (hsteps 1 33 w)) := by kernel_rfl
theorem gS34 (e : TypeId) (x : W8) (b w : Nat → Nat) : @segT sF CS 104 [0, 1, 2, 3, 4] [2, 3, 5] (S33 e x b w) = some (S34 e x b (hsteps 1 34 w)) := by kernel_rfl
theorem gS35 (e : TypeId) (x : W8) (b w : Nat → Nat) : @segT sF CS 104 [0, 1, 2, 3, 4] [2, 3, 5] (S34 e x b w) = some (S35 e x b (hsteps 1 35 w)) := by kernel_rfl
theorem gS36 (e : TypeId) (x : W8) (b w : Nat → Nat) : @segT sF CS 104 [0, 1, 2, 3, 4] [2, 3, 5] (S35 e x b w) = some (S36 e x b (hsteps 1 36 w)) := by kernel_rfl
theorem gS37 (e : TypeId) (x : W8) (b w : Nat → Nat) : @segT sF CS 104 [0, 1, 2, 3, 4] [2, 3, 5] (S36 e x b w) = some (S37 e x b (hsteps 1 37 w)) := by kernel_rfl
theorem gS38 (e : TypeId) (x : W8) (b w : Nat → Nat) : @segT sF CS 104 [0, 1, 2, 3, 4] [2, 3, 5] (S37 e x b w) = some (S38 e x b (hsteps 1 38 w)) := by kernel_rfl
theorem gS39 (e : TypeId) (x : W8) (b w : Nat → Nat) : @segT sF CS 104 [0, 1, 2, 3, 4] [2, 3, 5] (S38 e x b w) = some (S39 e x b (hsteps 1 39 w)) := by kernel_rfl
theorem gS40 (e : TypeId) (x : W8) (b w : Nat → Nat) : @segT sF CS 104 [0, 1, 2, 3, 4] [2, 3, 5] (S39 e x b w) = some (S40 e x b (hsteps 1 40 w)) := by kernel_rfl
theorem gS41 (e : TypeId) (x : W8) (b w : Nat → Nat) : @segT sF CS 104 [0, 1, 2, 3, 4] [2, 3, 5] (S40 e x b w) = some (S41 e x b (hsteps 1 41 w)) := by kernel_rfl
theorem gS42 (e : TypeId) (x : W8) (b w : Nat → Nat) : @segT sF CS 104 [0, 1, 2, 3, 4] [2, 3, 5] (S41 e x b w) = some (S42 e x b (hsteps 1 42 w)) := by kernel_rfl
theorem gS43 (e : TypeId) (x : W8) (b w : Nat → Nat) : @segT sF CS 104 [0, 1, 2, 3, 4] [2, 3, 5] (S42 e x b w) = some (S43 e x b (hsteps 1 43 w)) := by kernel_rfl
theorem gS44 (e : TypeId) (x : W8) (b w : Nat → Nat) : @segT sF CS 104 [0, 1, 2, 3, 4] [2, 3, 5] (S43 e x b w) = some (S44 e x b (hsteps 1 44 w)) := by kernel_rfl
theorem gS45 (e : TypeId) (x : W8) (b w : Nat → Nat) : @segT sF CS 104 [0, 1, 2, 3, 4] [2, 3, 5] (S44 e x b w) = some (S45 e x b (hsteps 1 45 w)) := by kernel_rfl
theorem gS46 (e : TypeId) (x : W8) (b w : Nat → Nat) : @segT sF CS 104 [0, 1, 2, 3, 4] [2, 3, 5] (S45 e x b w) = some (S46 e x b (hsteps 1 46 w)) := by kernel_rfl
theorem gS47 (e : TypeId) (x : W8) (b w : Nat → Nat) : @segT sF CS 104 [0, 1, 2, 3, 4] [2, 3, 5] (S46 e x b w) = some (S47 e x b (hsteps 1 47 w)) := by kernel_rfl
theorem gS48 (e : TypeId) (x : W8) (b w : Nat → Nat) : @segT sF CS 104 [0, 1, 2, 3, 4] [2, 3, 5] (S47 e x b w) = some (S48 e x b (hsteps 1 48 w)) := by kernel_rfl
theorem gS49 (e : TypeId) (x : W8) (b w : Nat → Nat) : @segT sF CS 104 [0, 1, 2, 3, 4] [2, 3, 5] (S48 e x b w) = some (S49 e x b (hsteps 1 49 w)) := by kernel_rfl
theorem gS50 (e : TypeId) (x : W8) (b w : Nat → Nat) : @segT sF CS 104 [0, 1, 2, 3, 4] [2, 3, 5] (S49 e x b w) = some (S50 e x b (hsteps 1 50 w)) := by kernel_rfl
theorem gS51 (e : TypeId) (x : W8) (b w : Nat → Nat) : @segT sF CS 104 [0, 1, 2, 3, 4] [2, 3, 5] (S50 e x b w) = some (S51 e x b (hsteps 1 51 w)) := by kernel_rfl
theorem gS52 (e : TypeId) (x : W8) (b w : Nat → Nat) : @segT sF CS 104 [0, 1, 2, 3, 4] [2, 3, 5] (S51 e x b w) = some (S52 e x b (hsteps 1 52 w)) := by kernel_rfl
theorem gS53 (e : TypeId) (x : W8) (b w : Nat → Nat) : @segT sF CS 104 [0, 1, 2, 3, 4] [2, 3, 5] (S52 e x b w) = some (S53 e x b (hsteps 1 53 w)) := by kernel_rfl
theorem gS54 (e : TypeId) (x : W8) (b w : Nat → Nat) : @segT sF CS 104 [0, 1, 2, 3, 4] [2, 3, 5] (S53 e x b w) = some (S54 e x b (hsteps 1 54 w)) := by kernel_rfl
theorem gS55 (e : TypeId) (x : W8) (b w : Nat → Nat) : @segT sF CS 104 [0, 1, 2, 3, 4] [2, 3, 5] (S54 e x b w) = some (S55 e x b (hsteps 1 55 w)) := by kernel_rfl
theorem gS56 (e : TypeId) (x : W8) (b w : Nat → Nat) : @segT sF CS 104 [0, 1, 2, 3, 4] [2, 3, 5] (S55 e x b w) = some (S56 e x b (hsteps 1 56 w)) := by kernel_rfl
theorem gS57 (e : TypeId) (x : W8) (b w : Nat → Nat) : @segT sF CS 104 [0, 1, 2, 3, 4] [2, 3, 5] (S56 e x b w) = some (S57 e x b (hsteps 1 57 w)) := by kernel_rfl
theorem gS58 (e : TypeId) (x : W8) (b w : Nat → Nat) : @segT sF CS 104 [0, 1, 2, 3, 4] [2, 3, 5] (S57 e x b w) = some (S58 e x b (hsteps 1 58 w)) := by kernel_rfl
theorem gS59 (e : TypeId) (x : W8) (b w : Nat → Nat) : @segT sF CS 104 [0, 1, 2, 3, 4] [2, 3, 5] (S58 e x b w) = some (S59 e x b (hsteps 1 59 w)) := by kernel_rfl
theorem gS60 (e : TypeId) (x : W8) (b w : Nat → Nat) : @segT sF CS 104 [0, 1, 2, 3, 4] [2, 3, 5] (S59 e x b w) = some (S60 e x b (hsteps 1 60 w)) := by kernel_rfl
theorem gS61 (e : TypeId) (x : W8) (b w : Nat → Nat) : @segT sF CS 104 [0, 1, 2, 3, 4] [2, 3, 5] (S60 e x b w) = some (S61 e x b (hsteps 1 61 w)) := by kernel_rfl
theorem gS62 (e : TypeId) (x : W8) (b w : Nat → Nat) : @segT sF CS 104 [0, 1, 2, 3, 4] [2, 3, 5] (S61 e x b w) = some (S62 e x b (hsteps 1 62 w)) := by kernel_rfl
theorem gS63 (e : TypeId) (x : W8) (b w : Nat → Nat) : @segT sF CS 104 [0, 1, 2, 3, 4] [2, 3, 5] (S62 e x b w) = some (S63 e x b (hsteps 1 63 w)) := by kernel_rfl
theorem gN0 (e : TypeId) (x : W8) (b w : Nat → Nat) : @segT sF CS 97 [1, 2, 6, 7, 8] [2, 4, 5, 6, 7, 18] (S63 e x b w) = some (N0 x (hrounds 1 0 w x) w) := by kernel_rfl
theorem gN7 (x r : W8) (w : Nat → Nat) : @segT sF CS 546 [1, 2, 6, 7, 8] [2, 4, 5, 6, 7, 18] (N0 x r w) = some (N7 x (hrounds 7 1 w r) w) := by kernel_rfl
theorem gN14 (x r : W8) (w : Nat → Nat) : @segT sF CS 546 [1, 2, 6, 7, 8] [2, 4, 5, 6, 7, 18] (N7 x r w) = some (N14 x (hrounds 7 8 w r) w) := by kernel_rfl
theorem gN21 (x r : W8) (w : Nat → Nat) : @segT sF CS 546 [1, 2, 6, 7, 8] [2, 4, 5, 6, 7, 18] (N14 x r w) = some (N21 x (hrounds 7 15 w r) w) := by kernel_rfl
theorem gN28 (x r : W8) (w : Nat → Nat) : @segT sF CS 546 [1, 2, 6, 7, 8] [2, 4, 5, 6, 7, 18] (N21 x r w) = some (N28 x (hrounds 7 22 w r) w) := by kernel_rfl
theorem gN35 (x r : W8) (w : Nat → Nat) : @segT sF CS 546 [1, 2, 6, 7, 8] [2, 4, 5, 6, 7, 18] (N28 x r w) = some (N35 x (hrounds 7 29 w r) w) := by kernel_rfl
theorem gN42 (x r : W8) (w : Nat → Nat) : @segT sF CS 546 [1, 2, 6, 7, 8] [2, 4, 5, 6, 7, 18] (N35 x r w) = some (N42 x (hrounds 7 36 w r) w) := by kernel_rfl
theorem gN49 (x r : W8) (w : Nat → Nat) : @segT sF CS 546 [1, 2, 6, 7, 8] [2, 4, 5, 6, 7, 18] (N42 x r w) = some (N49 x (hrounds 7 43 w r) w) := by kernel_rfl
theorem gN56 (x r : W8) (w : Nat → Nat) : @segT sF CS 546 [1, 2, 6, 7, 8] [2, 4, 5, 6, 7, 18] (N49 x r w) = some (N56 x (hrounds 7 50 w r) w) := by kernel_rfl
theorem gN63 (x r : W8) (w : Nat → Nat) : @segT sF CS 546 [1, 2, 8] [2, 4, 7, 18] (N56 x r w) = some (N63 x (hrounds 7 57 w r)) := by kernel_rfl
theorem gE (x r : W8) : @lastA sF CS 151 167 (N63 x r) = some (.agg ⟨lstW (haddW r x)⟩) := by kernel_rfl
theorem y_N63 [At : Atoms] (G : Go.Am.Good Tryz.prog CS) (x r : W8) : Go.Am.Yields (iF := sF) Tryz.prog CS 151 (.agg ⟨lstW (haddW (r) x)⟩) (N63 x r) := Go.Am.Yields.end_ (iF := sF) G (gE x r)
theorem y_N56 [At : Atoms] (G : Go.Am.Good Tryz.prog CS) (x r : W8) (w : Nat → Nat) : Go.Am.Yields (iF := sF) Tryz.prog CS 151 (.agg ⟨lstW (haddW (hrounds 7 57 w r) x)⟩) (N56 x r w) := Go.Am.Yields.segT (iF := sF) G (gN63 x r w) (y_N63 G x _)
theorem y_N49 [At : Atoms] (G : Go.Am.Good Tryz.prog CS) (x r : W8) (w : Nat → Nat) : Go.Am.Yields (iF := sF) Tryz.prog CS 151 (.agg ⟨lstW (haddW (hrounds 14 50 w r) x)⟩) (N49 x r w) := by
  have e : hrounds 14 50 w r = hrounds 7 57 w (hrounds 7 50 w r) := hrounds_add 7 7 50 w r
  rw [e]; exact Go.Am.Yields.segT (iF := sF) G (gN56 x r w) (y_N56 G x _ w)
theorem y_N42 [At : Atoms] (G : Go.Am.Good Tryz.prog CS) (x r : W8) (w : Nat → Nat) : Go.Am.Yields (iF := sF) Tryz.prog CS 151 (.agg ⟨lstW (haddW (hrounds 21 43 w r) x)⟩) (N42 x r w) := by
  have e : hrounds 21 43 w r = hrounds 14 50 w (hrounds 7 43 w r) := hrounds_add 7 14 43 w r
  rw [e]; exact Go.Am.Yields.segT (iF := sF) G (gN49 x r w) (y_N49 G x _ w)
theorem y_N35 [At : Atoms] (G : Go.Am.Good Tryz.prog CS) (x r : W8) (w : Nat → Nat) : Go.Am.Yields (iF := sF) Tryz.prog CS 151 (.agg ⟨lstW (haddW (hrounds 28 36 w r) x)⟩) (N35 x r w) := by
  have e : hrounds 28 36 w r = hrounds 21 43 w (hrounds 7 36 w r) := hrounds_add 7 21 36 w r
  rw [e]; exact Go.Am.Yields.segT (iF := sF) G (gN42 x r w) (y_N42 G x _ w)
theorem y_N28 [At : Atoms] (G : Go.Am.Good Tryz.prog CS) (x r : W8) (w : Nat → Nat) : Go.Am.Yields (iF := sF) Tryz.prog CS 151 (.agg ⟨lstW (haddW (hrounds 35 29 w r) x)⟩) (N28 x r w) := by
  have e : hrounds 35 29 w r = hrounds 28 36 w (hrounds 7 29 w r) := hrounds_add 7 28 29 w r
  rw [e]; exact Go.Am.Yields.segT (iF := sF) G (gN35 x r w) (y_N35 G x _ w)
theorem y_N21 [At : Atoms] (G : Go.Am.Good Tryz.prog CS) (x r : W8) (w : Nat → Nat) : Go.Am.Yields (iF := sF) Tryz.prog CS 151 (.agg ⟨lstW (haddW (hrounds 42 22 w r) x)⟩) (N21 x r w) := by
  have e : hrounds 42 22 w r = hrounds 35 29 w (hrounds 7 22 w r) := hrounds_add 7 35 22 w r
  rw [e]; exact Go.Am.Yields.segT (iF := sF) G (gN28 x r w) (y_N28 G x _ w)
theorem y_N14 [At : Atoms] (G : Go.Am.Good Tryz.prog CS) (x r : W8) (w : Nat → Nat) : Go.Am.Yields (iF := sF) Tryz.prog CS 151 (.agg ⟨lstW (haddW (hrounds 49 15 w r) x)⟩) (N14 x r w) := by
  have e : hrounds 49 15 w r = hrounds 42 22 w (hrounds 7 15 w r) := hrounds_add 7 42 15 w r
  rw [e]; exact Go.Am.Yields.segT (iF := sF) G (gN21 x r w) (y_N21 G x _ w)
theorem y_N7 [At : Atoms] (G : Go.Am.Good Tryz.prog CS) (x r : W8) (w : Nat → Nat) : Go.Am.Yields (iF := sF) Tryz.prog CS 151 (.agg ⟨lstW (haddW (hrounds 56 8 w r) x)⟩) (N7 x r w) := by
  have e : hrounds 56 8 w r = hrounds 49 15 w (hrounds 7 8 w r) := hrounds_add 7 49 8 w r
  rw [e]; exact Go.Am.Yields.segT (iF := sF) G (gN14 x r w) (y_N14 G x _ w)
theorem y_N0 [At : Atoms] (G : Go.Am.Good Tryz.prog CS) (x r : W8) (w : Nat → Nat) : Go.Am.Yields (iF := sF) Tryz.prog CS 151 (.agg ⟨lstW (haddW (hrounds 63 1 w r) x)⟩) (N0 x r w) := by
  have e : hrounds 63 1 w r = hrounds 56 8 w (hrounds 7 1 w r) := hrounds_add 7 56 1 w r
  rw [e]; exact Go.Am.Yields.segT (iF := sF) G (gN7 x r w) (y_N7 G x _ w)
theorem y_S63 [At : Atoms] (G : Go.Am.Good Tryz.prog CS) (e : TypeId) (x : W8) (b w : Nat → Nat) : Go.Am.Yields (iF := sF) Tryz.prog CS 151 (.agg ⟨lstW (haddW (hrounds 64 0 w x) x)⟩) (S63 e x b w) := by
  have e2 : hrounds 64 0 w x = hrounds 63 1 w (hrounds 1 0 w x) := hrounds_add 1 63 0 w x
  rw [e2]; exact Go.Am.Yields.segT (iF := sF) G (gN0 e x b w) (y_N0 G x _ w)
theorem y_S62 [At : Atoms] (G : Go.Am.Good Tryz.prog CS) (e : TypeId) (x : W8) (b w : Nat → Nat) : Go.Am.Yields (iF := sF) Tryz.prog CS 151 (.agg ⟨lstW (haddW (hrounds 64 0 (hsteps 1 63 w) x) x)⟩) (S62 e x b w) := by
  exact Go.Am.Yields.segT (iF := sF) G (gS63 e x b w) (y_S63 G e x b _)
theorem y_S61 [At : Atoms] (G : Go.Am.Good Tryz.prog CS) (e : TypeId) (x : W8) (b w : Nat → Nat) : Go.Am.Yields (iF := sF) Tryz.prog CS 151 (.agg ⟨lstW (haddW (hrounds 64 0 (hsteps 2 62 w) x) x)⟩) (S61 e x b w) := by
  have e2 : hsteps 2 62 w = hsteps 1 63 (hsteps 1 62 w) := hsteps_add 1 1 62 w
  rw [e2]
  exact Go.Am.Yields.segT (iF := sF) G (gS62 e x b w) (y_S62 G e x b _)
theorem y_S60 [At : Atoms] (G : Go.Am.Good Tryz.prog CS) (e : TypeId) (x : W8) (b w : Nat → Nat) : Go.Am.Yields (iF := sF) Tryz.prog CS 151 (.agg ⟨lstW (haddW (hrounds 64 0 (hsteps 3 61 w) x) x)⟩) (S60 e x b w) := by
  have e2 : hsteps 3 61 w = hsteps 2 62 (hsteps 1 61 w) := hsteps_add 1 2 61 w
  rw [e2]
  exact Go.Am.Yields.segT (iF := sF) G (gS61 e x b w) (y_S61 G e x b _)
theorem y_S59 [At : Atoms] (G : Go.Am.Good Tryz.prog CS) (e : TypeId) (x : W8) (b w : Nat → Nat) : Go.Am.Yields (iF := sF) Tryz.prog CS 151 (.agg ⟨lstW (haddW (hrounds 64 0 (hsteps 4 60 w) x) x)⟩) (S59 e x b w) := by
  have e2 : hsteps 4 60 w = hsteps 3 61 (hsteps 1 60 w) := hsteps_add 1 3 60 w
  rw [e2]
  exact Go.Am.Yields.segT (iF := sF) G (gS60 e x b w) (y_S60 G e x b _)
theorem y_S58 [At : Atoms] (G : Go.Am.Good Tryz.prog CS) (e : TypeId) (x : W8) (b w : Nat → Nat) : Go.Am.Yields (iF := sF) Tryz.prog CS 151 (.agg ⟨lstW (haddW (hrounds 64 0 (hsteps 5 59 w) x) x)⟩) (S58 e x b w) := by
  have e2 : hsteps 5 59 w = hsteps 4 60 (hsteps 1 59 w) := hsteps_add 1 4 59 w
  rw [e2]
  exact Go.Am.Yields.segT (iF := sF) G (gS59 e x b w) (y_S59 G e x b _)
theorem y_S57 [At : Atoms] (G : Go.Am.Good Tryz.prog CS) (e : TypeId) (x : W8) (b w : Nat → Nat) : Go.Am.Yields (iF := sF) Tryz.prog CS 151 (.agg ⟨lstW (haddW (hrounds 64 0 (hsteps 6 58 w) x) x)⟩) (S57 e x b w) := by
  have e2 : hsteps 6 58 w = hsteps 5 59 (hsteps 1 58 w) := hsteps_add 1 5 58 w
  rw [e2]
  exact Go.Am.Yields.segT (iF := sF) G (gS58 e x b w) (y_S58 G e x b _)
theorem y_S56 [At : Atoms] (G : Go.Am.Good Tryz.prog CS) (e : TypeId) (x : W8) (b w : Nat → Nat) : Go.Am.Yields (iF := sF) Tryz.prog CS 151 (.agg ⟨lstW (haddW (hrounds 64 0 (hsteps 7 57 w) x) x)⟩) (S56 e x b w) := by
  have e2 : hsteps 7 57 w = hsteps 6 58 (hsteps 1 57 w) := hsteps_add 1 6 57 w
  rw [e2]
  exact Go.Am.Yields.segT (iF := sF) G (gS57 e x b w) (y_S57 G e x b _)
theorem y_S55 [At : Atoms] (G : Go.Am.Good Tryz.prog CS) (e : TypeId) (x : W8) (b w : Nat → Nat) : Go.Am.Yields (iF := sF) Tryz.prog CS 151 (.agg ⟨lstW (haddW (hrounds 64 0 (hsteps 8 56 w) x) x)⟩) (S55 e x b w) := by
  have e2 : hsteps 8 56 w = hsteps 7 57 (hsteps 1 56 w) := hsteps_add 1 7 56 w
  rw [e2]
  exact Go.Am.Yields.segT (iF := sF) G (gS56 e x b w) (y_S56 G e x b _)
theorem y_S54 [At : Atoms] (G : Go.Am.Good Tryz.prog CS) (e : TypeId) (x : W8) (b w : Nat → Nat) : Go.Am.Yields (iF := sF) Tryz.prog CS 151 (.agg ⟨lstW (haddW (hrounds 64 0 (hsteps 9 55 w) x) x)⟩) (S54 e x b w) := by
  have e2 : hsteps 9 55 w = hsteps 8 56 (hsteps 1 55 w) := hsteps_add 1 8 55 w
  rw [e2]
  exact Go.Am.Yields.segT (iF := sF) G (gS55 e x b w) (y_S55 G e x b _)
theorem y_S53 [At : Atoms] (G : Go.Am.Good Tryz.prog CS) (e : TypeId) (x : W8) (b w : Nat → Nat) : Go.Am.Yields (iF := sF) Tryz.prog CS 151 (.agg ⟨lstW (haddW (hrounds 64 0 (hsteps 10 54 w) x) x)⟩) (S53 e x b w) := by
  have e2 : hsteps 10 54 w = hsteps 9 55 (hsteps 1 54 w) := hsteps_add 1 9 54 w
  rw [e2]
  exact Go.Am.Yields.segT (iF := sF) G (gS54 e x b w) (y_S54 G e x b _)
theorem y_S52 [At : Atoms] (G : Go.Am.Good Tryz.prog CS) (e : TypeId) (x : W8) (b w : Nat → Nat) : Go.Am.Yields (iF := sF) Tryz.prog CS 151 (.agg ⟨lstW (haddW (hrounds 64 0 (hsteps 11 53 w) x) x)⟩) (S52 e x b w) := by
  have e2 : hsteps 11 53 w = hsteps 10 54 (hsteps 1 53 w) := hsteps_add 1 10 53 w
  rw [e2]
  exact Go.Am.Yields.segT (iF := sF) G (gS53 e x b w) (y_S53 G e x b _)
theorem y_S51 [At : Atoms] (G : Go.Am.Good Tryz.prog CS) (e : TypeId) (x : W8) (b w : Nat → Nat) : Go.Am.Yields (iF := sF) Tryz.prog CS 151 (.agg ⟨lstW (haddW (hrounds 64 0 (hsteps 12 52 w) x) x)⟩) (S51 e x b w) := by
  have e2 : hsteps 12 52 w = hsteps 11 53 (hsteps 1 52 w) := hsteps_add 1 11 52 w
  rw [e2]
  exact Go.Am.Yields.segT (iF := sF) G (gS52 e x b w) (y_S52 G e x b _)
theorem y_S50 [At : Atoms] (G : Go.Am.Good Tryz.prog CS) (e : TypeId) (x : W8) (b w : Nat → Nat) : Go.Am.Yields (iF := sF) Tryz.prog CS 151 (.agg ⟨lstW (haddW (hrounds 64 0 (hsteps 13 51 w) x) x)⟩) (S50 e x b w) := by
  have e2 : hsteps 13 51 w = hsteps 12 52 (hsteps 1 51 w) := hsteps_add 1 12 51 w
  rw [e2]
  exact Go.Am.Yields.segT (iF := sF) G (gS51 e x b w) (y_S51 G e x b _)
theorem y_S49 [At : Atoms] (G : Go.Am.Good Tryz.prog CS) (e : TypeId) (x : W8) (b w : Nat → Nat) : Go.Am.Yields (iF := sF) Tryz.prog CS 151 (.agg ⟨lstW (haddW (hrounds 64 0 (hsteps 14 50 w) x) x)⟩) (S49 e x b w) := by
  have e2 : hsteps 14 50 w = hsteps 13 51 (hsteps 1 50 w) := hsteps_add 1 13 50 w
  rw [e2]
  exact Go.Am.Yields.segT (iF := sF) G (gS50 e x b w) (y_S50 G e x b _)
theorem y_S48 [At : Atoms] (G : Go.Am.Good Tryz.prog CS) (e : TypeId) (x : W8) (b w : Nat → Nat) : Go.Am.Yields (iF := sF) Tryz.prog CS 151 (.agg ⟨lstW (haddW (hrounds 64 0 (hsteps 15 49 w) x) x)⟩) (S48 e x b w) := by
  have e2 : hsteps 15 49 w = hsteps 14 50 (hsteps 1 49 w) := hsteps_add 1 14 49 w
  rw [e2]
  exact Go.Am.Yields.segT (iF := sF) G (gS49 e x b w) (y_S49 G e x b _)
theorem y_S47 [At : Atoms] (G : Go.Am.Good Tryz.prog CS) (e : TypeId) (x : W8) (b w : Nat → Nat) : Go.Am.Yields (iF := sF) Tryz.prog CS 151 (.agg ⟨lstW (haddW (hrounds 64 0 (hsteps 16 48 w) x) x)⟩) (S47 e x b w) := by
  have e2 : hsteps 16 48 w = hsteps 15 49 (hsteps 1 48 w) := hsteps_add 1 15 48 w
  rw [e2]
  exact Go.Am.Yields.segT (iF := sF) G (gS48 e x b w) (y_S48 G e x b _)
theorem y_S46 [At : Atoms] (G : Go.Am.Good Tryz.prog CS) (e : TypeId) (x : W8) (b w : Nat → Nat) : Go.Am.Yields (iF := sF) Tryz.prog CS 151 (.agg ⟨lstW (haddW (hrounds 64 0 (hsteps 17 47 w) x) x)⟩) (S46 e x b w) := by
  have e2 : hsteps 17 47 w = hsteps 16 48 (hsteps 1 47 w) := hsteps_add 1 16 47 w
  rw [e2]
  exact Go.Am.Yields.segT (iF := sF) G (gS47 e x b w) (y_S47 G e x b _)
theorem y_S45 [At : Atoms] (G : Go.Am.Good Tryz.prog CS) (e : TypeId) (x : W8) (b w : Nat → Nat) : Go.Am.Yields (iF := sF) Tryz.prog CS 151 (.agg ⟨lstW (haddW (hrounds 64 0 (hsteps 18 46 w) x) x)⟩) (S45 e x b w) := by
  have e2 : hsteps 18 46 w = hsteps 17 47 (hsteps 1 46 w) := hsteps_add 1 17 46 w
  rw [e2]
  exact Go.Am.Yields.segT (iF := sF) G (gS46 e x b w) (y_S46 G e x b _)
theorem y_S44 [At : Atoms] (G : Go.Am.Good Tryz.prog CS) (e : TypeId) (x : W8) (b w : Nat → Nat) : Go.Am.Yields (iF := sF) Tryz.prog CS 151 (.agg ⟨lstW (haddW (hrounds 64 0 (hsteps 19 45 w) x) x)⟩) (S44 e x b w) := by
  have e2 : hsteps 19 45 w = hsteps 18 46 (hsteps 1 45 w) := hsteps_add 1 18 45 w
  rw [e2]
  exact Go.Am.Yields.segT (iF := sF) G (gS45 e x b w) (y_S45 G e x b _)
theorem y_S43 [At : Atoms] (G : Go.Am.Good Tryz.prog CS) (e : TypeId) (x : W8) (b w : Nat → Nat) : Go.Am.Yields (iF := sF) Tryz.prog CS 151 (.agg ⟨lstW (haddW (hrounds 64 0 (hsteps 20 44 w) x) x)⟩) (S43 e x b w) := by
  have e2 : hsteps 20 44 w = hsteps 19 45 (hsteps 1 44 w) := hsteps_add 1 19 44 w
  rw [e2]
  exact Go.Am.Yields.segT (iF := sF) G (gS44 e x b w) (y_S44 G e x b _)
theorem y_S42 [At : Atoms] (G : Go.Am.Good Tryz.prog CS) (e : TypeId) (x : W8) (b w : Nat → Nat) : Go.Am.Yields (iF := sF) Tryz.prog CS 151 (.agg ⟨lstW (haddW (hrounds 64 0 (hsteps 21 43 w) x) x)⟩) (S42 e x b w) := by
  have e2 : hsteps 21 43 w = hsteps 20 44 (hsteps 1 43 w) := hsteps_add 1 20 43 w
  rw [e2]
  exact Go.Am.Yields.segT (iF := sF) G (gS43 e x b w) (y_S43 G e x b _)
theorem y_S41 [At : Atoms] (G : Go.Am.Good Tryz.prog CS) (e : TypeId) (x : W8) (b w : Nat → Nat) : Go.Am.Yields (iF := sF) Tryz.prog CS 151 (.agg ⟨lstW (haddW (hrounds 64 0 (hsteps 22 42 w) x) x)⟩) (S41 e x b w) := by
  have e2 : hsteps 22 42 w = hsteps 21 43 (hsteps 1 42 w) := hsteps_add 1 21 42 w
  rw [e2]
  exact Go.Am.Yields.segT (iF := sF) G (gS42 e x b w) (y_S42 G e x b _)
theorem y_S40 [At : Atoms] (G : Go.Am.Good Tryz.prog CS) (e : TypeId) (x : W8) (b w : Nat → Nat) : Go.Am.Yields (iF := sF) Tryz.prog CS 151 (.agg ⟨lstW (haddW (hrounds 64 0 (hsteps 23 41 w) x) x)⟩) (S40 e x b w) := by
  have e2 : hsteps 23 41 w = hsteps 22 42 (hsteps 1 41 w) := hsteps_add 1 22 41 w
  rw [e2]
  exact Go.Am.Yields.segT (iF := sF) G (gS41 e x b w) (y_S41 G e x b _)
theorem y_S39 [At : Atoms] (G : Go.Am.Good Tryz.prog CS) (e : TypeId) (x : W8) (b w : Nat → Nat) : Go.Am.Yields (iF := sF) Tryz.prog CS 151 (.agg ⟨lstW (haddW (hrounds 64 0 (hsteps 24 40 w) x) x)⟩) (S39 e x b w) := by
  have e2 : hsteps 24 40 w = hsteps 23 41 (hsteps 1 40 w) := hsteps_add 1 23 40 w
  rw [e2]
  exact Go.Am.Yields.segT (iF := sF) G (gS40 e x b w) (y_S40 G e x b _)
theorem y_S38 [At : Atoms] (G : Go.Am.Good Tryz.prog CS) (e : TypeId) (x : W8) (b w : Nat → Nat) : Go.Am.Yields (iF := sF) Tryz.prog CS 151 (.agg ⟨lstW (haddW (hrounds 64 0 (hsteps 25 39 w) x) x)⟩) (S38 e x b w) := by
  have e2 : hsteps 25 39 w = hsteps 24 40 (hsteps 1 39 w) := hsteps_add 1 24 39 w
  rw [e2]
  exact Go.Am.Yields.segT (iF := sF) G (gS39 e x b w) (y_S39 G e x b _)
theorem y_S37 [At : Atoms] (G : Go.Am.Good Tryz.prog CS) (e : TypeId) (x : W8) (b w : Nat → Nat) : Go.Am.Yields (iF := sF) Tryz.prog CS 151 (.agg ⟨lstW (haddW (hrounds 64 0 (hsteps 26 38 w) x) x)⟩) (S37 e x b w) := by
  have e2 : hsteps 26 38 w = hsteps 25 39 (hsteps 1 38 w) := hsteps_add 1 25 38 w
  rw [e2]
  exact Go.Am.Yields.segT (iF := sF) G (gS38 e x b w) (y_S38 G e x b _)
theorem y_S36 [At : Atoms] (G : Go.Am.Good Tryz.prog CS) (e : TypeId) (x : W8) (b w : Nat → Nat) : Go.Am.Yields (iF := sF) Tryz.prog CS 151 (.agg ⟨lstW (haddW (hrounds 64 0 (hsteps 27 37 w) x) x)⟩) (S36 e x b w) := by
  have e2 : hsteps 27 37 w = hsteps 26 38 (hsteps 1 37 w) := hsteps_add 1 26 37 w
  rw [e2]
  exact Go.Am.Yields.segT (iF := sF) G (gS37 e x b w) (y_S37 G e x b _)
theorem y_S35 [At : Atoms] (G : Go.Am.Good Tryz.prog CS) (e : TypeId) (x : W8) (b w : Nat → Nat) : Go.Am.Yields (iF := sF) Tryz.prog CS 151 (.agg ⟨lstW (haddW (hrounds 64 0 (hsteps 28 36 w) x) x)⟩) (S35 e x b w) := by
  have e2 : hsteps 28 36 w = hsteps 27 37 (hsteps 1 36 w) := hsteps_add 1 27 36 w
  rw [e2]
  exact Go.Am.Yields.segT (iF := sF) G (gS36 e x b w) (y_S36 G e x b _)
theorem y_S34 [At : Atoms] (G : Go.Am.Good Tryz.prog CS) (e : TypeId) (x : W8) (b w : Nat → Nat) : Go.Am.Yields (iF := sF) Tryz.prog CS 151 (.agg ⟨lstW (haddW (hrounds 64 0 (hsteps 29 35 w) x) x)⟩) (S34 e x b w) := by
  have e2 : hsteps 29 35 w = hsteps 28 36 (hsteps 1 35 w) := hsteps_add 1 28 35 w
  rw [e2]
  exact Go.Am.Yields.segT (iF := sF) G (gS35 e x b w) (y_S35 G e x b _)
theorem y_S33 [At : Atoms] (G : Go.Am.Good Tryz.prog CS) (e : TypeId) (x : W8) (b w : Nat → Nat) : Go.Am.Yields (iF := sF) Tryz.prog CS 151 (.agg ⟨lstW (haddW (hrounds 64 0 (hsteps 30 34 w) x) x)⟩) (S33 e x b w) := by
  have e2 : hsteps 30 34 w = hsteps 29 35 (hsteps 1 34 w) := hsteps_add 1 29 34 w
  rw [e2]
  exact Go.Am.Yields.segT (iF := sF) G (gS34 e x b w) (y_S34 G e x b _)
theorem y_S32 [At : Atoms] (G : Go.Am.Good Tryz.prog CS) (e : TypeId) (x : W8) (b w : Nat → Nat) : Go.Am.Yields (iF := sF) Tryz.prog CS 151 (.agg ⟨lstW (haddW (hrounds 64 0 (hsteps 31 33 w) x) x)⟩) (S32 e x b w) := by
  have e2 : hsteps 31 33 w = hsteps 30 34 (hsteps 1 33 w) := hsteps_add 1 30 33 w
  rw [e2]
  exact Go.Am.Yields.segT (iF := sF) G (gS33 e x b w) (y_S33 G e x b _)
theorem y_S31 [At : Atoms] (G : Go.Am.Good Tryz.prog CS) (e : TypeId) (x : W8) (b w : Nat → Nat) : Go.Am.Yields (iF := sF) Tryz.prog CS 151 (.agg ⟨lstW (haddW (hrounds 64 0 (hsteps 32 32 w) x) x)⟩) (S31 e x b w) := by
  have e2 : hsteps 32 32 w = hsteps 31 33 (hsteps 1 32 w) := hsteps_add 1 31 32 w
  rw [e2]
  exact Go.Am.Yields.segT (iF := sF) G (gS32 e x b w) (y_S32 G e x b _)
theorem y_S30 [At : Atoms] (G : Go.Am.Good Tryz.prog CS) (e : TypeId) (x : W8) (b w : Nat → Nat) : Go.Am.Yields (iF := sF) Tryz.prog CS 151 (.agg ⟨lstW (haddW (hrounds 64 0 (hsteps 33 31 w) x) x)⟩) (S30 e x b w) := by
  have e2 : hsteps 33 31 w = hsteps 32 32 (hsteps 1 31 w) := hsteps_add 1 32 31 w
  rw [e2]
  exact Go.Am.Yields.segT (iF := sF) G (gS31 e x b w) (y_S31 G e x b _)
theorem y_S29 [At : Atoms] (G : Go.Am.Good Tryz.prog CS) (e : TypeId) (x : W8) (b w : Nat → Nat) : Go.Am.Yields (iF := sF) Tryz.prog CS 151 (.agg ⟨lstW (haddW (hrounds 64 0 (hsteps 34 30 w) x) x)⟩) (S29 e x b w) := by
  have e2 : hsteps 34 30 w = hsteps 33 31 (hsteps 1 30 w) := hsteps_add 1 33 30 w
  rw [e2]
  exact Go.Am.Yields.segT (iF := sF) G (gS30 e x b w) (y_S30 G e x b _)
theorem y_S28 [At : Atoms] (G : Go.Am.Good Tryz.prog CS) (e : TypeId) (x : W8) (b w : Nat → Nat) : Go.Am.Yields (iF := sF) Tryz.prog CS 151 (.agg ⟨lstW (haddW (hrounds 64 0 (hsteps 35 29 w) x) x)⟩) (S28 e x b w) := by
  have e2 : hsteps 35 29 w = hsteps 34 30 (hsteps 1 29 w) := hsteps_add 1 34 29 w
  rw [e2]
  exact Go.Am.Yields.segT (iF := sF) G (gS29 e x b w) (y_S29 G e x b _)
theorem y_S27 [At : Atoms] (G : Go.Am.Good Tryz.prog CS) (e : TypeId) (x : W8) (b w : Nat → Nat) : Go.Am.Yields (iF := sF) Tryz.prog CS 151 (.agg ⟨lstW (haddW (hrounds 64 0 (hsteps 36 28 w) x) x)⟩) (S27 e x b w) := by
  have e2 : hsteps 36 28 w = hsteps 35 29 (hsteps 1 28 w) := hsteps_add 1 35 28 w
  rw [e2]
  exact Go.Am.Yields.segT (iF := sF) G (gS28 e x b w) (y_S28 G e x b _)
theorem y_S26 [At : Atoms] (G : Go.Am.Good Tryz.prog CS) (e : TypeId) (x : W8) (b w : Nat → Nat) : Go.Am.Yields (iF := sF) Tryz.prog CS 151 (.agg ⟨lstW (haddW (hrounds 64 0 (hsteps 37 27 w) x) x)⟩) (S26 e x b w) := by
  have e2 : hsteps 37 27 w = hsteps 36 28 (hsteps 1 27 w) := hsteps_add 1 36 27 w
  rw [e2]
  exact Go.Am.Yields.segT (iF := sF) G (gS27 e x b w) (y_S27 G e x b _)
theorem y_S25 [At : Atoms] (G : Go.Am.Good Tryz.prog CS) (e : TypeId) (x : W8) (b w : Nat → Nat) : Go.Am.Yields (iF := sF) Tryz.prog CS 151 (.agg ⟨lstW (haddW (hrounds 64 0 (hsteps 38 26 w) x) x)⟩) (S25 e x b w) := by
  have e2 : hsteps 38 26 w = hsteps 37 27 (hsteps 1 26 w) := hsteps_add 1 37 26 w
  rw [e2]
  exact Go.Am.Yields.segT (iF := sF) G (gS26 e x b w) (y_S26 G e x b _)
theorem y_S24 [At : Atoms] (G : Go.Am.Good Tryz.prog CS) (e : TypeId) (x : W8) (b w : Nat → Nat) : Go.Am.Yields (iF := sF) Tryz.prog CS 151 (.agg ⟨lstW (haddW (hrounds 64 0 (hsteps 39 25 w) x) x)⟩) (S24 e x b w) := by
  have e2 : hsteps 39 25 w = hsteps 38 26 (hsteps 1 25 w) := hsteps_add 1 38 25 w
  rw [e2]
  exact Go.Am.Yields.segT (iF := sF) G (gS25 e x b w) (y_S25 G e x b _)
theorem y_S23 [At : Atoms] (G : Go.Am.Good Tryz.prog CS) (e : TypeId) (x : W8) (b w : Nat → Nat) : Go.Am.Yields (iF := sF) Tryz.prog CS 151 (.agg ⟨lstW (haddW (hrounds 64 0 (hsteps 40 24 w) x) x)⟩) (S23 e x b w) := by
  have e2 : hsteps 40 24 w = hsteps 39 25 (hsteps 1 24 w) := hsteps_add 1 39 24 w
  rw [e2]
  exact Go.Am.Yields.segT (iF := sF) G (gS24 e x b w) (y_S24 G e x b _)
theorem y_S22 [At : Atoms] (G : Go.Am.Good Tryz.prog CS) (e : TypeId) (x : W8) (b w : Nat → Nat) : Go.Am.Yields (iF := sF) Tryz.prog CS 151 (.agg ⟨lstW (haddW (hrounds 64 0 (hsteps 41 23 w) x) x)⟩) (S22 e x b w) := by
  have e2 : hsteps 41 23 w = hsteps 40 24 (hsteps 1 23 w) := hsteps_add 1 40 23 w
  rw [e2]
  exact Go.Am.Yields.segT (iF := sF) G (gS23 e x b w) (y_S23 G e x b _)
theorem y_S21 [At : Atoms] (G : Go.Am.Good Tryz.prog CS) (e : TypeId) (x : W8) (b w : Nat → Nat) : Go.Am.Yields (iF := sF) Tryz.prog CS 151 (.agg ⟨lstW (haddW (hrounds 64 0 (hsteps 42 22 w) x) x)⟩) (S21 e x b w) := by
  have e2 : hsteps 42 22 w = hsteps 41 23 (hsteps 1 22 w) := hsteps_add 1 41 22 w
  rw [e2]
  exact Go.Am.Yields.segT (iF := sF) G (gS22 e x b w) (y_S22 G e x b _)
theorem y_S20 [At : Atoms] (G : Go.Am.Good Tryz.prog CS) (e : TypeId) (x : W8) (b w : Nat → Nat) : Go.Am.Yields (iF := sF) Tryz.prog CS 151 (.agg ⟨lstW (haddW (hrounds 64 0 (hsteps 43 21 w) x) x)⟩) (S20 e x b w) := by
  have e2 : hsteps 43 21 w = hsteps 42 22 (hsteps 1 21 w) := hsteps_add 1 42 21 w
  rw [e2]
  exact Go.Am.Yields.segT (iF := sF) G (gS21 e x b w) (y_S21 G e x b _)
theorem y_S19 [At : Atoms] (G : Go.Am.Good Tryz.prog CS) (e : TypeId) (x : W8) (b w : Nat → Nat) : Go.Am.Yields (iF := sF) Tryz.prog CS 151 (.agg ⟨lstW (haddW (hrounds 64 0 (hsteps 44 20 w) x) x)⟩) (S19 e x b w) := by
  have e2 : hsteps 44 20 w = hsteps 43 21 (hsteps 1 20 w) := hsteps_add 1 43 20 w
  rw [e2]
  exact Go.Am.Yields.segT (iF := sF) G (gS20 e x b w) (y_S20 G e x b _)
theorem y_S18 [At : Atoms] (G : Go.Am.Good Tryz.prog CS) (e : TypeId) (x : W8) (b w : Nat → Nat) : Go.Am.Yields (iF := sF) Tryz.prog CS 151 (.agg ⟨lstW (haddW (hrounds 64 0 (hsteps 45 19 w) x) x)⟩) (S18 e x b w) := by
  have e2 : hsteps 45 19 w = hsteps 44 20 (hsteps 1 19 w) := hsteps_add 1 44 19 w
  rw [e2]
  exact Go.Am.Yields.segT (iF := sF) G (gS19 e x b w) (y_S19 G e x b _)
theorem y_S17 [At : Atoms] (G : Go.Am.Good Tryz.prog CS) (e : TypeId) (x : W8) (b w : Nat → Nat) : Go.Am.Yields (iF := sF) Tryz.prog CS 151 (.agg ⟨lstW (haddW (hrounds 64 0 (hsteps 46 18 w) x) x)⟩) (S17 e x b w) := by
  have e2 : hsteps 46 18 w = hsteps 45 19 (hsteps 1 18 w) := hsteps_add 1 45 18 w
  rw [e2]
  exact Go.Am.Yields.segT (iF := sF) G (gS18 e x b w) (y_S18 G e x b _)
theorem y_S16 [At : Atoms] (G : Go.Am.Good Tryz.prog CS) (e : TypeId) (x : W8) (b w : Nat → Nat) : Go.Am.Yields (iF := sF) Tryz.prog CS 151 (.agg ⟨lstW (haddW (hrounds 64 0 (hsteps 47 17 w) x) x)⟩) (S16 e x b w) := by
  have e2 : hsteps 47 17 w = hsteps 46 18 (hsteps 1 17 w) := hsteps_add 1 46 17 w
  rw [e2]
  exact Go.Am.Yields.segT (iF := sF) G (gS17 e x b w) (y_S17 G e x b _)
theorem y_S15 [At : Atoms] (G : Go.Am.Good Tryz.prog CS) (e : TypeId) (x : W8) (b w : Nat → Nat) : Go.Am.Yields (iF := sF) Tryz.prog CS 151 (.agg ⟨lstW (haddW (hrounds 64 0 (hsteps 48 16 w) x) x)⟩) (S15 e x b w) := by
  have e2 : hsteps 48 16 w = hsteps 47 17 (hsteps 1 16 w) := hsteps_add 1 47 16 w
  rw [e2]
  exact Go.Am.Yields.segT (iF := sF) G (gS16 e x b w) (y_S16 G e x b _)
theorem y_S11 [At : Atoms] (G : Go.Am.Good Tryz.prog CS) (e : TypeId) (x : W8) (b w : Nat → Nat) : Go.Am.Yields (iF := sF) Tryz.prog CS 151 (.agg ⟨lstW (haddW (hrounds 64 0 (hsteps 48 16 (hinit 4 12 b w)) x) x)⟩) (S11 e x b w) := by
  exact Go.Am.Yields.segT (iF := sF) G (gS15 e x b w) (y_S15 G e x b _)
theorem y_S7 [At : Atoms] (G : Go.Am.Good Tryz.prog CS) (e : TypeId) (x : W8) (b w : Nat → Nat) : Go.Am.Yields (iF := sF) Tryz.prog CS 151 (.agg ⟨lstW (haddW (hrounds 64 0 (hsteps 48 16 (hinit 8 8 b w)) x) x)⟩) (S7 e x b w) := by
  have e2 : hinit 8 8 b w = hinit 4 12 b (hinit 4 8 b w) := hinit_add 4 4 8 b w
  rw [e2]
  exact Go.Am.Yields.segT (iF := sF) G (gS11 e x b w) (y_S11 G e x b _)
theorem y_S3 [At : Atoms] (G : Go.Am.Good Tryz.prog CS) (e : TypeId) (x : W8) (b w : Nat → Nat) : Go.Am.Yields (iF := sF) Tryz.prog CS 151 (.agg ⟨lstW (haddW (hrounds 64 0 (hsteps 48 16 (hinit 12 4 b w)) x) x)⟩) (S3 e x b w) := by
  have e2 : hinit 12 4 b w = hinit 8 8 b (hinit 4 4 b w) := hinit_add 4 8 4 b w
  rw [e2]
  exact Go.Am.Yields.segT (iF := sF) G (gS7 e x b w) (y_S7 G e x b _)
theorem y_S0 [At : Atoms] (G : Go.Am.Good Tryz.prog CS) (e : TypeId) (x : W8) (b w : Nat → Nat) : Go.Am.Yields (iF := sF) Tryz.prog CS 151 (.agg ⟨lstW (haddW (hrounds 64 0 (hsteps 48 16 (hinit 15 1 b w)) x) x)⟩) (S0 e x b w) := by
  have e2 : hinit 15 1 b w = hinit 12 4 b (hinit 3 1 b w) := hinit_add 3 12 1 b w
  rw [e2]
  exact Go.Am.Yields.segT (iF := sF) G (gS3 e x b w) (y_S3 G e x b _)
theorem yields [At : Atoms] (G : Go.Am.Good Tryz.prog CS) (e : TypeId) (x : W8) (b : Nat → Nat) : Go.Am.Yields (iF := sF) Tryz.prog CS 151 (.agg ⟨lstW (hnext x b)⟩) (start e x b) := by
  have e1 : hnext x b = haddW (hrounds 64 0 (hsteps 48 16 (hfirst b)) x) x := rfl
  have e2 : hfirst b = hinit 15 1 b (hinit 1 0 b hzero) := hinit_add 1 15 0 b hzero
  rw [e1, e2]; exact Go.Am.Yields.segT (iF := sF) G (gS0 e x b) (y_S0 G e x b _)
theorem downOk (G : @Go.Am.Good at0 Tryz.prog C0) (F : Forc) : PurOk Tryz.prog 179 (@downP F) := by
  refine downP_ok G rfl Tryz.func179 (by kernel_rfl) (by kernel_rfl) (fun n hn x => ?_) F
  simp only [downN, List.mem_cons, List.not_mem_nil, or_false] at hn
  rcases hn with e | e | e | e | e | e | e | e | e | e
  · subst e; exact ⟨frD x 2, d2 x, Go.Am.Yields.end_ (iF := sF) G (t2 x)⟩
  · subst e; exact ⟨frD x 6, d6 x, Go.Am.Yields.end_ (iF := sF) G (t6 x)⟩
  · subst e; exact ⟨frD x 7, d7 x, Go.Am.Yields.end_ (iF := sF) G (t7 x)⟩
  · subst e; exact ⟨frD x 11, d11 x, Go.Am.Yields.end_ (iF := sF) G (t11 x)⟩
  · subst e; exact ⟨frD x 13, d13 x, Go.Am.Yields.end_ (iF := sF) G (t13 x)⟩
  · subst e; exact ⟨frD x 17, d17 x, Go.Am.Yields.end_ (iF := sF) G (t17 x)⟩
  · subst e; exact ⟨frD x 18, d18 x, Go.Am.Yields.end_ (iF := sF) G (t18 x)⟩
  · subst e; exact ⟨frD x 19, d19 x, Go.Am.Yields.end_ (iF := sF) G (t19 x)⟩
  · subst e; exact ⟨frD x 22, d22 x, Go.Am.Yields.end_ (iF := sF) G (t22 x)⟩
  · subst e; exact ⟨frD x 25, d25 x, Go.Am.Yields.end_ (iF := sF) G (t25 x)⟩
theorem nextOk [At : Atoms] (G0 : @Go.Am.Good at0 Tryz.prog C0) (G : Go.Am.Good Tryz.prog C0) (F : Forc) : OrcOk Tryz.prog 0 151 (@nextOrc F) := by
  have GS : Go.Am.Good Tryz.prog CS := ⟨rfl, G.names, G.mixed, G.orc, purT_ok (by
    intro q hq
    simp only [List.mem_cons, List.not_mem_nil, or_false] at hq
    subst hq; exact downOk G0 sF)⟩
  exact @nextOrc_ok _ _ _ GS rfl _ _ Tryz.func151 (by kernel_rfl) (by kernel_rfl) (fun e x b => ⟨frN x, enters x, yields GS e x b⟩) F
end Go.Proofs.YtlfkmklgbigfaaaGreatDoor.sha
end
