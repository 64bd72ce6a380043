/- The maps that are made of numbers are valid: runs of the evaluator. -/
import Derived.Test.YtfedgghdmiomkaaGreatTrRunB
set_option linter.unusedVariables false
set_option linter.unusedSimpArgs false
set_option linter.unusedSectionVars false
/- The maps that are made of numbers are valid: runs of the evaluator. -/
set_option linter.unusedVariables false
set_option linter.unusedSimpArgs false
set_option maxRecDepth 10000
namespace Go.TrRun
open Go Go.Eng

def okI (r : Option (AV × Mem)) (n : Int) : Bool := match r with
  | some (.w (.c (.int .i64 x)), []) => x == n
  | _ => false
theorem okI_R {f : FuncId} {a : List WV} {n : Int} (h : okI (runE L Cs 400 f a []) n = true) : R L Cs f a [] = some (.w (W n), []) := by
  refine R_iff.2 ⟨400, ?_⟩
  unfold okI at h
  split at h
  · rename_i x e
    have : x = n := by simpa using h
    rw [e, this]
  · cases h
def lims : List Int := [1500, 600, 1000, 300]
def mapR (v : Int) (k : Nat) (lim : Int) (Z S Wk : List (List Cl)) : WV := .a [I v, .rslice ((lanesP k lim).map laneC), .rslice Z, .rslice S, .rslice Wk]
theorem kl0 (v : Int) (Z S Wk : List (List Cl)) : (lims.all fun lim => okI (runE L Cs 400 f_roads_check_lanes [mapR v 0 lim Z S Wk] []) 0) = true := by kernel_rfl
theorem kj0 (v lim : Int) (Z S Wk : List (List Cl)) : okI (runE L Cs 400 f_roads_check_joints [mapR v 0 lim Z S Wk] []) 0 = true := by kernel_rfl
theorem kc0 (lim : Int) : ((lanesP 0 lim).all fun l => okI (runE L Cs 400 f_curve_Length [.a [ptsC l]] []) l.len && okI (runE L Cs 400 f_kerbstoneref01_Length [.a [ptsC l]] []) l.len) = true := by kernel_rfl
theorem rl0 (v : Int) (Z S Wk : List (List Cl)) : (lims.all fun lim => (List.range (lanesP 0 lim).length).all fun i => okI (runE L Cs 400 f_kerbstoneref03_checkLane [mapR v 0 lim Z S Wk, W i] []) 0) = true := by kernel_rfl
theorem rj0 (v lim : Int) (Z S Wk : List (List Cl)) : okI (runE L Cs 400 f_kerbstoneref03_checkNext [mapR v 0 lim Z S Wk] []) 0 = true := by kernel_rfl
theorem ks0 (v lim : Int) (Z Wk : List (List Cl)) : okI (runE L Cs 400 f_roads_check_signals [mapR v 0 lim Z [] Wk] []) 0 = true := by kernel_rfl
theorem kz0 (v lim : Int) (Wk : List (List Cl)) : ((List.range 2).all fun r => okI (runE L Cs 400 f_roads_check_zones [mapR v 0 lim (zonesP 0 r) [] Wk] []) 0 && (zonesP 0 r).all fun z => okI (runE L Cs 400 f_kerbstoneref03_checkZone [mapR v 0 lim (zonesP 0 r) [] Wk, .a z] []) 0) = true := by kernel_rfl
theorem kl1 (v : Int) (Z S Wk : List (List Cl)) : (lims.all fun lim => okI (runE L Cs 400 f_roads_check_lanes [mapR v 1 lim Z S Wk] []) 0) = true := by kernel_rfl
theorem kj1 (v lim : Int) (Z S Wk : List (List Cl)) : okI (runE L Cs 400 f_roads_check_joints [mapR v 1 lim Z S Wk] []) 0 = true := by kernel_rfl
theorem kc1 (lim : Int) : ((lanesP 1 lim).all fun l => okI (runE L Cs 400 f_curve_Length [.a [ptsC l]] []) l.len && okI (runE L Cs 400 f_kerbstoneref01_Length [.a [ptsC l]] []) l.len) = true := by kernel_rfl
theorem rl1 (v : Int) (Z S Wk : List (List Cl)) : (lims.all fun lim => (List.range (lanesP 1 lim).length).all fun i => okI (runE L Cs 400 f_kerbstoneref03_checkLane [mapR v 1 lim Z S Wk, W i] []) 0) = true := by kernel_rfl
theorem rj1 (v lim : Int) (Z S Wk : List (List Cl)) : okI (runE L Cs 400 f_kerbstoneref03_checkNext [mapR v 1 lim Z S Wk] []) 0 = true := by kernel_rfl
theorem ks1 (v lim : Int) (Z Wk : List (List Cl)) : okI (runE L Cs 400 f_roads_check_signals [mapR v 1 lim Z [] Wk] []) 0 = true := by kernel_rfl
theorem kz1 (v lim : Int) (Wk : List (List Cl)) : ((List.range 2).all fun r => okI (runE L Cs 400 f_roads_check_zones [mapR v 1 lim (zonesP 1 r) [] Wk] []) 0 && (zonesP 1 r).all fun z => okI (runE L Cs 400 f_kerbstoneref03_checkZone [mapR v 1 lim (zonesP 1 r) [] Wk, .a z] []) 0) = true := by kernel_rfl
theorem kl2 (v : Int) (Z S Wk : List (List Cl)) : (lims.all fun lim => okI (runE L Cs 400 f_roads_check_lanes [mapR v 2 lim Z S Wk] []) 0) = true := by kernel_rfl
theorem kj2 (v lim : Int) (Z S Wk : List (List Cl)) : okI (runE L Cs 400 f_roads_check_joints [mapR v 2 lim Z S Wk] []) 0 = true := by kernel_rfl
theorem kc2 (lim : Int) : ((lanesP 2 lim).all fun l => okI (runE L Cs 400 f_curve_Length [.a [ptsC l]] []) l.len && okI (runE L Cs 400 f_kerbstoneref01_Length [.a [ptsC l]] []) l.len) = true := by kernel_rfl
theorem rl2 (v : Int) (Z S Wk : List (List Cl)) : (lims.all fun lim => (List.range (lanesP 2 lim).length).all fun i => okI (runE L Cs 400 f_kerbstoneref03_checkLane [mapR v 2 lim Z S Wk, W i] []) 0) = true := by kernel_rfl
theorem rj2 (v lim : Int) (Z S Wk : List (List Cl)) : okI (runE L Cs 400 f_kerbstoneref03_checkNext [mapR v 2 lim Z S Wk] []) 0 = true := by kernel_rfl
theorem rs2 (v lim : Int) (Z S Wk : List (List Cl)) : ((List.range 31).all fun o => okI (runE L Cs 400 f_kerbstoneref03_checkSignal [mapR v 2 lim Z S Wk, .a (signalC o 0 1)] []) 0) = true := by kernel_rfl
theorem kz2 (v lim : Int) (s : List Cl) (Wk : List (List Cl)) : ((List.range 2).all fun r => okI (runE L Cs 400 f_roads_check_zones [mapR v 2 lim (zonesP 2 r) [s] Wk] []) 0 && (zonesP 2 r).all fun z => okI (runE L Cs 400 f_kerbstoneref03_checkZone [mapR v 2 lim (zonesP 2 r) [s] Wk, .a z] []) 0) = true := by kernel_rfl
theorem kl3 (v : Int) (Z S Wk : List (List Cl)) : (lims.all fun lim => okI (runE L Cs 400 f_roads_check_lanes [mapR v 3 lim Z S Wk] []) 0) = true := by kernel_rfl
theorem kj3 (v lim : Int) (Z S Wk : List (List Cl)) : okI (runE L Cs 400 f_roads_check_joints [mapR v 3 lim Z S Wk] []) 0 = true := by kernel_rfl
theorem kc3 (lim : Int) : ((lanesP 3 lim).all fun l => okI (runE L Cs 400 f_curve_Length [.a [ptsC l]] []) l.len && okI (runE L Cs 400 f_kerbstoneref01_Length [.a [ptsC l]] []) l.len) = true := by kernel_rfl
theorem rl3 (v : Int) (Z S Wk : List (List Cl)) : (lims.all fun lim => (List.range (lanesP 3 lim).length).all fun i => okI (runE L Cs 400 f_kerbstoneref03_checkLane [mapR v 3 lim Z S Wk, W i] []) 0) = true := by kernel_rfl
theorem rj3 (v lim : Int) (Z S Wk : List (List Cl)) : okI (runE L Cs 400 f_kerbstoneref03_checkNext [mapR v 3 lim Z S Wk] []) 0 = true := by kernel_rfl
theorem ks3 (v lim : Int) (Z Wk : List (List Cl)) : okI (runE L Cs 400 f_roads_check_signals [mapR v 3 lim Z [] Wk] []) 0 = true := by kernel_rfl
theorem kz3 (v lim : Int) (Wk : List (List Cl)) : ((List.range 2).all fun r => okI (runE L Cs 400 f_roads_check_zones [mapR v 3 lim (zonesP 3 r) [] Wk] []) 0 && (zonesP 3 r).all fun z => okI (runE L Cs 400 f_kerbstoneref03_checkZone [mapR v 3 lim (zonesP 3 r) [] Wk, .a z] []) 0) = true := by kernel_rfl
theorem kl4 (v : Int) (Z S Wk : List (List Cl)) : (lims.all fun lim => okI (runE L Cs 400 f_roads_check_lanes [mapR v 4 lim Z S Wk] []) 0) = true := by kernel_rfl
theorem kj4 (v lim : Int) (Z S Wk : List (List Cl)) : okI (runE L Cs 400 f_roads_check_joints [mapR v 4 lim Z S Wk] []) 0 = true := by kernel_rfl
theorem kc4 (lim : Int) : ((lanesP 4 lim).all fun l => okI (runE L Cs 400 f_curve_Length [.a [ptsC l]] []) l.len && okI (runE L Cs 400 f_kerbstoneref01_Length [.a [ptsC l]] []) l.len) = true := by kernel_rfl
theorem rl4 (v : Int) (Z S Wk : List (List Cl)) : (lims.all fun lim => (List.range (lanesP 4 lim).length).all fun i => okI (runE L Cs 400 f_kerbstoneref03_checkLane [mapR v 4 lim Z S Wk, W i] []) 0) = true := by kernel_rfl
theorem rj4 (v lim : Int) (Z S Wk : List (List Cl)) : okI (runE L Cs 400 f_kerbstoneref03_checkNext [mapR v 4 lim Z S Wk] []) 0 = true := by kernel_rfl
theorem ks4 (v lim : Int) (Z Wk : List (List Cl)) : okI (runE L Cs 400 f_roads_check_signals [mapR v 4 lim Z [] Wk] []) 0 = true := by kernel_rfl
theorem kz4 (v lim : Int) (Wk : List (List Cl)) : ((List.range 2).all fun r => okI (runE L Cs 400 f_roads_check_zones [mapR v 4 lim (zonesP 4 r) [] Wk] []) 0 && (zonesP 4 r).all fun z => okI (runE L Cs 400 f_kerbstoneref03_checkZone [mapR v 4 lim (zonesP 4 r) [] Wk, .a z] []) 0) = true := by kernel_rfl
theorem kl5 (v : Int) (Z S Wk : List (List Cl)) : (lims.all fun lim => okI (runE L Cs 400 f_roads_check_lanes [mapR v 5 lim Z S Wk] []) 0) = true := by kernel_rfl
theorem kj5 (v lim : Int) (Z S Wk : List (List Cl)) : okI (runE L Cs 400 f_roads_check_joints [mapR v 5 lim Z S Wk] []) 0 = true := by kernel_rfl
theorem kc5 (lim : Int) : ((lanesP 5 lim).all fun l => okI (runE L Cs 400 f_curve_Length [.a [ptsC l]] []) l.len && okI (runE L Cs 400 f_kerbstoneref01_Length [.a [ptsC l]] []) l.len) = true := by kernel_rfl
theorem rl5 (v : Int) (Z S Wk : List (List Cl)) : (lims.all fun lim => (List.range (lanesP 5 lim).length).all fun i => okI (runE L Cs 400 f_kerbstoneref03_checkLane [mapR v 5 lim Z S Wk, W i] []) 0) = true := by kernel_rfl
theorem rj5 (v lim : Int) (Z S Wk : List (List Cl)) : okI (runE L Cs 400 f_kerbstoneref03_checkNext [mapR v 5 lim Z S Wk] []) 0 = true := by kernel_rfl
theorem ks5 (v lim : Int) (Z Wk : List (List Cl)) : okI (runE L Cs 400 f_roads_check_signals [mapR v 5 lim Z [] Wk] []) 0 = true := by kernel_rfl
theorem kz5 (v lim : Int) (Wk : List (List Cl)) : ((List.range 2).all fun r => okI (runE L Cs 400 f_roads_check_zones [mapR v 5 lim (zonesP 5 r) [] Wk] []) 0 && (zonesP 5 r).all fun z => okI (runE L Cs 400 f_kerbstoneref03_checkZone [mapR v 5 lim (zonesP 5 r) [] Wk, .a z] []) 0) = true := by kernel_rfl
theorem kl6 (v : Int) (Z S Wk : List (List Cl)) : (lims.all fun lim => okI (runE L Cs 400 f_roads_check_lanes [mapR v 6 lim Z S Wk] []) 0) = true := by kernel_rfl
theorem kj6 (v lim : Int) (Z S Wk : List (List Cl)) : okI (runE L Cs 400 f_roads_check_joints [mapR v 6 lim Z S Wk] []) 0 = true := by kernel_rfl
theorem kc6 (lim : Int) : ((lanesP 6 lim).all fun l => okI (runE L Cs 400 f_curve_Length [.a [ptsC l]] []) l.len && okI (runE L Cs 400 f_kerbstoneref01_Length [.a [ptsC l]] []) l.len) = true := by kernel_rfl
theorem rl6 (v : Int) (Z S Wk : List (List Cl)) : (lims.all fun lim => (List.range (lanesP 6 lim).length).all fun i => okI (runE L Cs 400 f_kerbstoneref03_checkLane [mapR v 6 lim Z S Wk, W i] []) 0) = true := by kernel_rfl
theorem rj6 (v lim : Int) (Z S Wk : List (List Cl)) : okI (runE L Cs 400 f_kerbstoneref03_checkNext [mapR v 6 lim Z S Wk] []) 0 = true := by kernel_rfl
theorem rs6 (v lim : Int) (Z S Wk : List (List Cl)) : ((List.range 31).all fun o => okI (runE L Cs 400 f_kerbstoneref03_checkSignal [mapR v 6 lim Z S Wk, .a (signalC o 1 3)] []) 0 && okI (runE L Cs 400 f_kerbstoneref03_checkSignal [mapR v 6 lim Z S Wk, .a (signalC o 2 3)] []) 0) = true := by kernel_rfl
theorem kz6 (v lim : Int) (Wk : List (List Cl)) : (okI (runE L Cs 400 f_roads_check_zones [mapR v 6 lim (zonesP 6 0) [] Wk] []) 0 && (zonesP 6 0).all fun z => okI (runE L Cs 400 f_kerbstoneref03_checkZone [mapR v 6 lim (zonesP 6 0) [] Wk, .a z] []) 0) = true := by kernel_rfl
theorem kz6b (v lim : Int) (s s' : List Cl) (Wk : List (List Cl)) : (okI (runE L Cs 400 f_roads_check_zones [mapR v 6 lim (zonesP 6 1) [s, s'] Wk] []) 0 && (zonesP 6 1).all fun z => okI (runE L Cs 400 f_kerbstoneref03_checkZone [mapR v 6 lim (zonesP 6 1) [s, s'] Wk, .a z] []) 0) = true := by kernel_rfl
end Go.TrRun

