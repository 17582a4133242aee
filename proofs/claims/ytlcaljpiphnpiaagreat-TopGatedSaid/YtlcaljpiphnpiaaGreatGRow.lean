/- TopGated answers true at every input, and its arguments read behind the call as they read before. No condition. -/
import Derived.Test.YtlcaljpiphnpiaaGreatGR1
import Derived.Test.YtlcaljpiphnpiaaGreatGR2
import Derived.Test.YtlcaljpiphnpiaaGreatGR3
import Derived.Test.YtlcaljpiphnpiaaGreatGR4
import Derived.Test.YtlcaljpiphnpiaaGreatGR5
import Derived.Test.YtlcaljpiphnpiaaGreatGR6
import Derived.Test.YtlcaljpiphnpiaaGreatGF1
import Derived.Test.YtlcaljpiphnpiaaGreatGF2
import Derived.Test.YtlcaljpiphnpiaaGreatGF3
import Derived.Test.YtlcaljpiphnpiaaGreatGF4
import Derived.Test.YtlcaljpiphnpiaaGreatGF5
import Derived.Test.YtlcaljpiphnpiaaGreatGF6
import Derived.Test.YtlcaljpiphnpiaaGreatRows
import Derived.ChangeSlices
import Derived.ChangeSame
import Derived.JoinedOf
import Derived.JoinedAt
import Derived.SizedLaws
import Derived.Maps.OwnSet
import Derived.WideKeyElems2
import Derived.Seven
/- TopGated: its body answers true. -/
namespace Go.Sim
noncomputable section
open Go.RowKit

theorem gated_ways (V : Vals) (h : gIn V) : ∃ pc, ∃ ok : (∀ f, f ∈ pc → cmpV f.1 (f.2.1.eval V) (f.2.2.1.eval V) = some f.2.2.2),
    chkR 6 (@codeD ⟨V, pc, ok⟩ progA cfgG (@ev ⟨V, pc, ok⟩ progA cfgG 1000) bodyG ⟨stG, psG, []⟩ (patH [])) = true := by
  obtain ⟨⟨r0, s0⟩, ⟨r1, s1⟩, ⟨r2, s2⟩, ⟨r3, s3⟩⟩ := gr h
  by_cases b0 : g0 V = 2
  · by_cases b1 : g1 V = 2
    · by_cases b2 : g2 V = 2
      · by_cases b3 : g3 V = 2
        · exact ⟨gpc0, by intro f hf; simp only [gpc0, List.mem_cons, List.not_mem_nil, or_false] at hf; rcases hf with rfl | rfl | rfl | rfl | rfl | rfl | rfl | rfl | rfl | rfl | rfl | rfl | rfl | rfl | rfl | rfl | rfl | rfl | rfl | rfl | rfl | rfl | rfl | rfl | rfl | rfl <;> simp only [cmpV, SX.eval, gX0_eval V h, gX1_eval V h, gX2_eval V h, gX3_eval V h, gX4_eval V h, gX5_eval V h, gX6_eval V h, gX7_eval V h, gX8_eval V h, gX9_eval V h, gX10_eval V h, gX11_eval V h, Option.some.injEq] <;> simp <;> omega, g_leaf0 V _⟩
        · by_cases b4 : g1 V ≤ g3 V
          · exact ⟨gpc1, by intro f hf; simp only [gpc1, List.mem_cons, List.not_mem_nil, or_false] at hf; rcases hf with rfl | rfl | rfl | rfl | rfl | rfl | rfl | rfl | rfl | rfl | rfl | rfl | rfl | rfl | rfl | rfl | rfl | rfl | rfl | rfl | rfl | rfl | rfl | rfl | rfl <;> simp only [cmpV, SX.eval, gX0_eval V h, gX1_eval V h, gX2_eval V h, gX3_eval V h, gX4_eval V h, gX5_eval V h, gX6_eval V h, gX7_eval V h, gX8_eval V h, gX9_eval V h, gX10_eval V h, gX11_eval V h, Option.some.injEq] <;> simp <;> omega, g_leaf1 V _⟩
          · exact ⟨gpc2, by intro f hf; simp only [gpc2, List.mem_cons, List.not_mem_nil, or_false] at hf; rcases hf with rfl | rfl | rfl | rfl | rfl | rfl | rfl | rfl | rfl | rfl | rfl | rfl | rfl | rfl | rfl | rfl | rfl | rfl | rfl | rfl | rfl | rfl | rfl <;> simp only [cmpV, SX.eval, gX0_eval V h, gX1_eval V h, gX2_eval V h, gX3_eval V h, gX4_eval V h, gX5_eval V h, gX6_eval V h, gX7_eval V h, gX8_eval V h, gX9_eval V h, gX10_eval V h, gX11_eval V h, Option.some.injEq] <;> simp <;> omega, g_leaf2 V _⟩
      · by_cases b3 : g3 V = 2
        · by_cases b4 : g0 V ≤ g2 V
          · exact ⟨gpc3, by intro f hf; simp only [gpc3, List.mem_cons, List.not_mem_nil, or_false] at hf; rcases hf with rfl | rfl | rfl | rfl | rfl | rfl | rfl | rfl | rfl | rfl | rfl | rfl | rfl | rfl | rfl | rfl | rfl | rfl | rfl | rfl | rfl | rfl | rfl | rfl | rfl | rfl | rfl | rfl | rfl | rfl <;> simp only [cmpV, SX.eval, gX0_eval V h, gX1_eval V h, gX2_eval V h, gX3_eval V h, gX4_eval V h, gX5_eval V h, gX6_eval V h, gX7_eval V h, gX8_eval V h, gX9_eval V h, gX10_eval V h, gX11_eval V h, Option.some.injEq] <;> simp <;> omega, g_leaf3 V _⟩
          · exact ⟨gpc4, by intro f hf; simp only [gpc4, List.mem_cons, List.not_mem_nil, or_false] at hf; rcases hf with rfl | rfl | rfl | rfl | rfl | rfl | rfl | rfl | rfl | rfl | rfl | rfl | rfl | rfl | rfl | rfl | rfl | rfl | rfl | rfl <;> simp only [cmpV, SX.eval, gX1_eval V h, gX3_eval V h, gX4_eval V h, gX5_eval V h, gX6_eval V h, gX7_eval V h, gX8_eval V h, gX9_eval V h, gX10_eval V h, gX11_eval V h, Option.some.injEq] <;> simp <;> omega, g_leaf4 V _⟩
        · by_cases b4 : g0 V ≤ g2 V
          · by_cases b5 : g1 V ≤ g3 V
            · exact ⟨gpc5, by intro f hf; simp only [gpc5, List.mem_cons, List.not_mem_nil, or_false] at hf; rcases hf with rfl | rfl | rfl | rfl | rfl | rfl | rfl | rfl | rfl | rfl | rfl | rfl | rfl | rfl | rfl | rfl | rfl | rfl | rfl | rfl | rfl | rfl | rfl | rfl | rfl | rfl | rfl | rfl <;> simp only [cmpV, SX.eval, gX0_eval V h, gX1_eval V h, gX2_eval V h, gX3_eval V h, gX4_eval V h, gX5_eval V h, gX6_eval V h, gX7_eval V h, gX8_eval V h, gX9_eval V h, gX10_eval V h, gX11_eval V h, Option.some.injEq] <;> simp <;> omega, g_leaf5 V _⟩
            · exact ⟨gpc6, by intro f hf; simp only [gpc6, List.mem_cons, List.not_mem_nil, or_false] at hf; rcases hf with rfl | rfl | rfl | rfl | rfl | rfl | rfl | rfl | rfl | rfl | rfl | rfl | rfl | rfl | rfl | rfl | rfl | rfl | rfl | rfl | rfl | rfl | rfl | rfl | rfl <;> simp only [cmpV, SX.eval, gX0_eval V h, gX1_eval V h, gX2_eval V h, gX3_eval V h, gX4_eval V h, gX5_eval V h, gX6_eval V h, gX7_eval V h, gX8_eval V h, gX9_eval V h, gX10_eval V h, gX11_eval V h, Option.some.injEq] <;> simp <;> omega, g_leaf6 V _⟩
          · exact ⟨gpc7, by intro f hf; simp only [gpc7, List.mem_cons, List.not_mem_nil, or_false] at hf; rcases hf with rfl | rfl | rfl | rfl | rfl | rfl | rfl | rfl | rfl | rfl | rfl | rfl | rfl | rfl | rfl | rfl | rfl | rfl | rfl | rfl | rfl <;> simp only [cmpV, SX.eval, gX1_eval V h, gX3_eval V h, gX4_eval V h, gX5_eval V h, gX6_eval V h, gX7_eval V h, gX8_eval V h, gX9_eval V h, gX10_eval V h, gX11_eval V h, Option.some.injEq] <;> simp <;> omega, g_leaf7 V _⟩
    · by_cases b2 : g2 V = 2
      · by_cases b3 : g3 V = 2
        · by_cases b4 : 2 ≤ g1 V
          · exact ⟨gpc8, by intro f hf; simp only [gpc8, List.mem_cons, List.not_mem_nil, or_false] at hf; rcases hf with rfl | rfl | rfl | rfl | rfl | rfl | rfl | rfl | rfl | rfl | rfl | rfl | rfl | rfl | rfl | rfl | rfl | rfl | rfl | rfl | rfl | rfl | rfl | rfl <;> simp only [cmpV, SX.eval, gX0_eval V h, gX1_eval V h, gX2_eval V h, gX3_eval V h, gX4_eval V h, gX5_eval V h, gX6_eval V h, gX7_eval V h, gX8_eval V h, gX9_eval V h, gX10_eval V h, gX11_eval V h, Option.some.injEq] <;> simp <;> omega, g_leaf8 V _⟩
          · exact ⟨gpc9, by intro f hf; simp only [gpc9, List.mem_cons, List.not_mem_nil, or_false] at hf; rcases hf with rfl | rfl | rfl | rfl | rfl | rfl | rfl | rfl | rfl | rfl | rfl | rfl | rfl | rfl | rfl | rfl | rfl | rfl | rfl | rfl | rfl | rfl <;> simp only [cmpV, SX.eval, gX1_eval V h, gX2_eval V h, gX3_eval V h, gX4_eval V h, gX5_eval V h, gX6_eval V h, gX7_eval V h, gX8_eval V h, gX9_eval V h, gX10_eval V h, gX11_eval V h, Option.some.injEq] <;> simp <;> omega, g_leaf9 V _⟩
        · by_cases b4 : 2 ≤ g1 V
          · by_cases b5 : g1 V ≤ g3 V
            · exact ⟨gpc10, by intro f hf; simp only [gpc10, List.mem_cons, List.not_mem_nil, or_false] at hf; rcases hf with rfl | rfl | rfl | rfl | rfl | rfl | rfl | rfl | rfl | rfl | rfl | rfl | rfl | rfl | rfl | rfl | rfl | rfl | rfl | rfl | rfl | rfl | rfl | rfl | rfl | rfl | rfl <;> simp only [cmpV, SX.eval, gX0_eval V h, gX1_eval V h, gX2_eval V h, gX3_eval V h, gX4_eval V h, gX5_eval V h, gX6_eval V h, gX7_eval V h, gX8_eval V h, gX9_eval V h, gX10_eval V h, gX11_eval V h, Option.some.injEq] <;> simp <;> omega, g_leaf10 V _⟩
            · exact ⟨gpc11, by intro f hf; simp only [gpc11, List.mem_cons, List.not_mem_nil, or_false] at hf; rcases hf with rfl | rfl | rfl | rfl | rfl | rfl | rfl | rfl | rfl | rfl | rfl | rfl | rfl | rfl | rfl | rfl | rfl | rfl | rfl | rfl | rfl | rfl | rfl | rfl | rfl <;> simp only [cmpV, SX.eval, gX0_eval V h, gX1_eval V h, gX2_eval V h, gX3_eval V h, gX4_eval V h, gX5_eval V h, gX6_eval V h, gX7_eval V h, gX8_eval V h, gX9_eval V h, gX10_eval V h, gX11_eval V h, Option.some.injEq] <;> simp <;> omega, g_leaf11 V _⟩
          · exact ⟨gpc12, by intro f hf; simp only [gpc12, List.mem_cons, List.not_mem_nil, or_false] at hf; rcases hf with rfl | rfl | rfl | rfl | rfl | rfl | rfl | rfl | rfl | rfl | rfl | rfl | rfl | rfl | rfl | rfl | rfl | rfl | rfl | rfl | rfl | rfl | rfl <;> simp only [cmpV, SX.eval, gX1_eval V h, gX2_eval V h, gX3_eval V h, gX4_eval V h, gX5_eval V h, gX6_eval V h, gX7_eval V h, gX8_eval V h, gX9_eval V h, gX10_eval V h, gX11_eval V h, Option.some.injEq] <;> simp <;> omega, g_leaf12 V _⟩
      · by_cases b3 : g3 V = 2
        · by_cases b4 : g0 V ≤ g2 V
          · by_cases b5 : 2 ≤ g1 V
            · exact ⟨gpc13, by intro f hf; simp only [gpc13, List.mem_cons, List.not_mem_nil, or_false] at hf; rcases hf with rfl | rfl | rfl | rfl | rfl | rfl | rfl | rfl | rfl | rfl | rfl | rfl | rfl | rfl | rfl | rfl | rfl | rfl | rfl | rfl | rfl | rfl | rfl | rfl | rfl | rfl <;> simp only [cmpV, SX.eval, gX0_eval V h, gX1_eval V h, gX2_eval V h, gX3_eval V h, gX4_eval V h, gX5_eval V h, gX6_eval V h, gX7_eval V h, gX8_eval V h, gX9_eval V h, gX10_eval V h, gX11_eval V h, Option.some.injEq] <;> simp <;> omega, g_leaf13 V _⟩
            · exact ⟨gpc14, by intro f hf; simp only [gpc14, List.mem_cons, List.not_mem_nil, or_false] at hf; rcases hf with rfl | rfl | rfl | rfl | rfl | rfl | rfl | rfl | rfl | rfl | rfl | rfl | rfl | rfl | rfl | rfl | rfl | rfl | rfl | rfl | rfl | rfl | rfl <;> simp only [cmpV, SX.eval, gX1_eval V h, gX2_eval V h, gX3_eval V h, gX4_eval V h, gX5_eval V h, gX6_eval V h, gX7_eval V h, gX8_eval V h, gX9_eval V h, gX10_eval V h, gX11_eval V h, Option.some.injEq] <;> simp <;> omega, g_leaf14 V _⟩
          · by_cases b5 : 2 ≤ g1 V
            · exact ⟨gpc15, by intro f hf; simp only [gpc15, List.mem_cons, List.not_mem_nil, or_false] at hf; rcases hf with rfl | rfl | rfl | rfl | rfl | rfl | rfl | rfl | rfl | rfl | rfl | rfl | rfl | rfl | rfl | rfl | rfl | rfl | rfl | rfl | rfl | rfl <;> simp only [cmpV, SX.eval, gX1_eval V h, gX3_eval V h, gX4_eval V h, gX5_eval V h, gX6_eval V h, gX7_eval V h, gX8_eval V h, gX9_eval V h, gX10_eval V h, gX11_eval V h, Option.some.injEq] <;> simp <;> omega, g_leaf15 V _⟩
            · exact ⟨gpc16, by intro f hf; simp only [gpc16, List.mem_cons, List.not_mem_nil, or_false] at hf; rcases hf with rfl | rfl | rfl | rfl | rfl | rfl | rfl | rfl | rfl | rfl | rfl | rfl | rfl | rfl | rfl | rfl | rfl | rfl | rfl | rfl | rfl <;> simp only [cmpV, SX.eval, gX1_eval V h, gX3_eval V h, gX4_eval V h, gX5_eval V h, gX6_eval V h, gX7_eval V h, gX8_eval V h, gX9_eval V h, gX10_eval V h, gX11_eval V h, Option.some.injEq] <;> simp <;> omega, g_leaf16 V _⟩
        · by_cases b4 : g0 V ≤ g2 V
          · by_cases b5 : 2 ≤ g1 V
            · by_cases b6 : g1 V ≤ g3 V
              · exact ⟨gpc17, by intro f hf; simp only [gpc17, List.mem_cons, List.not_mem_nil, or_false] at hf; rcases hf with rfl | rfl | rfl | rfl | rfl | rfl | rfl | rfl | rfl | rfl | rfl | rfl | rfl | rfl | rfl | rfl | rfl | rfl | rfl | rfl | rfl | rfl | rfl | rfl | rfl | rfl | rfl | rfl | rfl | rfl <;> simp only [cmpV, SX.eval, gX0_eval V h, gX1_eval V h, gX2_eval V h, gX3_eval V h, gX4_eval V h, gX5_eval V h, gX6_eval V h, gX7_eval V h, gX8_eval V h, gX9_eval V h, gX10_eval V h, gX11_eval V h, Option.some.injEq] <;> simp <;> omega, g_leaf17 V _⟩
              · exact ⟨gpc18, by intro f hf; simp only [gpc18, List.mem_cons, List.not_mem_nil, or_false] at hf; rcases hf with rfl | rfl | rfl | rfl | rfl | rfl | rfl | rfl | rfl | rfl | rfl | rfl | rfl | rfl | rfl | rfl | rfl | rfl | rfl | rfl | rfl | rfl | rfl | rfl | rfl | rfl | rfl <;> simp only [cmpV, SX.eval, gX0_eval V h, gX1_eval V h, gX2_eval V h, gX3_eval V h, gX4_eval V h, gX5_eval V h, gX6_eval V h, gX7_eval V h, gX8_eval V h, gX9_eval V h, gX10_eval V h, gX11_eval V h, Option.some.injEq] <;> simp <;> omega, g_leaf18 V _⟩
            · exact ⟨gpc19, by intro f hf; simp only [gpc19, List.mem_cons, List.not_mem_nil, or_false] at hf; rcases hf with rfl | rfl | rfl | rfl | rfl | rfl | rfl | rfl | rfl | rfl | rfl | rfl | rfl | rfl | rfl | rfl | rfl | rfl | rfl | rfl | rfl | rfl | rfl | rfl <;> simp only [cmpV, SX.eval, gX1_eval V h, gX2_eval V h, gX3_eval V h, gX4_eval V h, gX5_eval V h, gX6_eval V h, gX7_eval V h, gX8_eval V h, gX9_eval V h, gX10_eval V h, gX11_eval V h, Option.some.injEq] <;> simp <;> omega, g_leaf19 V _⟩
          · by_cases b5 : 2 ≤ g1 V
            · exact ⟨gpc20, by intro f hf; simp only [gpc20, List.mem_cons, List.not_mem_nil, or_false] at hf; rcases hf with rfl | rfl | rfl | rfl | rfl | rfl | rfl | rfl | rfl | rfl | rfl | rfl | rfl | rfl | rfl | rfl | rfl | rfl | rfl | rfl | rfl | rfl | rfl <;> simp only [cmpV, SX.eval, gX1_eval V h, gX3_eval V h, gX4_eval V h, gX5_eval V h, gX6_eval V h, gX7_eval V h, gX8_eval V h, gX9_eval V h, gX10_eval V h, gX11_eval V h, Option.some.injEq] <;> simp <;> omega, g_leaf20 V _⟩
            · exact ⟨gpc21, by intro f hf; simp only [gpc21, List.mem_cons, List.not_mem_nil, or_false] at hf; rcases hf with rfl | rfl | rfl | rfl | rfl | rfl | rfl | rfl | rfl | rfl | rfl | rfl | rfl | rfl | rfl | rfl | rfl | rfl | rfl | rfl | rfl | rfl <;> simp only [cmpV, SX.eval, gX1_eval V h, gX3_eval V h, gX4_eval V h, gX5_eval V h, gX6_eval V h, gX7_eval V h, gX8_eval V h, gX9_eval V h, gX10_eval V h, gX11_eval V h, Option.some.injEq] <;> simp <;> omega, g_leaf21 V _⟩
  · by_cases b1 : g1 V = 2
    · by_cases b2 : g2 V = 2
      · by_cases b3 : g3 V = 2
        · by_cases b4 : g0 V ≤ g2 V
          · exact ⟨gpc22, by intro f hf; simp only [gpc22, List.mem_cons, List.not_mem_nil, or_false] at hf; rcases hf with rfl | rfl | rfl | rfl | rfl | rfl | rfl | rfl | rfl | rfl | rfl | rfl | rfl | rfl | rfl | rfl | rfl | rfl | rfl | rfl | rfl | rfl | rfl | rfl | rfl | rfl | rfl | rfl | rfl | rfl <;> simp only [cmpV, SX.eval, gX0_eval V h, gX1_eval V h, gX2_eval V h, gX3_eval V h, gX4_eval V h, gX5_eval V h, gX6_eval V h, gX7_eval V h, gX8_eval V h, gX9_eval V h, gX10_eval V h, gX11_eval V h, Option.some.injEq] <;> simp <;> omega, g_leaf22 V _⟩
          · exact ⟨gpc23, by intro f hf; simp only [gpc23, List.mem_cons, List.not_mem_nil, or_false] at hf; rcases hf with rfl | rfl | rfl | rfl | rfl | rfl | rfl | rfl | rfl | rfl | rfl | rfl | rfl | rfl | rfl | rfl | rfl | rfl | rfl | rfl | rfl <;> simp only [cmpV, SX.eval, gX1_eval V h, gX3_eval V h, gX4_eval V h, gX5_eval V h, gX6_eval V h, gX7_eval V h, gX8_eval V h, gX9_eval V h, gX10_eval V h, gX11_eval V h, Option.some.injEq] <;> simp <;> omega, g_leaf23 V _⟩
        · by_cases b4 : g0 V ≤ g2 V
          · by_cases b5 : g1 V ≤ g3 V
            · exact ⟨gpc24, by intro f hf; simp only [gpc24, List.mem_cons, List.not_mem_nil, or_false] at hf; rcases hf with rfl | rfl | rfl | rfl | rfl | rfl | rfl | rfl | rfl | rfl | rfl | rfl | rfl | rfl | rfl | rfl | rfl | rfl | rfl | rfl | rfl | rfl | rfl | rfl | rfl | rfl | rfl | rfl <;> simp only [cmpV, SX.eval, gX0_eval V h, gX1_eval V h, gX2_eval V h, gX3_eval V h, gX4_eval V h, gX5_eval V h, gX6_eval V h, gX7_eval V h, gX8_eval V h, gX9_eval V h, gX10_eval V h, gX11_eval V h, Option.some.injEq] <;> simp <;> omega, g_leaf24 V _⟩
            · exact ⟨gpc25, by intro f hf; simp only [gpc25, List.mem_cons, List.not_mem_nil, or_false] at hf; rcases hf with rfl | rfl | rfl | rfl | rfl | rfl | rfl | rfl | rfl | rfl | rfl | rfl | rfl | rfl | rfl | rfl | rfl | rfl | rfl | rfl | rfl | rfl | rfl | rfl | rfl | rfl <;> simp only [cmpV, SX.eval, gX0_eval V h, gX1_eval V h, gX2_eval V h, gX3_eval V h, gX4_eval V h, gX5_eval V h, gX6_eval V h, gX7_eval V h, gX8_eval V h, gX9_eval V h, gX10_eval V h, gX11_eval V h, Option.some.injEq] <;> simp <;> omega, g_leaf25 V _⟩
          · exact ⟨gpc26, by intro f hf; simp only [gpc26, List.mem_cons, List.not_mem_nil, or_false] at hf; rcases hf with rfl | rfl | rfl | rfl | rfl | rfl | rfl | rfl | rfl | rfl | rfl | rfl | rfl | rfl | rfl | rfl | rfl | rfl | rfl | rfl | rfl | rfl <;> simp only [cmpV, SX.eval, gX1_eval V h, gX3_eval V h, gX4_eval V h, gX5_eval V h, gX6_eval V h, gX7_eval V h, gX8_eval V h, gX9_eval V h, gX10_eval V h, gX11_eval V h, Option.some.injEq] <;> simp <;> omega, g_leaf26 V _⟩
      · by_cases b3 : g3 V = 2
        · by_cases b4 : g0 V ≤ g2 V
          · exact ⟨gpc27, by intro f hf; simp only [gpc27, List.mem_cons, List.not_mem_nil, or_false] at hf; rcases hf with rfl | rfl | rfl | rfl | rfl | rfl | rfl | rfl | rfl | rfl | rfl | rfl | rfl | rfl | rfl | rfl | rfl | rfl | rfl | rfl | rfl | rfl | rfl | rfl | rfl | rfl | rfl | rfl | rfl | rfl | rfl | rfl | rfl <;> simp only [cmpV, SX.eval, gX0_eval V h, gX1_eval V h, gX2_eval V h, gX3_eval V h, gX4_eval V h, gX5_eval V h, gX6_eval V h, gX7_eval V h, gX8_eval V h, gX9_eval V h, gX10_eval V h, gX11_eval V h, Option.some.injEq] <;> simp <;> omega, g_leaf27 V _⟩
          · exact ⟨gpc28, by intro f hf; simp only [gpc28, List.mem_cons, List.not_mem_nil, or_false] at hf; rcases hf with rfl | rfl | rfl | rfl | rfl | rfl | rfl | rfl | rfl | rfl | rfl | rfl | rfl | rfl | rfl | rfl | rfl | rfl | rfl | rfl | rfl | rfl <;> simp only [cmpV, SX.eval, gX1_eval V h, gX3_eval V h, gX4_eval V h, gX5_eval V h, gX6_eval V h, gX7_eval V h, gX8_eval V h, gX9_eval V h, gX10_eval V h, gX11_eval V h, Option.some.injEq] <;> simp <;> omega, g_leaf28 V _⟩
        · by_cases b4 : g0 V ≤ g2 V
          · by_cases b5 : g1 V ≤ g3 V
            · exact ⟨gpc29, by intro f hf; simp only [gpc29, List.mem_cons, List.not_mem_nil, or_false] at hf; rcases hf with rfl | rfl | rfl | rfl | rfl | rfl | rfl | rfl | rfl | rfl | rfl | rfl | rfl | rfl | rfl | rfl | rfl | rfl | rfl | rfl | rfl | rfl | rfl | rfl | rfl | rfl | rfl | rfl | rfl | rfl <;> simp only [cmpV, SX.eval, gX0_eval V h, gX1_eval V h, gX2_eval V h, gX3_eval V h, gX4_eval V h, gX5_eval V h, gX6_eval V h, gX7_eval V h, gX8_eval V h, gX9_eval V h, gX10_eval V h, gX11_eval V h, Option.some.injEq] <;> simp <;> omega, g_leaf29 V _⟩
            · exact ⟨gpc30, by intro f hf; simp only [gpc30, List.mem_cons, List.not_mem_nil, or_false] at hf; rcases hf with rfl | rfl | rfl | rfl | rfl | rfl | rfl | rfl | rfl | rfl | rfl | rfl | rfl | rfl | rfl | rfl | rfl | rfl | rfl | rfl | rfl | rfl | rfl | rfl | rfl | rfl | rfl <;> simp only [cmpV, SX.eval, gX0_eval V h, gX1_eval V h, gX2_eval V h, gX3_eval V h, gX4_eval V h, gX5_eval V h, gX6_eval V h, gX7_eval V h, gX8_eval V h, gX9_eval V h, gX10_eval V h, gX11_eval V h, Option.some.injEq] <;> simp <;> omega, g_leaf30 V _⟩
          · exact ⟨gpc31, by intro f hf; simp only [gpc31, List.mem_cons, List.not_mem_nil, or_false] at hf; rcases hf with rfl | rfl | rfl | rfl | rfl | rfl | rfl | rfl | rfl | rfl | rfl | rfl | rfl | rfl | rfl | rfl | rfl | rfl | rfl | rfl | rfl | rfl | rfl <;> simp only [cmpV, SX.eval, gX1_eval V h, gX3_eval V h, gX4_eval V h, gX5_eval V h, gX6_eval V h, gX7_eval V h, gX8_eval V h, gX9_eval V h, gX10_eval V h, gX11_eval V h, Option.some.injEq] <;> simp <;> omega, g_leaf31 V _⟩
    · by_cases b2 : g2 V = 2
      · by_cases b3 : g3 V = 2
        · by_cases b4 : g0 V ≤ g2 V
          · by_cases b5 : 2 ≤ g1 V
            · exact ⟨gpc32, by intro f hf; simp only [gpc32, List.mem_cons, List.not_mem_nil, or_false] at hf; rcases hf with rfl | rfl | rfl | rfl | rfl | rfl | rfl | rfl | rfl | rfl | rfl | rfl | rfl | rfl | rfl | rfl | rfl | rfl | rfl | rfl | rfl | rfl | rfl | rfl | rfl | rfl | rfl <;> simp only [cmpV, SX.eval, gX0_eval V h, gX1_eval V h, gX2_eval V h, gX3_eval V h, gX4_eval V h, gX5_eval V h, gX6_eval V h, gX7_eval V h, gX8_eval V h, gX9_eval V h, gX10_eval V h, gX11_eval V h, Option.some.injEq] <;> simp <;> omega, g_leaf32 V _⟩
            · exact ⟨gpc33, by intro f hf; simp only [gpc33, List.mem_cons, List.not_mem_nil, or_false] at hf; rcases hf with rfl | rfl | rfl | rfl | rfl | rfl | rfl | rfl | rfl | rfl | rfl | rfl | rfl | rfl | rfl | rfl | rfl | rfl | rfl | rfl | rfl | rfl | rfl | rfl <;> simp only [cmpV, SX.eval, gX1_eval V h, gX2_eval V h, gX3_eval V h, gX4_eval V h, gX5_eval V h, gX6_eval V h, gX7_eval V h, gX8_eval V h, gX9_eval V h, gX10_eval V h, gX11_eval V h, Option.some.injEq] <;> simp <;> omega, g_leaf33 V _⟩
          · by_cases b5 : 2 ≤ g1 V
            · exact ⟨gpc34, by intro f hf; simp only [gpc34, List.mem_cons, List.not_mem_nil, or_false] at hf; rcases hf with rfl | rfl | rfl | rfl | rfl | rfl | rfl | rfl | rfl | rfl | rfl | rfl | rfl | rfl | rfl | rfl | rfl | rfl | rfl | rfl | rfl | rfl | rfl <;> simp only [cmpV, SX.eval, gX1_eval V h, gX3_eval V h, gX4_eval V h, gX5_eval V h, gX6_eval V h, gX7_eval V h, gX8_eval V h, gX9_eval V h, gX10_eval V h, gX11_eval V h, Option.some.injEq] <;> simp <;> omega, g_leaf34 V _⟩
            · exact ⟨gpc35, by intro f hf; simp only [gpc35, List.mem_cons, List.not_mem_nil, or_false] at hf; rcases hf with rfl | rfl | rfl | rfl | rfl | rfl | rfl | rfl | rfl | rfl | rfl | rfl | rfl | rfl | rfl | rfl | rfl | rfl | rfl | rfl | rfl | rfl <;> simp only [cmpV, SX.eval, gX1_eval V h, gX3_eval V h, gX4_eval V h, gX5_eval V h, gX6_eval V h, gX7_eval V h, gX8_eval V h, gX9_eval V h, gX10_eval V h, gX11_eval V h, Option.some.injEq] <;> simp <;> omega, g_leaf35 V _⟩
        · by_cases b4 : g0 V ≤ g2 V
          · by_cases b5 : 2 ≤ g1 V
            · by_cases b6 : g1 V ≤ g3 V
              · exact ⟨gpc36, by intro f hf; simp only [gpc36, List.mem_cons, List.not_mem_nil, or_false] at hf; rcases hf with rfl | rfl | rfl | rfl | rfl | rfl | rfl | rfl | rfl | rfl | rfl | rfl | rfl | rfl | rfl | rfl | rfl | rfl | rfl | rfl | rfl | rfl | rfl | rfl | rfl | rfl | rfl | rfl | rfl | rfl <;> simp only [cmpV, SX.eval, gX0_eval V h, gX1_eval V h, gX2_eval V h, gX3_eval V h, gX4_eval V h, gX5_eval V h, gX6_eval V h, gX7_eval V h, gX8_eval V h, gX9_eval V h, gX10_eval V h, gX11_eval V h, Option.some.injEq] <;> simp <;> omega, g_leaf36 V _⟩
              · exact ⟨gpc37, by intro f hf; simp only [gpc37, List.mem_cons, List.not_mem_nil, or_false] at hf; rcases hf with rfl | rfl | rfl | rfl | rfl | rfl | rfl | rfl | rfl | rfl | rfl | rfl | rfl | rfl | rfl | rfl | rfl | rfl | rfl | rfl | rfl | rfl | rfl | rfl | rfl | rfl | rfl | rfl <;> simp only [cmpV, SX.eval, gX0_eval V h, gX1_eval V h, gX2_eval V h, gX3_eval V h, gX4_eval V h, gX5_eval V h, gX6_eval V h, gX7_eval V h, gX8_eval V h, gX9_eval V h, gX10_eval V h, gX11_eval V h, Option.some.injEq] <;> simp <;> omega, g_leaf37 V _⟩
            · exact ⟨gpc38, by intro f hf; simp only [gpc38, List.mem_cons, List.not_mem_nil, or_false] at hf; rcases hf with rfl | rfl | rfl | rfl | rfl | rfl | rfl | rfl | rfl | rfl | rfl | rfl | rfl | rfl | rfl | rfl | rfl | rfl | rfl | rfl | rfl | rfl | rfl | rfl | rfl <;> simp only [cmpV, SX.eval, gX1_eval V h, gX2_eval V h, gX3_eval V h, gX4_eval V h, gX5_eval V h, gX6_eval V h, gX7_eval V h, gX8_eval V h, gX9_eval V h, gX10_eval V h, gX11_eval V h, Option.some.injEq] <;> simp <;> omega, g_leaf38 V _⟩
          · by_cases b5 : 2 ≤ g1 V
            · exact ⟨gpc39, by intro f hf; simp only [gpc39, List.mem_cons, List.not_mem_nil, or_false] at hf; rcases hf with rfl | rfl | rfl | rfl | rfl | rfl | rfl | rfl | rfl | rfl | rfl | rfl | rfl | rfl | rfl | rfl | rfl | rfl | rfl | rfl | rfl | rfl | rfl | rfl <;> simp only [cmpV, SX.eval, gX1_eval V h, gX3_eval V h, gX4_eval V h, gX5_eval V h, gX6_eval V h, gX7_eval V h, gX8_eval V h, gX9_eval V h, gX10_eval V h, gX11_eval V h, Option.some.injEq] <;> simp <;> omega, g_leaf39 V _⟩
            · exact ⟨gpc40, by intro f hf; simp only [gpc40, List.mem_cons, List.not_mem_nil, or_false] at hf; rcases hf with rfl | rfl | rfl | rfl | rfl | rfl | rfl | rfl | rfl | rfl | rfl | rfl | rfl | rfl | rfl | rfl | rfl | rfl | rfl | rfl | rfl | rfl | rfl <;> simp only [cmpV, SX.eval, gX1_eval V h, gX3_eval V h, gX4_eval V h, gX5_eval V h, gX6_eval V h, gX7_eval V h, gX8_eval V h, gX9_eval V h, gX10_eval V h, gX11_eval V h, Option.some.injEq] <;> simp <;> omega, g_leaf40 V _⟩
      · by_cases b3 : g3 V = 2
        · by_cases b4 : g0 V ≤ g2 V
          · by_cases b5 : 2 ≤ g1 V
            · exact ⟨gpc41, by intro f hf; simp only [gpc41, List.mem_cons, List.not_mem_nil, or_false] at hf; rcases hf with rfl | rfl | rfl | rfl | rfl | rfl | rfl | rfl | rfl | rfl | rfl | rfl | rfl | rfl | rfl | rfl | rfl | rfl | rfl | rfl | rfl | rfl | rfl | rfl | rfl | rfl | rfl | rfl <;> simp only [cmpV, SX.eval, gX0_eval V h, gX1_eval V h, gX2_eval V h, gX3_eval V h, gX4_eval V h, gX5_eval V h, gX6_eval V h, gX7_eval V h, gX8_eval V h, gX9_eval V h, gX10_eval V h, gX11_eval V h, Option.some.injEq] <;> simp <;> omega, g_leaf41 V _⟩
            · exact ⟨gpc42, by intro f hf; simp only [gpc42, List.mem_cons, List.not_mem_nil, or_false] at hf; rcases hf with rfl | rfl | rfl | rfl | rfl | rfl | rfl | rfl | rfl | rfl | rfl | rfl | rfl | rfl | rfl | rfl | rfl | rfl | rfl | rfl | rfl | rfl | rfl | rfl | rfl <;> simp only [cmpV, SX.eval, gX1_eval V h, gX2_eval V h, gX3_eval V h, gX4_eval V h, gX5_eval V h, gX6_eval V h, gX7_eval V h, gX8_eval V h, gX9_eval V h, gX10_eval V h, gX11_eval V h, Option.some.injEq] <;> simp <;> omega, g_leaf42 V _⟩
          · by_cases b5 : 2 ≤ g1 V
            · exact ⟨gpc43, by intro f hf; simp only [gpc43, List.mem_cons, List.not_mem_nil, or_false] at hf; rcases hf with rfl | rfl | rfl | rfl | rfl | rfl | rfl | rfl | rfl | rfl | rfl | rfl | rfl | rfl | rfl | rfl | rfl | rfl | rfl | rfl | rfl | rfl | rfl | rfl <;> simp only [cmpV, SX.eval, gX1_eval V h, gX3_eval V h, gX4_eval V h, gX5_eval V h, gX6_eval V h, gX7_eval V h, gX8_eval V h, gX9_eval V h, gX10_eval V h, gX11_eval V h, Option.some.injEq] <;> simp <;> omega, g_leaf43 V _⟩
            · exact ⟨gpc44, by intro f hf; simp only [gpc44, List.mem_cons, List.not_mem_nil, or_false] at hf; rcases hf with rfl | rfl | rfl | rfl | rfl | rfl | rfl | rfl | rfl | rfl | rfl | rfl | rfl | rfl | rfl | rfl | rfl | rfl | rfl | rfl | rfl | rfl | rfl <;> simp only [cmpV, SX.eval, gX1_eval V h, gX3_eval V h, gX4_eval V h, gX5_eval V h, gX6_eval V h, gX7_eval V h, gX8_eval V h, gX9_eval V h, gX10_eval V h, gX11_eval V h, Option.some.injEq] <;> simp <;> omega, g_leaf44 V _⟩
        · by_cases b4 : g0 V ≤ g2 V
          · by_cases b5 : 2 ≤ g1 V
            · by_cases b6 : g1 V ≤ g3 V
              · exact ⟨gpc45, by intro f hf; simp only [gpc45, List.mem_cons, List.not_mem_nil, or_false] at hf; rcases hf with rfl | rfl | rfl | rfl | rfl | rfl | rfl | rfl | rfl | rfl | rfl | rfl | rfl | rfl | rfl | rfl | rfl | rfl | rfl | rfl | rfl | rfl | rfl | rfl | rfl | rfl | rfl | rfl | rfl | rfl | rfl | rfl <;> simp only [cmpV, SX.eval, gX0_eval V h, gX1_eval V h, gX2_eval V h, gX3_eval V h, gX4_eval V h, gX5_eval V h, gX6_eval V h, gX7_eval V h, gX8_eval V h, gX9_eval V h, gX10_eval V h, gX11_eval V h, Option.some.injEq] <;> simp <;> omega, g_leaf45 V _⟩
              · exact ⟨gpc46, by intro f hf; simp only [gpc46, List.mem_cons, List.not_mem_nil, or_false] at hf; rcases hf with rfl | rfl | rfl | rfl | rfl | rfl | rfl | rfl | rfl | rfl | rfl | rfl | rfl | rfl | rfl | rfl | rfl | rfl | rfl | rfl | rfl | rfl | rfl | rfl | rfl | rfl | rfl | rfl | rfl <;> simp only [cmpV, SX.eval, gX0_eval V h, gX1_eval V h, gX2_eval V h, gX3_eval V h, gX4_eval V h, gX5_eval V h, gX6_eval V h, gX7_eval V h, gX8_eval V h, gX9_eval V h, gX10_eval V h, gX11_eval V h, Option.some.injEq] <;> simp <;> omega, g_leaf46 V _⟩
            · exact ⟨gpc47, by intro f hf; simp only [gpc47, List.mem_cons, List.not_mem_nil, or_false] at hf; rcases hf with rfl | rfl | rfl | rfl | rfl | rfl | rfl | rfl | rfl | rfl | rfl | rfl | rfl | rfl | rfl | rfl | rfl | rfl | rfl | rfl | rfl | rfl | rfl | rfl | rfl | rfl <;> simp only [cmpV, SX.eval, gX1_eval V h, gX2_eval V h, gX3_eval V h, gX4_eval V h, gX5_eval V h, gX6_eval V h, gX7_eval V h, gX8_eval V h, gX9_eval V h, gX10_eval V h, gX11_eval V h, Option.some.injEq] <;> simp <;> omega, g_leaf47 V _⟩
          · by_cases b5 : 2 ≤ g1 V
            · exact ⟨gpc48, by intro f hf; simp only [gpc48, List.mem_cons, List.not_mem_nil, or_false] at hf; rcases hf with rfl | rfl | rfl | rfl | rfl | rfl | rfl | rfl | rfl | rfl | rfl | rfl | rfl | rfl | rfl | rfl | rfl | rfl | rfl | rfl | rfl | rfl | rfl | rfl | rfl <;> simp only [cmpV, SX.eval, gX1_eval V h, gX3_eval V h, gX4_eval V h, gX5_eval V h, gX6_eval V h, gX7_eval V h, gX8_eval V h, gX9_eval V h, gX10_eval V h, gX11_eval V h, Option.some.injEq] <;> simp <;> omega, g_leaf48 V _⟩
            · exact ⟨gpc49, by intro f hf; simp only [gpc49, List.mem_cons, List.not_mem_nil, or_false] at hf; rcases hf with rfl | rfl | rfl | rfl | rfl | rfl | rfl | rfl | rfl | rfl | rfl | rfl | rfl | rfl | rfl | rfl | rfl | rfl | rfl | rfl | rfl | rfl | rfl | rfl <;> simp only [cmpV, SX.eval, gX1_eval V h, gX3_eval V h, gX4_eval V h, gX5_eval V h, gX6_eval V h, gX7_eval V h, gX8_eval V h, gX9_eval V h, gX10_eval V h, gX11_eval V h, Option.some.injEq] <;> simp <;> omega, g_leaf49 V _⟩

section
variable {W0 : World} (hm : progA.follows .mixedOrders = true) (hN : Named progA) (hP : ∀ I : Val, @PrimOk I anyC progA cfgG)
include hm hN hP

theorem bodyG_ok {V : Vals} (h : gIn V) {act : Act} {w : World} (hp : PatAt W0 V stG psG [] act w) :
    bodyG.wpIn Fence.wide 0 progA (fun e act' w' => e = .ret ∧ act'.defers = [] ∧ act'.tmps.getD 6 undef = .bool true ∧ FrW W0 w') act w := by
  obtain ⟨pc, ok, hc⟩ := gated_ways V h
  exact pat_ret hm hN hP hp ⟨V, pc, ok⟩ rfl hc rfl fun act' w' h1 h2 h3 => ⟨rfl, h1, h2, h3⟩

end
end
end Go.Sim
namespace Go.Proofs.YtlcaljpiphnpiaaGreat.Gated
open Go.ChangeShapes Go.WideShapes Go.ChangeAt Go.RowKit Go.WideElems Go.Maps

theorem own : ownKnob Tryz.prog.godebug = none := by kernel_rfl

theorem mixed : Sim.progA.follows .mixedOrders = true := Checked.mixed Tryz.checked

theorem namedB : (Sim.progA.funcs.toList.all fun fn => !(fn.name == "runtime.NumGoroutine")) = true := by kernel_rfl

theorem named : Sim.Named Sim.progA := fun f fn hf => by
  have h := List.all_eq_true.1 namedB fn (by
    have := Array.mem_of_getElem? hf
    simpa using this)
  simpa using h

theorem primsB : (Sim.infos.all fun i => Nat.beq i.prim 0) = true := by kernel_rfl

theorem prim0 (f : Nat) : Nat.beq (Sim.cfg f).prim 0 = true := by
  unfold Sim.cfg
  cases hq : Sim.infos[f]? with
  | none => rfl
  | some i => exact List.all_eq_true.1 primsB i (List.mem_of_getElem? hq)

theorem prims0 (I : Sim.Val) : @Sim.PrimOk I Sim.anyC Sim.progA Sim.cfg := by
  intro f ds h r hp
  exfalso
  rw [prim0] at hp
  cases hp

theorem awakeTrue (I : Sim.Val) (h : Sim.H) : @Sim.callF Sim.cfg (@Sim.ev I Sim.progA Sim.cfg 1000) 10 [] h = some (.val (.bool true) h) := by kernel_rfl

theorem prims : ∀ I : Sim.Val, @Sim.PrimOk I Sim.anyC Sim.progA Sim.cfgG := by
  refine Sim.prims_true (cfg0 := Sim.cfg) mixed named prims0 fun f hf => ?_
  unfold Sim.cfgG at hf ⊢
  cases hb : Nat.beq f 10 with
  | false =>
    rw [hb] at hf
    simp only [Sim.cnd_false] at hf
    rw [prim0] at hf
    cases hf
  | true =>
    cases Nat.eq_of_beq_eq_true hb
    exact ⟨rfl, prim0 10, 1000, awakeTrue⟩

/-- the state at the entry -/
theorem enterG (V : Sim.Vals) (W : World) : Sim.PatAt W V Sim.stG Sim.psG [] { tmps := #[.int .u8 (V.v 0), .int .u8 (V.v 1), .int .u64 (V.v 2)] ++ Array.replicate (214 - 3) undef, defers := [] } W := by
  have h := Sim.enter_any (V := V) (cfg := Sim.cfgG) (w := W) 4 (fn := Tryz.f4) (ds := [.sx .u8 (.atom 0), .sx .u8 (.atom 1), .sx .u64 (.atom 2)]) (vs := #[.int .u8 (V.v 0), .int .u8 (V.v 1), .int .u64 (V.v 2)])
    (fun I hI => by
      letI := I
      subst hI
      refine ⟨rfl, fun k d v hd hv => ?_⟩
      match k, hd, hv with
      | 0, hd, hv => cases hd; cases hv; exact .sx .u8 (.atom 0)
      | 1, hd, hv => cases hd; cases hv; exact .sx .u8 (.atom 1)
      | 2, hd, hv => cases hd; cases hv; exact .sx .u64 (.atom 2)
      | _ + 3, hd, hv => cases hd) (by rw [Tryz.ntmps4]; decide)
  rw [Tryz.ntmps4] at h
  exact h

/-- the call, at three numbers -/
theorem gated (x y z : Int) (W : World) (hx : 0 ≤ x ∧ x ≤ 255) (hy : 0 ≤ y ∧ y ≤ 255) :
    Calls Tryz.prog 4 #[.int .u8 x, .int .u8 y, .int .u64 z] W fun e W' => e = .returned (.bool true) ∧ Below W.heap.size W W' := by
  have hpat := enterG ⟨fun n => match n with | 0 => x | 1 => y | _ => z, fun _ _ _ => 0⟩ W
  have hb := Sim.bodyG_ok (W0 := W) mixed named prims ⟨hx.1, hx.2, hy.1, hy.2⟩ hpat
  have hc : Calls Sim.progA 4 #[.int .u8 x, .int .u8 y, .int .u64 z] W fun e W' => e = .returned (.bool true) ∧ Sim.FrW W W' := by
    refine Sim.calls_top (t := 6) Tryz.func4 Sim.bodyG_eq Tryz.results4 ?_
    rw [Tryz.ntmps4]
    exact hb
  exact hc.mono fun e W' h => ⟨h.1, h.2.os, h.2.tape, h.2.output, h.2.size, h.2.keep⟩

set_option maxRecDepth 100000 in
theorem lifted (os : Os) (started : os.Started) (H : Type) (enc : TypeId × Value → H) :
    ReturnsInHanded {} Tryz.checked os 4 .any (Rows.topGatedSpec.pre6 enc Tryz.prog Tryz.f4 Rows.topGatedRow.domain false) (Rows.topGatedSpec.post enc Tryz.prog Tryz.f4 false true false false) := by
  refine returnsInHanded_of_change (C := Tryz.checked) own started (by kernel_rfl) Tryz.func4
    (ChangeSpec.witness6 (enc := enc) (C := Tryz.checked) false ⟨#[], #[.int .u8 0, .int .u8 0, .int .u64 0], []⟩ 8 (by kernel_rfl) (by kernel_rfl) (by kernel_rfl) (by kernel_rfl)) ?_
  intro W base args ds gs before hval0 hW _ _
  have hval : ∀ (j : Nat) t v, Tryz.f4.params[j]? = some t → args[j]? = some v → Value.okWide Tryz.prog W .any base t v := hval0
  have hW' := hW
  obtain ⟨p, q, hA0, hV, rfl, _, _⟩ := hW
  have hA : DataW.TrodAll enc Tryz.prog W 0 (fun _ => true) true Tryz.f4.params.toList args.toList ds p := hA0
  rw [Tryz.params4] at hA hval
  obtain ⟨v0, r1, d0, e1, p1, q1, hl0, rfl, rfl, h0, hA⟩ := trodAll_cons hA
  obtain ⟨v1, r2, d1, e2, p2, q2, rfl, rfl, rfl, h1, hA⟩ := trodAll_cons hA
  obtain ⟨v2, r3, d2, e3, p3, q3, rfl, rfl, rfl, h2, hA⟩ := trodAll_cons hA
  have hargs : args = #[v0, v1, v2] ++ r3.toArray := by
    have := congrArg List.toArray hl0
    simpa using this
  have hr3 : r3 = [] ∧ e3 = [] ∧ q3 = [] := by
    have h := trodAll_none (args := r3.toArray) (ds := e3) (ps := q3) (by simpa using hA)
    exact ⟨by simpa using h.1, h.2.1, h.2.2⟩
  obtain ⟨rfl, rfl, rfl⟩ := hr3
  obtain rfl : args = #[v0, v1, v2] := by simpa using hargs
  obtain ⟨rfl, rfl⟩ := trodVars_none hV
  obtain ⟨x, rfl, rfl, rfl, hx⟩ := open_int Tryz.underlying5 (hval 0 5 v0 rfl rfl) h0
  obtain ⟨y, rfl, rfl, rfl, hy⟩ := open_int Tryz.underlying5 (hval 1 5 v1 rfl rfl) h1
  obtain ⟨z, rfl, rfl, rfl, hz⟩ := open_int Tryz.underlying23 (hval 2 23 v2 rfl rfl) h2
  have hxr : 0 ≤ x ∧ x ≤ 255 := by
    have := hx; simp only [Lit.wf, IntKind.min, IntKind.max, IntKind.signed, IntKind.bits, Bool.and_eq_true] at this; simp at this; omega
  have hyr : 0 ≤ y ∧ y ≤ 255 := by
    have := hy; simp only [Lit.wf, IntKind.min, IntKind.max, IntKind.signed, IntKind.bits, Bool.and_eq_true] at this; simp at this; omega
  refine (gated x y z W hxr hyr).mono fun e W' ⟨he, hb⟩ => ?_
  subst he
  have hout : DataW.TrodAll enc Tryz.prog W' 0 (fun b => decide (b < W.heap.size)) true Tryz.f4.params.toList [.int .u8 x, .int .u8 y, .int .u64 z]
      [.lit (.int .u8 x), .lit (.int .u8 y), .lit (.int .u64 z)] ([] ++ ([] ++ [])) := by
    rw [Tryz.params4]
    exact ⟨_, _, shut_int Tryz.underlying5 hx, ⟨_, _, shut_int Tryz.underlying5 hy, trodAll_mk1 (shut_int Tryz.underlying23 hz), rfl⟩, rfl⟩
  exact ⟨_, rfl, ⟨_, _, _, [], _, [], hW', trodAll_mk1 (shut_bool Tryz.underlying4 _), hout, rfl, hb.frame _, fun h => by cases h⟩⟩

set_option maxRecDepth 100000 in
theorem closed : joinedFacts Tryz.prog 4 Tryz.f4 Rows.topGatedSpec Rows.topGatedRow = true := by
  unfold joinedFacts
  simp only [Bool.and_eq_true]
  exact ⟨⟨⟨⟨⟨⟨⟨⟨⟨⟨⟨⟨⟨⟨⟨⟨⟨⟨⟨⟨⟨⟨⟨⟨⟨⟨⟨⟨⟨⟨⟨fact0, fact1⟩, fact2⟩, fact3⟩, fact4⟩, fact5⟩, fact6⟩, fact7⟩, fact8⟩, fact9⟩, fact10⟩, fact11⟩, fact12⟩, fact13⟩, fact14⟩, fact15⟩, fact16⟩, fact17⟩, fact18⟩, fact19⟩, fact20⟩, fact21⟩, fact22⟩, fact23⟩, fact24⟩, fact25⟩, fact26⟩, fact27⟩, fact28⟩, fact29⟩, fact30⟩, fact31⟩

theorem nameOk : Tryz.prog.funcNamed Rows.topGatedRow.func = some 4 := by kernel_rfl

theorem wrapOk : Tryz.f4.isWrapper Tryz.prog Rows.topGatedRow.wrapper Rows.topGatedRow.mainSum := by
  unfold Func.isWrapper
  rw [if_neg (by decide +kernel)]
  exact ⟨rfl, rfl⟩

theorem instOk : Tryz.f4.isInstance Tryz.prog Rows.topGatedRow.origin Rows.topGatedRow.targs := of_decide_eq_true (by kernel_rfl)

theorem over : Rows.TopGatedSaid :=
  OpenClaim.holds_of_wide 4 Tryz.f4 rfl rfl rfl rfl rfl rfl rfl ⟨rfl, rfl, rfl, rfl, rfl⟩ rfl rfl rfl rfl rfl nameOk Tryz.func4 closed instOk wrapOk
    (fun os started H enc _ => lifted os started H enc)

end Go.Proofs.YtlcaljpiphnpiaaGreat.Gated
