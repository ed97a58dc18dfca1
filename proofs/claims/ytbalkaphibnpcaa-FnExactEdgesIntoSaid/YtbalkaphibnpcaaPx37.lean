/- Functions of the program and what they tell, as the printing program wrote it. -/
import Derived.Test.YtbalkaphibnpcaaPx0
import Derived.Test.YtbalkaphibnpcaaPx17
namespace Go.Proofs.Ytbalkaphibnpcaa.P
open Go.Shelf Go.RowKit Go.Proofs.YtbalkaphibnpcaaW.PrintWords Go.Proofs.YtbalkaphibnpcaaW.PrintLast Go.Proofs.YtbalkaphibnpcaaW.PrintMore
attribute [local go_sem] max2_int min2_int max_two min_two max_three min_three max_four min_four
set_option linter.unusedVariables false
set_option linter.unusedSimpArgs false
set_option maxHeartbeats 8000000
set_option maxRecDepth 100000
def laws_markNet.f (k : Nat) (a0_0 : Int) (a0_1 : Int) (a0_2 : Int) (a0_3 : Int) (l0_4 : List (List Int)) (l0_5 : List (List Int)) (a1 : Int) : Option (Int × List (List Int) × List (List Int)) := (laws_markInt64SS.f k l0_4 a1).bind fun bt1 => ((laws_markInt64SS.f k l0_5 bt1.1).bind fun bt2 => (some (bt2.1, bt1.2, bt2.2)))
theorem laws_markNet.mono : ∀ a0 a1 a2 a3 a4 a5 a6 k, LeO (laws_markNet.f k a0 a1 a2 a3 a4 a5 a6) (laws_markNet.f (k + 1) a0 a1 a2 a3 a4 a5 a6) := by
 intro a0 a1 a2 a3 a4 a5 a6 k
 unfold laws_markNet.f
 repeat' first
  | (with_reducible first | first | apply laws_markInt64SS.mono | exact LeO.refl _ | exact LeO.none _ | refine LeO.ite ?_ ?_ | refine LeO.bind ?_ (fun _ => ?_))
  | exact LeO.none _
  | refine LeO.ite ?_ ?_
  | refine LeO.bind ?_ (fun _ => ?_)
theorem laws_markNet.calls (k : Nat) (a0_0 : Int) (a0_1 : Int) (a0_2 : Int) (a0_3 : Int) (P4 P5 : Nat → Prop) (A4 : Option Addr) (c4 : Nat) (l4 : List (List Int)) (A5 : Option Addr) (c5 : Nat) (l5 : List (List Int)) (a1 r1 : Int) (r2 r3 : List (List Int)) (w0 w : World) (hB : Below w0.heap.size w0 w)
 (ho4 : Kd.S (Kd.slice 2 (Kd.int .i64)) 38 w w0.heap.size P4 (.slice A4 l4.length c4) l4) (ho5 : Kd.S (Kd.slice 2 (Kd.int .i64)) 38 w w0.heap.size P5 (.slice A5 l5.length c5) l5) (hap : ∀ k, P4 k → ¬ P5 k) (h : laws_markNet.f k a0_0 a0_1 a0_2 a0_3 l4 l5 a1 = some (r1, r2, r3)) :
 Calls Try.prog 24 #[.agg #[.int .i64 a0_0, .int .i64 a0_1, .int .i64 a0_2, .int .i64 a0_3, .slice A4 l4.length c4, .slice A5 l5.length c5], .int .i64 a1] w fun e w' => e = .returned (.int .i64 r1) ∧ (Kd.S (Kd.slice 2 (Kd.int .i64)) 38 w' w0.heap.size P4 (.slice A4 l4.length c4) r2 ∧ r2.length = l4.length) ∧ (Kd.S (Kd.slice 2 (Kd.int .i64)) 38 w' w0.heap.size P5 (.slice A5 l5.length c5) r3 ∧ r3.length = l5.length) ∧ Below w0.heap.size w0 w' ∧ Kept w w' (fun k => P4 k ∨ P5 k) := by
 have hu42 := Try.underlying42
 have H : ((laws_markInt64SS.f k l4 a1).bind fun bt1 => ((laws_markInt64SS.f k l5 bt1.1).bind fun bt2 => (some (bt2.1, bt1.2, bt2.2)))) = some (r1, r2, r3) := h
 clear h
 obtain ⟨⟨q1, q2⟩, A1, H⟩ := Option.bind_eq_some_iff.mp H
 obtain ⟨⟨q3, q4⟩, A2, H⟩ := Option.bind_eq_some_iff.mp H
 simp only [Option.some.injEq, Prod.mk.injEq] at H
 obtain ⟨rfl, rfl, rfl⟩ := H
 have A1' := Aq.mk A1
 have A2' := Aq.mk A2
 clear A1 A2
 have HS4 := Aq.mk (Kd.S_mono (Kd.S_bound ho4) (ok' := fun k => P4 k ∧ k < w.heap.size) (fun k hk => ⟨hk.1, hk.2.2.1⟩))
 have HS5 := Aq.mk (Kd.S_mono (Kd.S_bound ho5) (ok' := fun k => P5 k ∧ k < w.heap.size) (fun k hk => ⟨hk.1, hk.2.2.1⟩))
 have HAP := Aq.mk hap
 have HB := Aq.mk hB
 have HK := Aq.mk (Kept.refl w (fun k => P4 k ∨ P5 k))
 clear ho4 ho5 hap hB
 go_enter Try.func24, Try.ntmps24
 go_wp2_with (first
  | ((with_reducible refine gQd (N := 2) rfl ?_); refine xQe ?hg (N := 2) ?hd (cs := #[.int .i64 a0_0, .int .i64 a0_1, .int .i64 a0_2, .int .i64 a0_3, .slice A4 l4.length c4, .slice A5 l5.length c5]) (t := 42) ?hr ?_; (case hd => rfl); (case hg => rfl); (case hr => exact tH); intro gb hg w5 hbox hb; have n0_ := Aq.mk (Kd.S_below HS4.out hb); have n1_ := Aq.mk (Kd.S_below HS5.out hb); have n2_ := Aq.mk (bQT HB.out hb); have n3_ := Aq.mk (Kept.below HK.out hb); have GB := Aq.mk (show w.heap.size ≤ gb from Nat.le_of_eq hg.symm); have BK := Aq.mk hbox; clear HS4 HS5 HB HK; have HS4 := n0_; have HS5 := n1_; have HB := n2_; have HK := n3_; clear n0_ n1_ n2_ n3_ hb hg hbox; have hcz6_4 : w5.cell? ⟨gb, 4, none⟩ = some (.slice A4 l4.length c4) := (kQC BK.out 4).trans rfl; have hcz6_5 : w5.cell? ⟨gb, 3, none⟩ = some (.int .i64 a0_3) := (kQC BK.out 3).trans rfl; have hfz6_0 := kQF BK.out 4)
  | ((with_reducible refine gQc (f := 16) rfl ?_); refine goesL_ (some 8) rfl rfl Try.func16 (by kernel_rfl) rfl #[.slice A4 l4.length c4, .int .i64 a1] rfl tL ?_; (with_reducible refine (laws_markInt64SS.calls k (fun k => P4 k ∧ k < w.heap.size) A4 c4 l4 a1 q1 q2 w0 _ HB.out HS4.out A1'.out).mono ?_); rintro e w7 ⟨rfl, hs, hl, hb, hk⟩; have n0_ := Aq.mk hs; have HL4 := Aq.mk hl; have n1_ := Aq.mk (Kd.S_kept HS5.out hk (fun k_ h5 h4 => HAP.out k_ h4.1 h5.1)); have n2_ := Aq.mk hb; have n3_ := Aq.mk (HK.out.then_ hk (fun k_ hk_ => .inl (.inl hk_.1))); have n4_ := Aq.mk (blk_kept BK.out hk (fun h_ => Nat.not_le.2 h_.2 GB.out)); clear HS4 HS5 HB HK BK; have HS4 := n0_; have HS5 := n1_; have HB := n2_; have HK := n3_; have BK := n4_; clear n0_ n1_ n2_ n3_ n4_ hk hb hs hl; have hcz7_5 : w7.cell? ⟨gb, 5, none⟩ = some (.slice A5 l5.length c5) := (kQC BK.out 5).trans rfl; refine ⟨_, rfl, ?_⟩)
  | ((with_reducible refine gQc (f := 16) rfl ?_); refine goesL_ (some 12) rfl rfl Try.func16 (by kernel_rfl) rfl #[.slice A5 l5.length c5, .int .i64 q1] rfl tL ?_; (with_reducible refine (laws_markInt64SS.calls k (fun k => P5 k ∧ k < w.heap.size) A5 c5 l5 q1 q3 q4 w0 _ HB.out HS5.out A2'.out).mono ?_); rintro e w9 ⟨rfl, hs, hl, hb, hk⟩; have n0_ := Aq.mk (Kd.S_kept HS4.out hk (fun k_ h4 h5 => HAP.out k_ h4.1 h5.1)); have n1_ := Aq.mk hs; have HL5 := Aq.mk hl; have n2_ := Aq.mk hb; have n3_ := Aq.mk (HK.out.then_ hk (fun k_ hk_ => .inl (.inr hk_.1))); clear HS4 HS5 HB HK; have HS4 := n0_; have HS5 := n1_; have HB := n2_; have HK := n3_; clear n0_ n1_ n2_ n3_ hk hb hs hl; refine ⟨_, rfl, ?_⟩))
 go_ret
 exact ⟨tS, ⟨Kd.S_mono HS4.out (fun _ h_ => h_.1), HL4.out⟩, ⟨Kd.S_mono HS5.out (fun _ h_ => h_.1), HL5.out⟩, HB.out, HK.out⟩
end Go.Proofs.Ytbalkaphibnpcaa.P
